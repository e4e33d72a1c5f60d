/- A part of the proof: no condition. -/
import Derived.Test.YtigcnnkagkbflaaGreatXb15
import Derived.Test.YtigcnnkagkbflaaGreatXb16
namespace Go.Proofs.YtigcnnkagkbflaaGreat
set_option linter.unusedVariables false
set_option maxRecDepth 100000
set_option maxHeartbeats 4000000
open Go.RowKit
open Go.Proofs.Tryz
attribute [local go_sem] Qp
theorem Qc.aT{S:Nat→Prop}{w w1:World}(h:Qc S w.drew w1):Qc S w w1:=⟨h.os,h.tape,h.output,h.size,h.block⟩
def Yu(m:Nat)(ad:Int→Nat)(w:World)(F:Fp)(b:Nat)(f:Jc):Prop:=∃l:List Jh,l.Perm f.all∧Oh (Qtj b m f.mark ad l) w F
theorem Yu.obj(m:Nat)(ad:Int→Nat):Hf (Yu m ad) where
 bd:=fun⟨l,_,h⟩=>(Je (Yc _ m _ ad l)).bd h
 own:=fun⟨l,_,h⟩=>by obtain⟨G,d,k⟩:=J6 (Yc _ m _ ad l) 0 rfl h;exact k _ d.2.1
 aB:=fun⟨l,c,h⟩u z=>⟨l,c,(Je (Yc _ m _ ad l)).aB h u z⟩
 more:=fun⟨l,c,h⟩B q=>⟨l,c,(Je (Yc _ m _ ad l)).more h B q⟩
theorem J0.addr{w}{F:Fp}{b:Nat}{f:Jc}(h:J0 w F b f):∃m ad,Yu m ad w F b f:=by obtain⟨m,ad,l,h⟩:=h;exact⟨m,ad,l,h⟩
section
variable{m:Nat}{ad:Int→Nat}{w w':World}{F:Fp}{b:Nat}{f:Jc}
theorem Yu.is(h:Yu m ad w F b f):J0 w F b f:=by obtain⟨l,h⟩:=h;exact⟨m,ad,l,h⟩
theorem Yu.same(h:Yu m ad w F b f)(c:Qc Qb w w'):Yu m ad w' (Qn F w w') b f∧Qc F w w':=by obtain⟨l,q,h⟩:=h;have g:=Je (Yc b m f.mark ad l);have h':=g.aB h c (Jl.none F);exact⟨⟨l,q,g.more h' (fun k d=>.inl d) ((g.bd h).ext (c.none (F:=F)))⟩,c.none⟩
theorem Yu.coll(h:Yu m ad w F b f):∃l:List Jh,l.Perm f.all∧Qh w b #[.map (some m),ZU f.mark] 245∧∃G,Yn Jh.id Vj w G m ad l:=by obtain⟨l,q,h⟩:=h;obtain⟨u,d,_⟩:=J6 (Yc _ m _ ad l) 0 rfl h;obtain⟨c,k,_⟩:=J6 (Yc _ m _ ad l) 1 rfl h;exact⟨l,q,d.1,c,k⟩
theorem Yu.blk(h:Yu m ad w F b f):Qh w b #[.map (some m),ZU f.mark] 245:=by obtain⟨l,d,c,_⟩:=h.coll;exact c
theorem Jc.aE{i:Int}{x:Jh}(h:f.at i=some x):x∈f.all∧x.id=i:=Y3 (key:=Jh.id) h
theorem Yu.mem(h:Yu m ad w F b f){x:Jh}(hx:x∈f.all):
  ∃G:Fp,Vj w G (ad x.id) x∧(∀k,G k→F k∧k≠b)∧∀w' x',x'.id=x.id→Vj w' (Qn G w w') (ad x.id) x'→Qc G w w'→Yu m ad w' (Qn F w w') b (f.set x')∧Qc F w w':=by
 obtain⟨l,V,hs⟩:=h;obtain⟨hb,Z,H,B,h2,E,h4,R⟩:=hs;obtain⟨H1,k1,K,_,k3⟩:=Xv 0 (P:=fun w G=>Yn Jh.id Vj w G m ad l) (L:=[fun w G=>Yn Jh.id Vj w G m ad l]) (by intro P U;simp only[Zu,List.not_mem_nil,or_false]at U;subst U;exact Sm Vj.obj _ _ _) rfl h2;obtain⟨G,g1,z,g3⟩:=k1.focus Vj.obj (V.mem_iff.2 hx);have q:∀k,G k→F k:=fun k c=>R k (K k (z k c).1);have I:∀k,G k→k≠b:=fun k c e=>by subst e;exact E _ B.2.1 (K _ (z _ c).1)
 refine⟨G,g1,fun k c=>⟨q k c,I k c⟩,fun w' x' J hm d=>?_⟩;have u:Qc H1 w w':=d.sub fun k c=>(z k c).1;have cH:Qc H w w':=u.sub K;have e1:=k3 w' (fun w G=>Yn Jh.id Vj w G m ad (Lg Jh.id x' l)) u (g3 w' x' J hm d);refine⟨⟨Lg Jh.id x' l,V.map _,?_⟩,d.sub q⟩;refine Q7 (G:=Z) (H:=Qn H w w') ((Ks _ _ _).aB B cH E) e1 ?_ (fun k c=>.inl (h4 k c)) (fun k c=>Qn.mono R k c) (hb.ext (d.sub q));exact Jl.extR E ((Ks _ _ _).bd B)
theorem Yu.marked(h:Yu m ad w F b f){n:Nat}(d:Qc (fun k=>k=b) w w')(c:Qh w' b #[.map (some m),ZU n] 245):Yu m ad w' (Qn F w w') b ⟨f.all,n⟩∧Qc F w w':=by obtain⟨l,q,h⟩:=h;have:=(Xv 0 (Yc b m f.mark ad l) rfl h).cells d c;exact⟨⟨l,q,this.1⟩,this.2⟩
theorem Yu.memB(h:Yu m ad w F b f){x:Jh}(k:x∈f.all):∃p H,Qh w (ad x.id) (Pp x p) 255∧Yv w H p x.run∧ad x.id≠b:=by obtain⟨G,c,d,_⟩:=h.mem k;obtain⟨p,H,a,b',_⟩:=c.ex;exact⟨p,H,a,b',(d _ c.own).2⟩
theorem Yu.memC'(h:Yu m ad w F b f){x x':Jh}{p:Nat}(U:x∈f.all)(q:x'.id=x.id)(R:x'.run=x.run)(z:Qh w (ad x.id) (Pp x p) 255)
  (K:Qc (fun k=>k=ad x.id) w w') (J:Qh w' (ad x.id) (Pp x' p) 255):Yu m ad w' (Qn F w w') b (f.set x')∧Qc F w w':=by
 obtain⟨G,u,h2,B⟩:=h.mem U;obtain⟨p',H,a,I,E⟩:=u.ex;have e:p'=p:=by have c:=a;unfold Qh at c z;rw[z]at c;simp only[Option.some.injEq,Obj.cells.injEq,Pp,Array.mk.injEq,List.cons.injEq,ptr,Value.pointer.injEq,Addr.mk.injEq]at c;exact c.1.2.2.1.1.symm
 subst e;have d:Yv w H p' x'.run:=R▸I;obtain⟨V,Z⟩:=O1.cell (x':=x') u d E runP K J;exact B w' x' q V Z
theorem Yu.memR(h:Yu m ad w F b f){x:Jh}(I:x∈f.all):
  ∃(p:Nat)(G:Fp),Qh w (ad x.id) (Pp x p) 255∧Yv w G p x.run∧∀w' r,Yv w' (Qn G w w') p r→Qc G w w'→Yu m ad w' (Qn F w w') b (f.set {x with run:=r})∧Qc F w w':=by
 obtain⟨G,c,R,q⟩:=h.mem I;obtain⟨p,H,a,u,d⟩:=c.ex;refine⟨p,H,a,u,fun w' r E k=>?_⟩;have z:Qh w' (ad x.id) (Pp {x with run:=r} p) 255:=k.blk a (fun B=>(d _ B).2 rfl);obtain⟨J,K⟩:=O1.made (x':={x with run:=r}) c d runP k E (Zg _ _) z;exact q w' {x with run:=r} rfl J K
def Qk3(ad:Int→Nat)(f:Jc)(i:Int):Value:=atP ad i (f.at i)
theorem Yu.at_any(h:Yu m ad w F b f)(i:Int):ZW 213 #[ptr b,ZI i] w (Qk3 ad f i) fun w'=>w=w':=by obtain⟨l,k,d,G,c⟩:=h.coll;have:=Qb2 d c i;unfold Qk3;rw[Jc.at_eq k c.nodup];exact this
end
theorem Qjh{w}{F:Fp}{b:Nat}{f:Jc}(h:J0 w F b f)(i:Int):
  ZW 161 #[ptr b,ZI i] w (.tuple #[]) fun w'=>J0 w' (Qn F w w') b (f.sleep i)∧Qc F w w':=by
 obtain⟨m,ad,u⟩:=h.addr;have q:=O (u.at_any i);unfold Jc.sleep;unfold Qk3 at q;cases z:f.at i with
 |none=> have d:=O (u.same (Zg Qb w));rw[z]at q;dsimp only[atP]at q⊢;clear h u z;go_enter func161,ntmps161;go_wp2_with fail;refine Zy q ?_;rintro w1 rfl;go_wp2;refine bodyPost_end (by simp[*,results,Tryz.results161,go_sem]) rfl ⟨rfl,d.o.1.is,d.o.2⟩
 |some x=>
  obtain⟨E,rfl⟩:=Jc.aE z;obtain⟨p,H,B,_,_⟩:=u.memB E;have I:=O B;have d:Hi (∀w',Qc (fun k=>k=ad x.id) w w'→Qh w' (ad x.id) (Pp {x with aL:=false} p) 255→J0 w' (Qn F w w') b (f.set {x with aL:=false})∧Qc F w w'):=O (fun w' K J=>by
   obtain⟨a,c⟩:=u.memC' (x':={x with aL:=false}) E rfl rfl I.o K J;exact⟨a.is,c⟩)
  obtain⟨R,U,V,Z⟩:=X9 B;have z0:=B.frozen 3;rw[z]at q;dsimp only[atP]at q⊢;clear h u z B E;go_enter func161,ntmps161;go_wp2_with fail;refine Zy q ?_;rintro w1 rfl;go_wp2;refine bodyPost_end (by simp[*,results,Tryz.results161,go_sem]) rfl ⟨rfl,d.o _ Z0 (I.o.set' 3 _ rfl)⟩
theorem Qb3{w}{F:Fp}{b:Nat}{f:Jc}(h:J0 w F b f)(i:Int):
  ZW 182 #[ptr b,ZI i] w (.bool (f.at i).isSome) fun w'=>J0 w' (Qn F w w') b (f.drop i)∧Qc F w w':=by
 obtain⟨m,ad,I⟩:=h.addr;have q:=O (I.at_any i);unfold Qk3 at q;cases E:f.at i with
 |none=>
  have e:f.drop i=f:=by
   unfold Jc.drop;have:(f.all.filter fun m=>!decide (m.id=i))=f.all:=List.filter_eq_self.2 fun y hy=>by have:=Lz (key:=Jh.id) E y hy;simpa using this
   rw[this]
  have c:=O (I.same (Zg Qb w));rw[e];rw[E]at q;dsimp only[atP,Option.isSome_none]at q⊢;clear h I E e;go_enter func182,ntmps182;go_wp2_with fail;refine Zy q ?_;rintro w1 rfl;go_wp2;go_ret;exact⟨rfl,c.o.1.is,c.o.2⟩
 |some x=>
  obtain⟨l,hp,V⟩:=I;have J:=(J6 (Yc b m f.mark ad l) 0 rfl V);obtain⟨G0,J,_⟩:=J;obtain⟨G,z,Z,R,d⟩:=Xv 1 (Yc b m f.mark ad l) rfl V;obtain⟨w',aa,B,u⟩:=Di (P:=prog) z.map underlying243 underlying3 3 0 i;have c:Hi (J0 w' (Qn F w w') b (f.drop i)∧Qc F w w'):=O (by
   have K:Qc G w w':=u.sub fun k U=>U▸z.at_;have h1:Yn Jh.id Vj w' (Qn G w w') m ad (Kp Jh.id i l):=(z.del Vj.obj i B u).more (fun k U=>.inl U) (z.bd.ext K);exact⟨⟨m,ad,Kp Jh.id i l,hp.filter _,d w' (fun w G=>Yn Jh.id Vj w G m ad (Kp Jh.id i l)) K h1⟩,K.sub Z⟩)
  obtain⟨a0,a1⟩:=Q4 J.1;rw[E]at q;dsimp only[atP,Option.isSome_some]at q⊢;clear h E V d Z R z B u J hp;go_enter func182,ntmps182;go_wp2_with fail;refine Zy q ?_;rintro w1 rfl;go_wp2;go_ret;exact⟨rfl,c.o.1,c.o.2⟩
section
attribute [local go_sem ↓] X8 Yd
theorem Jc.set_set(f:Jc){a b:Jh}(h:a.id=b.id):(f.set a).set b=f.set b:=by
 unfold Jc.set;simp only[List.map_map,Jc.mk.injEq,and_true];refine List.map_congr_left fun x _=>?_;simp only[Function.comp];by_cases c:x.id=a.id;·rw[if_pos c,if_pos h,if_pos (c.trans h)]
 ·rw[if_neg c]
theorem Jc.mem_set{f:Jc}{x a:Jh}(c:x∈f.all)(h:a.id=x.id):a∈(f.set a).all:=Z3.2 ⟨x,c,if_pos h.symm⟩
theorem Qmv{w}{b q c:Nat}{z v0 v1 v2 v3:Value}(k:Qh w b #[z,ZU c] 245)(u:Qh w q #[v0,v1,v2,v3] 255)(d:q≠b)(v:Nat):
  ZW 214 #[ptr b,ptr q,ZU v] w (.tuple #[]) fun w'=>w'=(w.setCell ⟨q,1,none⟩ (ZU v)).setCell ⟨b,1,none⟩ (ZU ((max c v:Nat):Int)):=by
 obtain⟨B,E⟩:=Q4 (k.other (a:=⟨q,1,none⟩) (ZU v) d);have z0:=(k.other (a:=⟨q,1,none⟩) (ZU v) d).frozen 1;have U:=u.frozen 1;obtain⟨I,J,K,R⟩:=X9 u;have e:max (c:Int) (v:Int)=((max c v:Nat):Int):=by omega
 rw[←e];clear k u e;go_enter func214,ntmps214;go_wp2;refine bodyPost_end (by simp[*,results,Tryz.results214,go_sem]) rfl ⟨rfl,?_⟩;first|rfl|simp
theorem Yu.madeW{m:Nat}{ad:Int→Nat}{w w'}{F:Fp}{b:Nat}{f:Jc}(h:Yu m ad w F b f){x:Jh}(k:x∈f.all)(v:Nat)
  (E:w'=(w.setCell ⟨ad x.id,1,none⟩ (ZU v)).setCell ⟨b,1,none⟩ (ZU ((max f.mark v:Nat):Int))):Yu m ad w' (Qn F w w') b (f.made x v)∧Qc F w w':=by
 subst E;obtain⟨p,H,d,_,B⟩:=h.memB k;obtain⟨c,q⟩:=h.memC' (x':={x with v:=v}) k rfl rfl d ((Zg _ w).setCell (a:=⟨ad x.id,1,none⟩) (ZU v) (.inl rfl)) (d.set' 1 _ rfl);obtain⟨z,u⟩:=c.marked (n:=max f.mark v) ((Zg _ _).setCell (a:=⟨b,1,none⟩) (ZU ((max f.mark v:Nat):Int)) (.inl rfl)) (c.blk.set' 1 _ rfl);exact(Yu.obj m ad).two z ((Yu.obj m ad).bd h) q u
theorem Qb4{m:Nat}{ad:Int→Nat}{w}{F:Fp}{b:Nat}{f:Jc}(h:Yu m ad w F b f){x:Jh}(d:x∈f.all)(v:Nat):
  ZW 214 #[ptr b,ptr (ad x.id),ZU v] w (.tuple #[]) fun w'=>Yu m ad w' (Qn F w w') b (f.made x v)∧Qc F w w':=by
 obtain⟨p,H,k,_,c⟩:=h.memB d;refine Zz (Qmv h.blk k c v) ?_;intro w1 q;exact⟨rfl,h.madeW d v q⟩
theorem Qmu{w}{F:Fp}{b:Nat}{f:Jc}(h:J0 w F b f)(hN:∀x∈f.all,x.total≤Xw∧x.run.l.length<1099511627776)(i:Int)(g:Nat)(hg:g<18446744073709551616):
  ZW 157 #[ptr b,ZI i,ZU g] w (.tuple #[]) fun w'=>J0 w' (Qn F w w') b (f.gain i g)∧Qc F w w':=by
 obtain⟨m,ad,I⟩:=h.addr;have E:=O (I.at_any i);unfold Jc.gain;unfold Qk3 at E;cases hx:f.at i with
 |none=> have c:=O (I.same (Zg Qb w));rw[hx]at E;dsimp only[atP]at E⊢;clear h I hx hN;go_enter func157,ntmps157;go_wp2_with fail;refine Zy E ?_;rintro w1 rfl;go_wp2;refine bodyPost_ret (results_none rfl _ _ _) rfl ⟨rfl,c.o.1.is,c.o.2⟩
 |some x=>
  obtain⟨Z,rfl⟩:=Jc.aE hx;obtain⟨K,ab⟩:=hN x Z;obtain⟨p,H,z,_,ae⟩:=I.memB Z;obtain⟨T,hT⟩:=Zx (x.total+min g (Xw-x.total));have aa:T≤Xw:=by omega
  have e1:IntKind.u64.wrap (4611686018427387904-(x.total:Int))=((Xw-x.total:Nat):Int):=by rw[IntWalk.u64_in _ (by have:=Yz;omega)];have:=Yz;omega
  have e2:min (g:Int) ((Xw-x.total:Nat):Int)=((min g (Xw-x.total):Nat):Int):=by omega
  have e3:IntKind.u64.wrap ((x.total:Int)+((min g (Xw-x.total):Nat):Int))=(T:Int):=by rw[IntWalk.u64_in _ (by have:=Yz;omega)];omega
  have HM:=O z;obtain⟨W,V⟩:=Zx ((w.setCell ⟨ad x.id,0,none⟩ (ZU T)).drew);have U:Hi (Yu m ad W (Qn F w W) b (f.set {x with total:=T})∧Qc F w W):=O (by
   rw[V];exact I.memC' (x':={x with total:=T}) Z rfl rfl z ((Zg (fun k=>k=ad x.id) w).setCell (a:=⟨ad x.id,0,none⟩) (ZU T) (.inl rfl)).drew (z.set' 0 _ rfl).drew)
  have BW:Hi (Qh W (ad x.id) (Pp {x with total:=T} p) 255):=O (by rw[V];exact(z.set' 0 _ rfl).drew);have SS:=O (f.set_set (a:={x with total:=T}) (b:={{x with total:=T}with v:=x.run.reach T}) rfl);have MM:=O (Jc.mem_set (a:={x with total:=T}) Z rfl);have af:=O ((Yu.obj m ad).bd I);rw[hx]at E;dsimp only[atP]at E⊢;rw[←hT];rcases Bool.eq_false_or_eq_true x.aL with d|d
  rotate_left
  ·rw[if_neg (by rw[d];decide)];obtain⟨a0,a1,a2,a3⟩:=X9 z.drew;have z0:=z.drew.frozen 0;obtain⟨d0,d1,d2,d3⟩:=X9 BW.o;simp only[d]at a3 d3;have c:=O U.o;generalize Xw-x.total=u at e1 e2 e3;generalize min g u=u2 at e2 e3;clear h I hx z Z K hT aa hN d ae;go_enter func157,ntmps157;go_wp2_with fail;refine Zy E ?_;rintro w1 rfl;go_wp2_with fail;refine ZB [0,1,2,3,4,5,6,7,8,9,10,11,12,13,214] ?_;simp only[Z8,Zf,Ze,Zd];iterate 14 (refine Jq (h:=?_))
   refine J7 ?_;go_wp2_with fail;refine Jo ?_;rw[←V];clear a0 a1 a2 a3 z0 V;go_wp2_with fail;refine bodyPost_end (by simp[*,results,Tryz.results157,go_sem]) rfl ⟨rfl,c.o.1.is,c.o.2⟩
  ·rw[if_pos d];obtain⟨a0,a1,a2,a3⟩:=X9 z.drew;have z0:=z.drew.frozen 0;obtain⟨q,G,R,J,_⟩:=U.o.1.memR MM.o;obtain⟨_,_,_,d3⟩:=X9 R;obtain⟨g0,g1,g2,g3⟩:=X9 R.drew;have HR:=O (fun w'(hc:Qc Qb W w')=>Ru (runP.aB J hc (Jl.none G)) ab T (by have:=Yz;omega));have c:Hi (∀w2,Qc Qb W w2→∀w3,Yu m ad w3 (Qn (Qn (Qn F w W) W w2) w2 w3) b ((f.set {x with total:=T}).made {x with total:=T} (x.run.reach T))→Qc (Qn (Qn F w W) W w2) w2 w3→J0 w3 (Qn F w w3) b (f.made {x with total:=T} (x.run.reach T))∧Qc F w w3):=O (by
    intro w2 B w3 h3 c3;obtain⟨s1,s2⟩:=U.o.1.same B;obtain⟨t1,t2⟩:=(Yu.obj m ad).two h3 ((Yu.obj m ad).bd U.o.1) s2 c3;obtain⟨u1,u2⟩:=(Yu.obj m ad).two t1 af.o U.o.2 t2;have e:(f.set {x with total:=T}).made {x with total:=T} (x.run.reach T)=f.made {x with total:=T} (x.run.reach T):=by unfold Jc.made;rw[SS.o];rfl
    rw[e]at u1;exact⟨u1.is,u2⟩)
   have ag:Hi (∀w2,Qc Qb W w2→Yu m ad w2 (Qn (Qn F w W) W w2) b (f.set {x with total:=T})):=O (fun w2 B=>(U.o.1.same B).1);simp only[d]at a3 d3;generalize hv:x.run.reach T=v at HR c⊢;generalize Xw-x.total=u at e1 e2 e3;generalize min g u=u2 at e2 e3;clear h I hx z Z K hT aa hN d ae R J hv;go_enter func157,ntmps157;go_wp2_with fail;refine Zy E ?_;rintro w1 rfl;go_wp2_with fail;refine ZB [0,1,2,3,4,5,6,7,8,9,10,11,12,13,214] ?_;simp only[Z8,Zf,Ze,Zd];iterate 14 (refine Jq (h:=?_))
   refine J7 ?_;go_wp2_with fail;refine Jo ?_;rw[←V];clear a0 a1 a2 a3 z0 V;go_wp2_with fail;refine ZB [100,101,2,3,4,5,6,7,8,9,210,211] ?_;simp only[Z8,Zf,Ze,Zd];iterate 2 (refine Q8 (h:=?_);try simp only[Act.put,Za,Zc,Zb])
   iterate 8 (refine Jq (h:=?_))
   clear d3 g0 g1 g2 g3;refine J7 ?_;go_wp2_with fail;refine Zz (HR.o _ (Zg _ W).drew) ?_;intro w2 B;replace B:=B.aT;have ac:=ag.o _ B;have C2:=O B;clear B;go_wp2_with fail;refine J7 ?_;go_wp2_with fail;refine Zz (Qb4 ac (x:={x with total:=T}) MM.o v) ?_;rintro w3⟨h3,c3⟩;have FF:=O (c.o _ C2.o _ h3 c3);clear h3 c3 ac;go_wp2_with fail;refine Jo ?_;go_wp2_with fail;refine bodyPost_end (by simp[*,results,Tryz.results157,go_sem]) rfl ⟨rfl,FF.o⟩
end
section
theorem Wk(m:Nat)(w):(binOp .eql 243 (.map (some m)) (.map none)).run prog w=.ok (.bool false) w:=by kernel_rfl
attribute [local go_sem] Wk
theorem Yu.ne{m:Nat}{ad:Int→Nat}{w}{F:Fp}{b:Nat}{f:Jc}(h:Yu m ad w F b f):b≠m:=by obtain⟨l,B,z,G,H,c,⟨_,u,_,q,_,_,k,_⟩,d,_⟩:=h;rintro rfl;exact d _ c.2.1 (k _ q.at_)
theorem Qeh{w}{F:Fp}{b:Nat}{f:Jc}(h:J0 w F b f)(i:Int)(c:Jy)(hc:c.May):
  Cl 169 #[ptr b,ZI i,cV c] w fun e w'=>(∃r,e=.returned (.bool r))∧J0 w' (Qn F w w') b (f.add i c)∧Qc F w w':=by
 obtain⟨W,E⟩:=Zx (w.alloc (.cells #[ZU c.f,ZU c.l,ZU c.r] 27));have C0:Hi (Qc Qb w W):=O (by rw[E];exact(Zg _ _).alloc _);have B0:Hi (Qh W w.heap.size #[ZU c.f,ZU c.l,ZU c.r] 27):=O (by rw[E];exact Qh.new _ _ _);obtain⟨m,ad,R⟩:=h.addr;obtain⟨hA,ag⟩:=R.same C0.o;have al:=O (J0.obj.bd h);have K:=O (hA.at_any i);have HM:=O (fun w=>K8 c w);rw[decide_eq_true hc]at HM;unfold Jc.add;unfold Qk3 at K;cases hx:f.at i with
 |some x=> have J:=O hA;have q:=hA.blk;rw[E]at q;obtain⟨a0,a1⟩:=Q4 q;clear q;rw[hx]at K;dsimp only[atP]at K⊢;unfold ptr cV at*;clear h hA hx R ag;go_enter func169,ntmps169;go_wp2_with fail;rw[←E]at a0 a1⊢;clear E;refine Zy K ?_;rintro w1 rfl;go_wp2;go_ret;exact⟨⟨_,rfl⟩,J.o.is,C0.o.none⟩
 |none=>
  have HN:=O (fun w=>Cv c hc w);have an:=O hA.ne;obtain⟨l,hp,hs⟩:=hA;obtain⟨G0,hB,_⟩:=J6 (Yc b m f.mark ad l) 0 rfl hs;obtain⟨G,U,hG,ae,I⟩:=Xv 1 (Yc b m f.mark ad l) rfl hs;have hB:=hB.1;have BB:=O hB;have ao:=O U;have ai:Hn Jh.id i l=none:=by rw[←Jc.at_eq hp U.nodup];exact hx
  have q:=hB;rw[E]at q;obtain⟨a0,a1⟩:=Q4 q;clear q;have J:Hi (∀w3 p H,Yv w3 H p (.new c)→(∀k,H k→W.heap.size≤k)→Qc Qb W w3→∀w4,w4=w3.alloc (.cells #[ZU 0,ZU 0,ptr p,.bool false] 255)→∃d,(Instr.mapUpdate 243 (.map (some m)) (ZI i) (ptr w3.heap.size)).run prog w4=.ok () d∧J0 d (Qn F w d) b ⟨f.all++[(⟨i,0,0,.new c,false⟩:Jh)],f.mark⟩∧Qc F w d∧Qc (fun k=>k=m) w4 d):=O (by
   rintro w3 p H hR hH Z w4 rfl;have ac:Qc Qb w3 (w3.alloc (.cells #[ZU 0,ZU 0,ptr p,.bool false] 255)):=(Zg _ _).alloc _;have c4:=Z.aA ac;obtain⟨d,aj,B,c5⟩:=X6 (P:=prog) (U.map.aB c4 (fun h=>h)) underlying243 underlying3 i (ptr w3.heap.size);have Xg:W.heap.size≤w3.heap.size:=Z.size;have hX:Vj (w3.alloc (.cells #[ZU 0,ZU 0,ptr p,.bool false] 255)) (Qn Qb W (w3.alloc (.cells #[ZU 0,ZU 0,ptr p,.bool false] 255))) w3.heap.size (⟨i,0,0,.new c,false⟩:Jh):=
    O1.new (p:=p) (G:=H) (runP.aB hR ac (Jl.none _)) hH runP (Qh.new _ _ _) Xg (fun u=>absurd (runP.bd hR _ u) (by omega))
   have am:=U.aB Vj.obj c4 (Jl.none G);have V:=am.put Vj.obj hX (fun k a b=>by
    have:=ae k (hG k b);rcases(Qr k).1 a with⟨q,_⟩;omega) (key:=Jh.id) ai B c5
   have cG:Qc G W d:=(c4.none (F:=G)).aA (c5.sub fun k u=>u▸U.at_);have h5:=I d (fun w G=>Yn Jh.id Vj w G m (fun j=>if j=i then w3.heap.size else ad j) (l++[(⟨i,0,0,.new c,false⟩:Jh)])) cG
    (V.more (fun k u=>u.elim .inl (fun u=>.inr ⟨((Qr k).1 u).1,Nat.lt_of_lt_of_le ((Qr k).1 u).2 c5.size⟩)) (U.bd.ext cG))
   have cF:Qc (Qn F w W) W d:=cG.sub hG;obtain⟨r1,r2⟩:=J0.obj.two (F:=F) (w:=w) (w1:=W) (w2:=d) (b:=b) (z:=⟨f.all++[(⟨i,0,0,.new c,false⟩:Jh)],f.mark⟩) ⟨m,(fun j=>if j=i then w3.heap.size else ad j),l++[(⟨i,0,0,.new c,false⟩:Jh)],hp.append_right _,h5⟩ al.o C0.o.none cF;exact⟨d,aj,r1,r2,c5⟩)
  rw[hx]at K;dsimp only[atP]at K⊢;unfold ptr cV at*;clear h hx hs I hG ae U hp R ag ai hB;go_enter func169,ntmps169;go_wp2_with fail;rw[←E]at a0 a1⊢;clear E;refine Zy K ?_;rintro w1 rfl;obtain⟨b0,b1,b2⟩:=L6 B0.o;go_wp2_with fail;refine Zz (HM.o _) ?_;intro w2 c2;have C2:=O c2;obtain⟨d0,d1,d2⟩:=L6 (c2.blk B0.o (fun h=>h)).drew;clear c2 a0 a1 b0 b1 b2;go_wp2_with fail;have B2:=O (C2.o.blk BB.o (fun h=>h));refine ZC [100,101,102,103,104,5,206,7,208,309] (fun wv=>Qc (fun k=>k=m) (w2) wv) ?_;simp only[Z8,Zf,Ze,Zd];iterate 5 (refine Qy (by kernel_rfl) (fun wv hv=>by(have zz:=hv.blk B2.o an.o;obtain⟨y0,y1⟩:=Q4 zz);go_simp;try rfl) ?_;try simp only[Act.put,Za,Zc,Zb])
  refine Xe (h:=?_);clear d0 d1 d2;refine Yb ?_;go_wp2_with fail;refine(HN.o _).mono ?_;rintro e w3⟨p,rfl,hR,Z⟩;have aa:=O (Z.aT.none (F:=fun k=>k=m));have C3:=O (C2.o.aA Z.aT);have HR:=O hR;have ak:=O (fun k(u:Qn Qb w2.drew w3 k)=>show W.heap.size≤k from Zp C2.o.size ((Qr k).1 u).1);have ab:=O (J.o w3 p _ hR ak.o C3.o _ rfl);clear Z hR;go_wp2_with fail;refine⟨aa.o,?_⟩;refine Xe (h:=?_);refine Yb ?_;go_wp2_with fail;refine⟨aa.o.alloc _,?_⟩;obtain⟨d,ap,ah,af,B⟩:=ab.o;have F5:=O ah;have C5:=O af;have M5:=O B;clear ah af B;refine Km ?_;go_wp2_with fail;refine Ky ?_;go_wp2;go_ret;exact⟨⟨_,rfl⟩,F5.o,C5.o⟩
end
section
open Go.Shelf
attribute [local go_sem] Oper.semAt_some Qp
theorem Le.far{T S:Fp}{W w1 w2}(h:Le T W w1)(z:Qc S w1 w2)(q:∀k,S k→W.heap.size≤k):Le T W w2:=fun b o u c d=>by have Xg:=(Z2.1 c).1;exact z.heap (h b o u c d) (fun B=>by have:=q b B;omega)
theorem Kj.kpt{T:Fp}{w w'}{b r:Nat}{l left:List (Int×Value)}(h:Kj w b r l left)(k:Le T w w')(R:T b)(U:T r):Kj w' b r l left:=by obtain⟨q,c,d,u,z,B,E,I,J,K⟩:=h;exact⟨q,c,d,k b _ R u (.inr rfl),z,B,E,I,k r _ U J (.inr rfl),K⟩
theorem O8{X:Type}{key:X→Int}{x:X}:∀{l:List X},(l.map key).Nodup→x∈l→l.Perm (x::Kp key (key x) l)
 |y::l,hn,c=>by
  simp only[List.map_cons,List.nodup_cons]at hn;rcases Zu.1 c with rfl|c
  ·have:Kp key (key x) (x::l)=l:=by unfold Kp;rw[List.filter_cons_of_neg (by simp)];refine List.filter_eq_self.2 fun z k=>?_;have:key z≠key x:=fun e=>hn.1 (Z3.2 ⟨z,k,e⟩);simpa using this
   rw[this]
  ·have d:key y≠key x:=fun e=>hn.1 (Z3.2 ⟨x,c,e.symm⟩);have:Kp key (key x) (y::l)=y::Kp key (key x) l:=by unfold Kp;rw[List.filter_cons_of_pos (by simpa using d)]
   rw[this];exact((O8 hn.2 c).cons y).trans (.swap x y _)
theorem Hr{X:Type}{key:X→Int}{ad:Int→Nat}(i:Int)(l:List X):Vu i (Xy key ad l)=Xy key ad (Kp key i l):=by simp only[Xy,Kp,Vu,List.filter_map];rfl
def Qt1(ad:Int→Nat){l:List Jh}(x:{x:Jh//x∈l}):Array Value:=#[ZI x.1.id,ptr (ad x.1.id)]
structure Ah(w:World)(b m:Nat)(ad:Int→Nat)(pr:Int→Nat)(l:List Jh)(mark:Nat):Prop where
 blk:Qh w b #[.map (some m),ZU mark] 245
 map:Xq w m (Xy Jh.id ad l)
 mem:∀x∈l,Qh w (ad x.id) (Pp x (pr x.id)) 255
theorem Ah.aB{S:Fp}{w w'}{b m:Nat}{ad pr:Int→Nat}{l:List Jh}{c:Nat}(h:Ah w b m ad pr l c)(d:Qc S w w')(q:¬S b)(u:¬S m)(ha:∀x∈l,¬S (ad x.id)):Ah w' b m ad pr l c where
 blk:=d.blk h.blk q
 map:=h.map.aB d u
 mem:=fun x k=>d.blk (h.mem x k) (ha x k)
def Dq(w:World)(r:Nat):Nat:=match w.heap[r]? with
 |some (.mapIter (some b) _ seen _)=>(match w.heap[b]? with
  |some (.map es _)=>(leftOf es seen).size
  |_=>0)
 |_=>0
theorem Kj.left_eq{w}{b r:Nat}{l left:List (Int×Value)}(h:Kj w b r l left):Dq w r=left.length:=by
 obtain⟨k,d,c,q,B,E,I,J,u,K,z,R⟩:=h;have:(leftOf k c).size=left.length:=by simpa using congrArg List.length z
 simp[Dq,u,q,this]
theorem Qc.grownRow{w w'}{r:Nat}(h:Qc (fun k=>k=r) w w'):w.grownBy w' (some r):=⟨h.os,h.tape,h.output,h.size,fun k d c=>h.block k d (fun e=>c (by rw[e]))⟩
theorem Qhf(w:World)(o:Obj):w.grownBy (w.alloc o) none:=⟨rfl,rfl,rfl,by simp,fun k c _=>Below.heap_alloc _ _ _ c⟩
theorem Kj.walk{w}{b r:Nat}{l left:List (Int×Value)}(h:Kj w b r l left):∃o:Obj,w.heap[r]? =some o∧o.isWalk=true:=by obtain⟨q,c,d,u,z,B,E,I,k,_⟩:=h;exact⟨_,k,rfl⟩
theorem Qu8(n l' Bf b m ap:Nat)(hn:1≤n)(T:Fp)(ad pr:Int→Nat)(l:List Jh)(an:(l.map Jh.id).Nodup)(J Jx:List {x:Jh//x∈l}→World→Prop)(W:World)
  (hJ:AbidesFrom W.heap.size J) (hB:Qh W Bf #[ptr b] 145) (hV:Ah W b m ad pr l ap)
  (ax:T Bf) (aw:T b) (ak:T m) (aj:∀x∈l,T (ad x.id)) (al:∀k,W.heap.size≤k→T k)
  (hY:∀c x W1,J c W1→c.length<l.length→YieldAt Fence.wide (n-1) prog l' (Qt1 ad x) W1 fun e W'=>
   (e=.returned (.bool true)∧J (c++[x]) W'∧Le T W1 W')∨(e=.returned (.bool false)∧Jx (c++[x]) W')) (h0:J [] W):
  CallsIn Fence.wide n prog 266 #[.func (.yield l') #[] #[],ZP Bf] W fun e W'=>(∃v,e=.returned v)∧
   ((∃ys,(ys.map (·.1)).Perm (l.filter (·.aL))∧J ys W')∨(∃c,True∧Jx c W')):=by
 obtain⟨o,a2,B⟩:=Er (P:=prog) hV.map underlying243;have c0:=Jf hB;obtain⟨c1,c2⟩:=Q4 hV.blk;have ah:Hi (∃q c,Kj (W.alloc o) m W.heap.size (Xy Jh.id ad l) (Xy Jh.id ad q)∧q.Sublist l∧(c.map (·.1)++q.filter (·.aL)).Perm (l.filter (·.aL))∧c.length+q.length≤l.length∧J c (W.alloc o)∧Le T W (W.alloc o)):=
  O ⟨l,[],B,List.Sublist.refl _,List.Perm.refl _,by simp,hJ _ _ _ none h0 (Qhf W o) (fun r e=>by cases e),Le.far (fun b o _ h _=>h:Le T W W) ((Zg Qb W).alloc o) (fun _ h=>h.elim)⟩
 have HV:=O hV;have HJ:=O hJ;have HY:=O hY;have av:=O aj;have HT:=O (Zt ak al);clear hB hV hJ hY B h0 ax aw ak aj al;refine callsIn_of_wp func266 rfl trivial ?_ rfl;simp only[ntmps266,List.size_toArray,Zm,List.length_nil,Nat.reduceAdd,Nat.reduceSub,Array.replicate_succ,Array.replicate_zero,List.push_toArray,List.append_toArray,List.nil_append,List.cons_append];gi_wp2;gi_loopw [3,4] (fun _ _ wr=>∃q c,Kj wr m W.heap.size (Xy Jh.id ad l) (Xy Jh.id ad q)∧q.Sublist l∧(c.map (·.1)++q.filter (·.aL)).Perm (l.filter (·.aL))∧c.length+q.length≤l.length∧J c wr∧Le T W wr) (fun _ _ wr=>Dq wr W.heap.size);case atStart=>exact ah.o
 case round=>
  obtain⟨q,c,B,z,d,V,hj,hk⟩:=hrel;rcases Rx (P:=prog) B 0 with⟨h0,hr⟩|⟨p,hp,w2,hr,u,aa,am⟩
  ·have az:q=[]:=by
    cases q with
    |nil=>rfl
    |cons a l=>cases h0
   subst az;have ar:=O (show(c.map (·.1)).Perm (l.filter (·.aL)) by simpa using d);have au:=O hj;clear B z d V hj hk;gi_wp2;go_end0;exact⟨⟨_,rfl⟩,.inl ⟨c,ar.o,au.o⟩⟩
  ·obtain⟨x,hx,rfl⟩:=Z3.1 hp;have I:=z.subset hx;have R:Le T W w2:=Le.far hk aa (fun k e=>by rw[e];exact Zv _);have ab:J c w2:=HJ.o c wr w2 (some W.heap.size) hj aa.grownRow (fun r e=>by cases e;exact⟨Zv _,B.walk⟩);have hM:Qh w2 (ad x.id) (Pp x (pr x.id)) 255:=R.blk (HV.o.mem x I) (av.o x I);obtain⟨d0,d1,d2,d3⟩:=X9 hM;have Xg:Dq w2 W.heap.size<Dq wr W.heap.size:=by rw[u.left_eq,B.left_eq,Hr];have:=(O8 (key:=Jh.id) (an.sublist (z.map _)) hx).length_eq;simp only[Xy,List.length_map,Zm]at*;omega
   dsimp only at u;rw[Hr]at u;have K:=O8 (key:=Jh.id) (an.sublist (z.map _)) hx;have E:(Kp Jh.id x.id q).Sublist l:=List.filter_sublist.trans z;dsimp only at hr am;unfold ptr at hr am;cases ac:x.aL with
   |false=>
    rw[ac]at d3;have ag:Hi (∃q c,Kj w2 m W.heap.size (Xy Jh.id ad l) (Xy Jh.id ad q)∧q.Sublist l∧(c.map (·.1)++q.filter (·.aL)).Perm (l.filter (·.aL))∧c.length+q.length≤l.length∧J c w2∧Le T W w2):=O (by
     refine⟨Kp Jh.id x.id q,c,u,E,?_,?_,ab,R⟩;·refine(List.Perm.append_left (c.map (·.1)) ?_).trans d;have:=(K.filter (·.aL)).symm;rwa[List.filter_cons_of_neg (by rw[ac];decide)]at this
     ·have:=K.length_eq;simp at this;omega)
    have LT:=O Xg;clear B z d V hj hk u aa R ab hM Xg K E hx I hp;gi_wp2;refine⟨fun _ h=>(by cases h),?_⟩;gi_wp2;go_roundw;case rel=>exact ag.o
    case measure=>exact LT.o
   |true=>
    rw[ac]at d3;have ao:c.length<l.length:=by have:=List.length_pos_of_mem hx;omega
    obtain⟨fn,a1,aq,a0,hy,hR⟩:=HY.o c ⟨x,I⟩ w2 ab ao;have HR:=O hR;have ag:Hi (∀Z,J (c++[⟨x,I⟩]) Z→Le T w2 Z→(∃q c,Kj Z m W.heap.size (Xy Jh.id ad l) (Xy Jh.id ad q)∧q.Sublist l∧(c.map (·.1)++q.filter (·.aL)).Perm (l.filter (·.aL))∧c.length+q.length≤l.length∧J c Z∧Le T W Z)∧Dq Z W.heap.size<Dq wr W.heap.size):=O (by
     intro Z ay U;have af:=u.kpt U HT.o.1 (HT.o.2 _ (Zv _));refine⟨⟨Kp Jh.id x.id q,c++[⟨x,I⟩],af,E,?_,?_,ay,R.trans U⟩,?_⟩
     ·have e:(c++[(⟨x,I⟩:{x:Jh//x∈l})]).map (·.1)++(Kp Jh.id x.id q).filter (·.aL)=c.map (·.1)++(x::(Kp Jh.id x.id q).filter (·.aL)):=by simp
      rw[e];refine(List.Perm.append_left (c.map (·.1)) ?_).trans d;have:=(K.filter (·.aL)).symm;rwa[List.filter_cons_of_pos (by rw[ac])]at this
     ·have:=K.length_eq;simp at this⊢;omega
     ·rw[af.left_eq,←u.left_eq];exact Xg)
    unfold Qt1 ptr at hy;clear B z d V hj hk u aa R ab hM Xg K E hx hp hR ao;gi_wp2;refine HR.o.mono ?_;clear hy;rintro e Z(⟨rfl,ai,U⟩|⟨rfl,ae⟩)
    ·have R3:=O (ag.o Z ai U);clear ai U;gi_wp2;go_roundw;case rel=>exact R3.o.1
     case measure=>exact R3.o.2
    ·have X3:=O ae;clear ae;gi_wp2;refine bodyPost_ret (results_none rfl _ _ _) rfl ?_;exact⟨⟨_,rfl⟩,.inr ⟨_,trivial,X3.o⟩⟩
theorem Qs0(n d b m c:Nat)(hn:1≤n)(T:Fp)(ad pr:Int→Nat)(l:List Jh)(K:(l.map Jh.id).Nodup)(w)(V:Qh w d #[ptr b] 145)(hV:Ah w b m ad pr l c)
  (z:T d) (u:T b) (B:T m) (q:∀x∈l,T (ad x.id)) (E:∀k,w.heap.size≤k→T k):
  SeqStopsK Fence.wide n prog 266 #[ZP d] (Qt1 ad (l:=l)) (Le T) (fun ys=>(ys.map (·.1)).Perm (l.filter (·.aL))) (fun _=>True) l.length w:=fun l' J R W I Z _ hY U=>
 Qu8 n l' d b m c hn T ad pr l K J R W Z ((Qc.ofBelow (S:=Qb) I).blk V (fun h=>h)) (hV.aB (Qc.ofBelow (S:=Qb) I) (fun h=>h) (fun h=>h) (fun _ _ h=>h)) z u B q (fun k hk=>E k (Zp I.size hk)) hY U
theorem Qs1(b:Nat)(w):ZW 255 #[ptr b] w (.func (.func 266) #[] #[ZP w.heap.size]) fun w'=>w'=w.alloc (.cells #[ptr b] 145):=by unfold ptr;go_enter func255,ntmps255;go_wp2;go_ret;exact⟨rfl,rfl⟩
end
section
open Go.Shelf
attribute [local go_sem] Oper.semAt_some Qp
attribute [local go_sem ↓] X8 Yd
attribute [local irreducible] Uo
theorem Yu.view{m:Nat}{ad:Int→Nat}{w}{F:Fp}{b:Nat}{f:Jc}(h:Yu m ad w F b f):∃pr l,l.Perm f.all∧(l.map Jh.id).Nodup∧Ah w b m ad pr l f.mark:=by
 obtain⟨l,B,I,G,d⟩:=h.coll;have H:∀i:Int,∃p,∀x∈l,x.id=i→Qh w (ad x.id) (Pp x p) 255:=fun i=>by
  by_cases k:∃x∈l,x.id=i;·obtain⟨x,c,k⟩:=k;obtain⟨p,_,J,_⟩:=h.memB (B.mem_iff.1 c);refine⟨p,fun y K u=>?_⟩;have E:=Ls d.nodup c k;have z:=Ls d.nodup K u;rw[E]at z;obtain rfl:=Zs z;exact J
  ·exact⟨0,fun x c e=>(k ⟨x,c,e⟩).elim⟩
 obtain⟨pr,q⟩:=Classical.axiomOfChoice H;exact⟨pr,l,B,d.nodup,I,d.map,fun x c=>q _ x c rfl⟩
def Ou(l:List Jh):Nat:=l.foldl (fun n m=>min n m.v) Qq
def Ln(l:List Jh):Nat:=l.foldl (fun n m=>max n m.v) 0
theorem Qhn(l:List Jh)(x:Jh):Ou (l++[x])=min (Ou l) x.v:=by simp[Ou]
theorem Qk7(l:List Jh)(x:Jh):Ln (l++[x])=max (Ln l) x.v:=by simp[Ln]
theorem F7{l c:List Jh}(h:l.Perm c):Ou l=Ou c:=by unfold Ou;exact h.foldl_eq' (fun x _ y _ z=>by omega) _
theorem Qar{l c:List Jh}(h:l.Perm c):Ln l=Ln c:=by unfold Ln;exact h.foldl_eq' (fun x _ y _ z=>by omega) _
theorem Cg:∀l:List Jh,Ou l≤Qq:=by
 have:∀(l:List Jh)(a:Nat),a≤Qq→l.foldl (fun n m=>min n m.v) a≤Qq:=by
  intro l;induction l with
  |nil=>exact fun a h=>h
  |cons x l c=>exact fun a h=>c _ (Zp (Nat.min_le_left _ _) h)
 exact fun l=>this l _ (Zv _)
theorem Qaq:∀l:List Jh,(∀x∈l,x.v≤Qq)→Ln l≤Qq:=by
 have:∀(l:List Jh)(a:Nat),a≤Qq→(∀x∈l,x.v≤Qq)→l.foldl (fun n m=>max n m.v) a≤Qq:=by
  intro l;induction l with
  |nil=>exact fun a h _=>h
  |cons x l k=>exact fun a h c=>k _ (Nat.max_le.2 ⟨h,c x (by simp)⟩) (fun y d=>c y (by simp[d]))
 exact fun l h=>this l 0 (Nat.zero_le _) h
def R7(l:List Jh)(c v:Nat):Nat:=if Ln l<Ou l then max v c else max v (Ou l+(Ln l-Ou l)/2)
theorem Qst{f:Jc}{l:List Jh}(c:l.Perm (f.all.filter (·.aL)))(x:Jh):f.start x=R7 l f.mark x.v:=by unfold Jc.start R7;have d:f.least=Ou l:=F7 c.symm;have k:f.most=Ln l:=Qar c.symm;rw[d,k]
theorem Qpa{w}{s t:Nat}{a z v:Nat}(B:Qh w s #[ZU a] 22)(K:Qh w t #[ZU z] 22)(q:s≠t):
  ZW 254 #[ZU v,ZP s,ZP t] w (.tuple #[]) fun w'=>Qh w' s #[ZU ((min a v:Nat):Int)] 22∧Qh w' t #[ZU ((max z v:Nat):Int)] 22∧Qc (fun k=>k=s∨k=t) w w':=by
 have V:=O B;have u:=O K;have e1:min (a:Int) (v:Int)=((min a v:Nat):Int):=by omega
 have e2:max (z:Int) (v:Int)=((max z v:Nat):Int):=by omega
 have a0:=Jf B.drew;have z1:=B.drew.frozen 0;have d:=O q;clear B K q;go_enter func254,ntmps254;go_wp2_with fail;refine ZC [0,1,2,103,104,105,206,307] (fun R=>Qc (fun k=>k=s) (w) R) ?_;simp only[Z8,Zf,Ze,Zd];iterate 3 (refine Xe (h:=?_))
 iterate 3 (refine Qy (by kernel_rfl) (fun R Z=>by(have zz:=Z.blk u.o d.o.symm;have y0:=Jf zz);go_simp;try rfl) ?_;try simp only[Act.put,Za,Zc,Zb])
 refine Yb ?_;go_wp2_with fail;refine⟨by exact Z0,?_⟩;have J:=((u.o).other (a:=⟨s,0,none⟩) (ZU ((min a v:Nat):Int)) d.o).drew;have I:=(V.o.set' 0 (ZU ((min a v:Nat):Int)) rfl).drew;have y3:=(u.o.other (a:=⟨s,0,none⟩) (ZU ((min a v:Nat):Int)) d.o).frozen 0;have y4:=Jf (u.o.other (a:=⟨s,0,none⟩) (ZU ((min a v:Nat):Int)) d.o);have E:=O (J.set' 0 (ZU ((max z v:Nat):Int)) rfl);have c:=O (I.other (a:=⟨t,0,none⟩) (ZU ((max z v:Nat):Int)) d.o.symm);have U:Hi (Qc (fun k=>k=s∨k=t) w ((w.setCell ⟨s,0,none⟩ (ZU ((min a v:Nat):Int))).drew.setCell ⟨t,0,none⟩ (ZU ((max z v:Nat):Int)))):=O (((Zg _ w).setCell (a:=⟨s,0,none⟩) _ (.inl (.inl rfl))).drew.setCell (a:=⟨t,0,none⟩) _ (.inl (.inr rfl)));clear I J;refine Km ?_;go_wp2_with fail;refine Ky ?_;go_wp2_with fail;refine bodyPost_end (by simp[*,results,Tryz.results254,go_sem]) rfl ⟨rfl,?_,?_,?_⟩;·exact c.o
 ·exact E.o
 ·exact U.o
theorem Qjj{w}{b m d:Nat}{ad pr:Int→Nat}{l:List Jh}(hV:Ah w b m ad pr l d)(ao:(l.map Jh.id).Nodup)(hb:∀y∈l,y.v≤Qq)(ax:d≤Qq){x:Jh}(hx:x∈l):
  ZW 230 #[ptr b,ptr (ad x.id)] w (ZU ((R7 (l.filter (·.aL)) d x.v:Nat):Int)) fun w'=>Qc Qb w w':=by
 have HU:=O (Qs1 b);refine callsIn_wide (n:=9).1 ?_;unfold ptr at HU⊢;refine callsIn_of_wp_marks func230 rfl trivial ?_;simp only[ntmps230,List.size_toArray,Zm,List.length_nil,Nat.reduceAdd,Nat.reduceSub,Array.replicate_succ,Array.replicate_zero,List.push_toArray,List.append_toArray,List.nil_append,List.cons_append];gi_wp2_with (refine⟨trivial,?_⟩;gi_at_call 255;refine(callsIn_wide.2 (HU.o _)).mono ?_;rintro e w1⟨rfl,rfl⟩);obtain⟨s,I⟩:=Zx (w.heap.size);obtain⟨J,q⟩:=Zx (((((w.alloc (.cells #[ZU 9223372036854775808] 22)).alloc (.cells #[ZU 0] 22)).alloc (.cells #[.func (.func 254) #[] #[ZP w.heap.size,ZP (w.heap.size+1)]] 91)).alloc (.cells #[ZP b] 145)));have C0:Hi (Qc Qb w J):=O (by rw[q];exact((((Zg _ _).alloc _).alloc _).alloc _).alloc _);have a2:J.heap.size=s+4:=by rw[q,I];simp
 have B5:Hi (Qh J s #[ZU ((Ou []:Nat):Int)] 22):=O (by rw[q,I];exact(((Qh.new' _ _ (by simp)).alloc _).alloc _).alloc _);have B6:Hi (Qh J (s+1) #[ZU ((Ln []:Nat):Int)] 22):=O (by rw[q,I];exact((Qh.new' _ _ (by simp)).alloc _).alloc _);have B7:Hi (Qh J (s+1+1) #[.func (.func 254) #[] #[ZP s,ZP (s+1)]] 91):=O (by rw[q,I];exact(Qh.new' _ _ (by simp)).alloc _);have B8:Hi (Qh J (s+1+1+1) #[ptr b] 145):=O (by rw[q,I];exact Qh.new' _ _ (by simp));have ai:Hi (Ah J b m ad pr l d):=O (hV.aB C0.o (fun h=>h) (fun h=>h) (fun _ _ h=>h));have aw:b<s:=I▸hV.blk.lt;have ay:m<s:=I▸hV.map.lt;have ak:∀y∈l,ad y.id<s:=fun y hy=>I▸(hV.mem y hy).lt;rw[←I]at q⊢;rw[←q];have ah:=O I;have HB:=O hb;have aj:=O hV;clear q I hb hV;refine wpIn_rangeFunc_ownH rfl (by decide) (gf:=266) (lb:=#[ZP (s+1+1+1)]) rfl trivial (enters_of func266 (by kernel_rfl) rfl)
  (Qs0 8 (s+1+1+1) b m d (by decide) (fun k=>k≠s∧k≠s+1) ad pr l ao J B8.o ai.o ⟨by omega,by omega⟩ ⟨by omega,by omega⟩ ⟨by omega,by omega⟩ (fun y hy=>by have:=ak y hy;exact⟨by omega,by omega⟩) (fun k hk=>⟨by omega,by omega⟩))
  (fun h k=>h.trans k) (fun W l o o' h1 h2 h3 h4=>Le.put (w:=J) W l o o' h1 h2 h3 h4) (Below.refl _ _) (fun _=>rfl)
  (fun aa W=>((Qh W s #[ZU ((Ou (aa.map (·.1)):Nat):Int)] 22∧Qh W (s+1) #[ZU ((Ln (aa.map (·.1)):Nat):Int)] 22)∧Qc (fun k=>k=s∨k=s+1) J W))
  (fun _ _ _=>False)
  (OwnFrom.and (OwnFrom.and (Yx _ _ _ _) (Yx _ _ _ _)) (Dr (Zv _)))
  (fun c=>fun _ _ _ _ h _ _=>h.elim)
  ⟨⟨B5.o,B6.o⟩,Zg _ _⟩
  (fun y a' W=>a'={tmps:=#[ZP b,ZP (ad x.id),undef,undef,ZU 0,ZP s,ZP (s+1),ZP (s+1+1),undef,ptr (ad y.1.id),.func (.func 254) #[] #[ZP s,ZP (s+1)],ZP b,.func (.func 266) #[] #[ZP (s+1+1+1)],ZI y.1.id,ptr (ad y.1.id),undef,undef,undef,undef,undef,undef,undef,undef,undef,undef,undef,undef,undef,undef,undef,undef,undef,undef,undef,undef,undef,undef,undef,undef,undef,undef,undef,undef,undef],defers:=[]})
  (fun y a' _ X Y a4 I hg hr=>I)
  ?assign ?body ?done (fun _ _ _ _ _ _ h _=>h.elim)
 case assign=> rintro l' aa y W K hI hK;dsimp only[Qt1];gi_wp2;exact hK _ _ ⟨Zv _,fun k o _ h1 _=>h1⟩ (fun _ _ _ h _=>h) hI rfl
 case body=>
  rintro l' aa y a' W hl az⟨⟨U,V⟩,B⟩rfl Xg;obtain⟨y,hy⟩:=y;dsimp only;have HM:=O (Qpa (v:=y.v) U.drew V.drew (by omega));have ae:Qc (fun k=>k=s∨k=s+1) J W.drew:=B.drew;have an:=ak y hy;have f0:=Jf (ae.blk B7.o (by omega));obtain⟨d0,d1,d2,d3⟩:=X9 (ae.blk (ai.o.mem y hy) (by omega));have HC:=O B;have aq:=O U;have ar:=O V;clear U V B ae an;gi_wp2;have ap:prog.follows .mixedOrders=true:=by kernel_rfl
  gi_region_with_o (refine⟨trivial,?_⟩;refine(CallsIn.inRound l' (callsIn_wide.2 HM.o)).mono ?_;rintro e w2⟨rfl,n5,n6,c2⟩);all_goals
   have C2:=O c2.aT;have N5:=O n5;have N6:=O n6;clear f0 d0 d1 d2 d3 c2 n5 n6;refine⟨Vg C2.o (fun k hk=>by rcases hk with h|h<;>omega),Le.chg C2.o (fun k h1 h2=>by rcases h2 with h|h<;>omega),⟨?_,?_⟩,HC.o.aA C2.o⟩;·rw[List.map_append,List.map_cons,List.map_nil,Qhn];exact N5.o
   ·rw[List.map_append,List.map_cons,List.map_nil,Qk7];exact N6.o
 case done=>
  rintro D ys W hD hp⟨⟨U,V⟩,B⟩hK;have cw:Qc Qb w W:=C0.o.trans B (fun k hk=>.inr (by rw[←ah.o];rcases hk with h|h<;>omega));have Z:R7 (l.filter (·.aL)) d x.v=R7 (ys.map (·.1)) d x.v:=by unfold R7;rw[F7 hp,Qar hp]
  obtain⟨a3,R⟩:=Zx (R7 (l.filter (·.aL)) d x.v);rw[←R]at Z;have ab:=O R;clear R;have ag:Ln (ys.map (·.1))≤Qq:=Qaq _ fun z hz=>HB.o z ((List.mem_filter.1 (hp.mem_iff.1 hz)).1);have al:=HB.o x hx;have HX:=O (cw.blk (aj.o.mem x hx) (fun h=>h));have am:=O (cw.blk aj.o.blk (fun h=>h));have af:=Cg (ys.map (·.1));unfold R7 at Z;generalize Ou (ys.map (·.1))=u at U Z af;generalize Ln (ys.map (·.1))=E at V Z ag;have hN:Qq=9223372036854775808:=rfl;by_cases Xg:E<u
  ·rw[if_pos Xg]at Z;have E0:=O Z;have d1:decide (E<u)=true:=by simpa using Xg
   have d2:(E:Int)<(u:Int):=by omega
   have em:max (x.v:Int) (d:Int)=((max x.v d:Nat):Int):=by omega
   have a0:=Jf U;have a1:=Jf V;obtain⟨x0,x1,x2,x3⟩:=X9 HX.o.drew;obtain⟨m0,m1⟩:=Q4 am.o.drew;have HK:=O hK;have CW:=O cw;have ac:w.heap.size≤D:=by have:=ah.o;omega
   clear Z U V B hp hK cw af ag al hN Xg;gi_wp2;refine Sc [(0,0),(0,1),(0,2),(0,3),(0,4),(0,5),(0,6),(0,7),(0,8),(2,9)] Zq (by kernel_rfl) ?_;simp only[Jk,Zf,Ze,Zd];iterate 9 (refine Et (h:=?_))
   refine Bl ?_;gi_wp2;refine Qnv ?_;gi_wp2;refine⟨by simp,.inl ⟨_,_,rfl,run_takeDeferred (show W.drew.heap[D]? =_ from HK.o),?_⟩⟩;refine⟨ZU ((max x.v d:Nat):Int),?_,by rw[←ab.o,E0.o],Ud CW.o.drew ac (Z2.1 HK.o).1⟩;simp[results,Tryz.results230,go_sem]
  ·rw[if_neg Xg]at Z;have E0:=O Z;have d1:decide (E<u)=false:=by simpa using Xg
   have d2:¬(E:Int)<(u:Int):=by omega
   have e1:IntKind.u64.wrap ((E:Int)-(u:Int))=((E-u:Nat):Int):=by rw[IntWalk.u64_in _ (by omega)];omega
   have e3:IntKind.u64.wrap (((E-u:Nat):Int)/2)=(((E-u)/2:Nat):Int):=by rw[IntWalk.u64_in _ (by omega)];omega
   have e2:IntKind.u64.wrap ((u:Int)+(((E-u)/2:Nat):Int))=((u+(E-u)/2:Nat):Int):=by rw[IntWalk.u64_in _ (by omega)];omega
   have em:max (x.v:Int) ((u+(E-u)/2:Nat):Int)=((max x.v (u+(E-u)/2):Nat):Int):=by omega
   have a0:=Jf U;have a1:=Jf V;have au:=Jf U.drew;have av:=Jf V.drew;obtain⟨x0,x1,x2,x3⟩:=X9 HX.o.drew;have HK:=O hK;have CW:=O cw;have ac:w.heap.size≤D:=by have:=ah.o;omega
   clear Z U V B hp hK cw af ag al hN Xg;gi_wp2;refine Sc [(0,0),(0,1),(0,2),(0,3),(0,4),(0,5),(0,6),(0,7),(0,8),(0,9),(0,10),(2,11)] Zq (by kernel_rfl) ?_;simp only[Jk,Zf,Ze,Zd];generalize(E-u)/2=hf at e2 e3 em E0;generalize u+hf=lh at e2 em E0;iterate 11 (refine Et (h:=?_))
   refine Bl ?_;gi_wp2;refine Qnv ?_;gi_wp2;refine⟨by simp,.inl ⟨_,_,rfl,run_takeDeferred (show W.drew.heap[D]? =_ from HK.o),?_⟩⟩;refine⟨ZU ((max x.v lh:Nat):Int),?_,by rw[←ab.o,E0.o],Ud CW.o.drew ac (Z2.1 HK.o).1⟩;simp[results,Tryz.results230,go_sem]
theorem Qji{m:Nat}{ad:Int→Nat}{w}{F:Fp}{b:Nat}{f:Jc}(h:Yu m ad w F b f)(u:∀y∈f.all,y.v≤Qq)(c:f.mark≤Qq){x:Jh}(z:x∈f.all):
  ZW 230 #[ptr b,ptr (ad x.id)] w (ZU ((f.start x:Nat):Int)) fun w'=>Qc Qb w w':=by
 obtain⟨pr,l,k,d,q⟩:=h.view;rw[Qst (k.filter _) x];exact Qjj q d (fun y B=>u y (k.mem_iff.1 B)) c (k.mem_iff.2 z)
end
theorem Jc.made_wake(f:Jc)(x:Jh)(v:Nat)(r:Xh):((f.made x v).set {{x with v:=v}with run:=r}).set {{{x with v:=v}with run:=r}with aL:=true}=f.made {x with run:=r,aL:=true} v:=by refine(Jc.set_set (f.made x v) (a:={{x with v:=v}with run:=r}) (b:={{{x with v:=v}with run:=r}with aL:=true}) rfl).trans ?_;have e:=f.set_set (a:={x with v:=v}) (b:={{{x with v:=v}with run:=r}with aL:=true}) rfl;unfold Jc.made;show(⟨((f.set {x with v:=v}).set {{{x with v:=v}with run:=r}with aL:=true}).all,max f.mark v⟩:Jc)=_;rw[e]
theorem Qmw{w}{F:Fp}{b:Nat}{f:Jc}(h:J0 w F b f)(hN:∀x∈f.all,x.total≤Xw∧x.run.l.length<549755813888∧x.v≤Qq)(K:f.mark≤Qq)(i:Int):
  ZW 175 #[ptr b,ZI i] w (.tuple #[]) fun w'=>J0 w' (Qn F w w') b (f.wake i)∧Qc F w w':=by
 obtain⟨m,ad,I⟩:=h.addr;have R:=O (I.at_any i);unfold Jc.wake;unfold Qk3 at R;cases hx:f.at i with
 |none=> have c:=O (I.same (Zg Qb w));rw[hx]at R;dsimp only[atP]at R⊢;clear h I hx hN K;go_enter func175,ntmps175;go_wp2_with fail;refine Zy R ?_;rintro w1 rfl;go_wp2;refine bodyPost_ret (results_none rfl _ _ _) rfl ⟨rfl,c.o.1.is,c.o.2⟩
 |some x=>
  obtain⟨hm,rfl⟩:=Jc.aE hx;obtain⟨U,E,ak⟩:=hN x hm;obtain⟨p,H,hM,_,ah⟩:=I.memB hm;obtain⟨a0,a1,a2,a3⟩:=X9 hM;rw[hx]at R;dsimp only[atP]at R⊢;rcases Bool.eq_false_or_eq_true x.aL with d|d;·rw[if_pos d];rw[d]at a3;have c:=O (I.same (Zg Qb w));clear h I hx hN K hM hm U E ak ah d;go_enter func175,ntmps175;go_wp2_with fail;refine Zy R ?_;rintro w1 rfl;go_wp2;refine bodyPost_ret (results_none rfl _ _ _) rfl ⟨rfl,c.o.1.is,c.o.2⟩
  ·rw[if_neg (by rw[d];decide)];rw[d]at a3;have HS:=O (Qji I (fun y hy=>(hN y hy).2.2) K hm);have aj:f.start x≤Qq:=by unfold Jc.start;have h1:f.most≤Qq:=Qaq _ fun z hz=>(hN z (List.mem_filter.1 hz).1).2.2;have h2:f.least≤Qq:=Cg _;split<;>omega
   generalize f.start x=v at HS aj⊢;have am:Qq=9223372036854775808:=rfl;have hC:=Yz;have Z:=O ((Yu.obj m ad).bd I);have S1:Hi (∀w1,Qc Qb w w1→Yu m ad w1 (Qn F w w1) b f∧Qc F w w1):=O (fun w1 c1=>I.same c1);have M2:=O (Jc.mem_set (a:={x with v:=v}) hm rfl);have an:({x with v:=v}:Jh)∈(f.made x v).all:=M2.o;have al:=O (fun(w)(F:Fp)(p:Nat)(h:Yv w F p x.run)=>Rv h E v x.total (by omega) (by omega));have HM:=O hm;have FE:=O (f.made_wake x v (x.run.start v x.total));clear h I hx hN K hM hm U E ak ah d aj am hC;go_enter func175,ntmps175;go_wp2_with fail;refine Zy R ?_;rintro w1 rfl;go_wp2_with fail;refine Zy HS ?_;intro w1 c1;obtain⟨h1,ae⟩:=S1.o _ c1;have B1:=O ((Yu.obj m ad).bd h1);have C1:=O ae;clear c1 ae a0 a1 a2 a3;go_wp2_with fail;refine Zz (Qb4 h1 HM.o v) ?_;rintro w2⟨h2,c2⟩;have C2:=O (C1.o.ext c2);have ab:Yu m ad w2 (Qn F w w2) b (f.made x v):=((Yu.obj m ad).two h2 Z.o C1.o c2).1;obtain⟨q,G,ag,B,V⟩:=ab.memR an;obtain⟨a0,a1,a2,a3⟩:=X9 ag.drew;have HR:=O (al.o _ _ _ ((runP.aB B (Zg Qb w2).drew (Jl.none G))));have HP:=O V;have BG:=O (runP.bd B);have B2:=O ((Yu.obj m ad).bd ab);clear h1 h2 c2 ab ag B V;go_wp2_with fail;refine ZB [0,1,2,3,4,5,6,7,8,9,10,11,212] ?_;simp only[Z8,Zf,Ze,Zd];iterate 12 (refine Jq (h:=?_))
   clear a0 a1 a2 a3;refine J7 ?_;go_wp2_with fail;refine Zy HR ?_;rintro w3⟨ai,c3⟩;have aa:=c3.aT;obtain⟨h3,af⟩:=HP.o w3 _ (runP.more ai (fun k hk=>hk.elim .inl (fun hk=>.inr hk)) (BG.o.ext aa)) aa;have J:=((Yu.obj m ad).two h3 Z.o C2.o af);have ac:({{x with v:=v}with run:=x.run.start v x.total}:Jh)∈((f.made x v).set {{x with v:=v}with run:=x.run.start v x.total}).all:=Jc.mem_set (x:={x with v:=v}) M2.o rfl;obtain⟨q3,H3,u,_,_⟩:=J.1.memB ac;obtain⟨a0,a1,a2,a3⟩:=X9 u;have z3:=u.frozen 3;have c:Hi (∀w4,w4=w3.setCell ⟨ad x.id,3,none⟩ (.bool true)→J0 w4 (Qn F w w4) b (f.made {x with run:=x.run.start v x.total,aL:=true} v)∧Qc F w w4):=O (by
    rintro w4 rfl;obtain⟨k1,k2⟩:=J.1.memC' (x':={{{x with v:=v}with run:=x.run.start v x.total}with aL:=true}) ac rfl rfl u ((Zg (fun k=>k=ad x.id) w3).setCell (a:=⟨ad x.id,3,none⟩) (.bool true) (.inl rfl)) (u.set' 3 _ rfl);obtain⟨l1,l2⟩:=(Yu.obj m ad).two k1 Z.o J.2 k2;rw[FE.o]at l1;exact⟨l1.is,l2⟩)
   clear ai c3 aa h3 af J ac u;go_wp2_with fail;refine Jo ?_;go_wp2_with fail;refine bodyPost_end (by simp[*,results,Tryz.results175,go_sem]) rfl ⟨rfl,c.o _ rfl⟩
section
attribute [local go_sem] Qp Wk
structure Qqu(w:World)(F:Fp)(b m:Nat)(ad:Int→Nat)(f:Jc)(l:List Jh)(b' m' r:Nat)(wr:World)(lm dn:List Jh):Prop where
 it:Kj wr m r (Xy Jh.id ad l) (Xy Jh.id ad lm)
 sub:lm.Sublist l
 perm:(dn++lm).Perm l
 chg:Qc Qb w wr
 blk:Qh wr b' #[.map (some m'),ZU f.mark] 245
 co:∃ad' G,Yn Jh.id Vj wr G m' ad' dn∧∀k,G k→w.heap.size≤k∧k≠r∧k≠b'
 nb:w.heap.size≤b'∧w.heap.size≤r∧b'≠r
theorem Qmt{w}{F:Fp}{b:Nat}{f:Jc}(h:J0 w F b f)(hN:∀x∈f.all,x.run.l.length<1099511627776):
  Cl 127 #[ptr b] w fun e w'=>∃b',e=.returned (ptr b')∧J0 w' (Qn Qb w w') b' f∧Qc Qb w w':=by
 obtain⟨m,ad,hA⟩:=h.addr;have HA:=O hA;obtain⟨l,hp,hB,G,hC⟩:=hA.coll;have HP:=O hp;have ak:=O hC.nodup;obtain⟨a0,a1⟩:=Q4 hB;obtain⟨s,hs⟩:=Zx (w.heap.size);obtain⟨W,hW⟩:=Zx ((w.alloc (.map #[] 0)).alloc (.cells #[.map (some w.heap.size),ZU f.mark] 245));have bk:=@run_makeMap prog;have C0:Qc Qb w W:=by rw[hW];exact((Zg _ _).alloc _).alloc _
 have hm:Xq W s []:=by rw[hW,hs];exact(Xq.new w).aB ((Zg Qb _).alloc _) (fun h=>h)
 have au:Qh W (s+1) #[.map (some s),ZU f.mark] 245:=by rw[hW,hs];exact Qh.new' _ _ (by simp)
 have Z:W.heap.size=s+1+1:=by rw[hW,hs];simp
 obtain⟨o,az,ag⟩:=Er (P:=prog) (hC.map.aB C0 (fun h=>h)) underlying243;have B:Hi (∃lm E,Qqu w F b m ad f l (s+1) s (s+1+1) (W.alloc o) lm E):=O (by
  have cc:Qc Qb W (W.alloc o):=(Zg _ _).alloc _;rw[Z]at ag;refine⟨l,[],ag,List.Sublist.refl _,by simp,C0.aA cc,cc.blk au (fun h=>h),⟨fun _=>0,fun k=>k=s,Yn.new (hm.aB cc (fun h=>h)) (fun k e=>by rw[e];exact(hm.aB cc (fun h=>h)).lt) rfl,?_⟩,?_⟩;·intro k e;omega
  ·omega)
 have q1:=Q4 (((Zg Qb w).alloc (.map #[] 0)).blk hB (fun h=>h));obtain⟨f0,f1⟩:=q1;have e0:=(Q4 (C0.blk hB (fun h=>h))).1;rw[Z]at az;rw[hW]at e0 B az;subst hs;have a7:=O hN;clear h hA hB hC hp hm au C0 ag hN Z hW;go_enter func127,ntmps127;go_wp2_with fail;go_loopw [4,5,6] (fun _ _ _ wr=>∃lm E,Qqu w F b m ad f l (w.heap.size+1) w.heap.size (w.heap.size+1+1) wr lm E) (fun _ _ _ wr=>Dq wr (w.heap.size+1+1));case atStart=>exact B.o
 case round=>
  obtain⟨lm,E,c⟩:=hrel;have U:=ak.o.sublist (c.sub.map _);obtain⟨e1,_⟩:=Q4 c.blk;rcases Rx (P:=prog) c.it 0 with⟨h0,hr⟩|⟨p,hp,w2,hr,R,K,af⟩
  ·have ba:lm=[]:=by
    cases lm with
    |nil=>rfl
    |cons a l=>cases h0
   subst ba;have a4:Hi (J0 wr (Qn Qb w wr) (w.heap.size+1) f∧Qc Qb w wr):=O (by
    obtain⟨al,G',I,z⟩:=c.co;have bd:E.Perm l:=by simpa using c.perm
    refine⟨⟨w.heap.size,al,E,bd.trans HP.o,?_⟩,c.chg⟩;refine Q7 (G:=fun k=>k=w.heap.size+1) (H:=G') ⟨c.blk,rfl,fun k e=>e▸c.blk.lt⟩ (Y6 I I.bd) ?_ ?_ ?_ (fun k d=>d.elim (fun h=>h.elim) (fun h=>h.2));·rintro k rfl d;exact(z _ d).2.2 rfl
    ·rintro k rfl;exact .inr ⟨by omega,c.blk.lt⟩
    ·intro k d;exact .inr ⟨(z k d).1,I.bd k d⟩)
   clear c U;go_wp2_with fail;go_ret;exact⟨_,rfl,a4.o⟩
  ·obtain⟨x,hx,rfl⟩:=Z3.1 hp;have be:=c.sub.subset hx;have a2:=HP.o.mem_iff.1 be;have c2:Qc Qb w w2:=c.chg.trans K (fun k e=>.inr (by rw[e];omega));obtain⟨p,H,hM,hR,_⟩:=((Yu.obj m ad).aB HA.o c2 (Jl.none F)).memB a2;obtain⟨W3,J⟩:=Zx (w2.alloc (.cells (Pp x p) 255));have c3:Qc Qb w2 W3:=by rw[J];exact(Zg _ _).alloc _
   have aq:Qh W3 (ad x.id) (Pp x p) 255:=c3.blk hM (fun h=>h);have aa:Qh W3 w2.heap.size (Pp x p) 255:=by rw[J];exact Qh.new _ _ _
   have HC:=O (Mo (runP.aB hR c3 (Jl.none H)) (a7.o x a2));obtain⟨d0,d1,d2,d3⟩:=X9 hM;obtain⟨_,_,g2,_⟩:=X9 aq;have ae:Qh w2 (w.heap.size+1) #[.map (some w.heap.size),ZU f.mark] 245:=K.blk c.blk (by omega);have aj:=O ae;have a5:=O aa;have ai:Hi (∀w4 q,Yv w4 (Qn Qb W3 w4) q x.run→Qc Qb W3 w4→∃w6,(Instr.mapUpdate 243 (.map (some w.heap.size)) (ZI x.id) (ZP w2.heap.size)).run prog (w4.setCell ⟨w2.heap.size,2,none⟩ (ptr q))=.ok () w6∧
     Qqu w F b m ad f l (w.heap.size+1) w.heap.size (w.heap.size+1+1) w6 (Kp Jh.id x.id lm) (E++[x])∧Dq w6 (w.heap.size+1+1)<Dq wr (w.heap.size+1+1)):=O (by
    intro w4 q V c4;obtain⟨al,G',I,z⟩:=c.co;have s1:=c.chg.size;have s2:=K.size;have s3:=c3.size;have s4:=c4.size;have bh:w2.heap.size<W3.heap.size:=aa.lt;have bg:=(show w.heap.size+1+1<w2.heap.size from by
     obtain⟨o2,h2,_⟩:=R.walk;exact(Z2.1 h2).1)
    have an:Qc (fun k=>k=w2.heap.size) w4 (w4.setCell ⟨w2.heap.size,2,none⟩ (ptr q)):=(Zg _ _).setCell _ (.inl rfl);have a8:=c4.blk aa (fun h=>h);have ar:Qh (w4.setCell ⟨w2.heap.size,2,none⟩ (ptr q)) w2.heap.size (Pp x q) 255:=a8.set' 2 _ rfl;have a9:Yv (w4.setCell ⟨w2.heap.size,2,none⟩ (ptr q)) (Qn Qb W3 w4) q x.run:=runP.aB V an (fun k d e=>by rcases(Qr k).1 d with⟨h1,_⟩;omega);have am:Qc Qb w2 (w4.setCell ⟨w2.heap.size,2,none⟩ (ptr q)):=(c3.aA c4).trans an (fun k e=>.inr (by rw[e];exact Zv _));have bi:=ar.lt;have hX:Vj (w4.setCell ⟨w2.heap.size,2,none⟩ (ptr q)) (Qn Qb w2 (w4.setCell ⟨w2.heap.size,2,none⟩ (ptr q))) w2.heap.size x:=
     O1.new (p:=q) (G:=Qn Qb W3 w4) a9 (fun k d=>by rcases(Qr k).1 d with⟨h1,_⟩;omega) runP ar (Zv _) (fun d=>by rcases(Qr _).1 d with⟨h1,_⟩;omega)
    have ao:=I.aB Vj.obj K (fun k d e=>(z k d).2.1 e);have ap:=ao.aB Vj.obj am (Jl.none G');obtain⟨w6,ah,bb,c6⟩:=X6 (P:=prog) ap.map underlying243 underlying3 x.id (ZP w2.heap.size);have bc:Hn Jh.id x.id E=none:=by
     cases ha:Hn Jh.id x.id E with
     |none=>rfl
     |some y=> obtain⟨hy,bf⟩:=Y3 ha;have aw:((E++lm).map Jh.id).Nodup:=((c.perm.map _).nodup_iff).2 ak.o;rw[List.map_append,List.nodup_append]at aw;exact(aw.2.2 _ (Z3.2 ⟨y,hy,rfl⟩) _ (Z3.2 ⟨x,hx,rfl⟩) bf).elim
    have a6:=ap.put Vj.obj hX (fun k a b'=>by
     rcases(Qr k).1 a with⟨h1,_⟩;have:=ao.bd k b';omega) bc bb c6
    have bj:∀k,G' k→w.heap.size≤k∧k≠w.heap.size+1+1∧k≠w.heap.size+1:=z;have ac:Qc (fun k=>k=w.heap.size) w2 w6:=(am.none).aA c6;have ab:Kj w6 m (w.heap.size+1+1) (Xy Jh.id ad l) (Vu x.id (Xy Jh.id ad lm)):=R.aB ac (by have:=HA.o.coll;obtain⟨_,_,_,_,hq⟩:=this;have:=hq.map.lt;omega) (by omega);have ay:=O8 (key:=Jh.id) U hx;refine⟨w6,ah,⟨?_,List.filter_sublist.trans c.sub,?_,?_,ac.blk ae (by omega),⟨_,_,a6,?_⟩,c.nb⟩,?_⟩;·rw[←Hr];exact ab
    ·refine List.Perm.trans ?_ c.perm;rw[List.append_assoc];exact List.Perm.append_left E ay.symm
    ·exact c2.trans ac (fun k e=>.inr (by rw[e];exact Zv _))
    ·intro k d;rcases d with d|d;·exact z k d
     ·rcases(Qr k).1 d with⟨h1,_⟩;omega
    ·rw[ab.left_eq,c.it.left_eq,Hr];have:=ay.length_eq;simp only[Xy,List.length_map,Zm]at*;omega)
   dsimp only at hr af;have u:=J;unfold Pp at u;unfold ptr at hr af HC d2 g2 u;rw[u]at HC g2;clear c U R K c2 c3 hM aq hR aa ae hp;go_wp2_with fail;refine Zo HC ?_;rintro e w4⟨q,rfl,V,c4⟩;rw[←u]at V c4;obtain⟨w6,ah,av,Xg⟩:=ai.o w4 q V c4;have a3:=O av;have LT:=O Xg;have q4:=c4.blk a5.o (fun h=>h);obtain⟨k0,k1,k2,k3⟩:=X9 q4;have z2:=q4.frozen 2;have q5:=c4.blk ((show Qc Qb w2 W3 from by rw[J];exact(Zg _ _).alloc _).blk aj.o (fun h=>h)) (fun h=>h);have ax:w2.heap.size≠w.heap.size+1:=by have:=aj.o.lt;omega
   obtain⟨y0,y1⟩:=Q4 (q5.other (a:=⟨w2.heap.size,2,none⟩) (ptr q) ax);unfold ptr at ah y0 y1;clear V c4 av Xg q4 q5 hr af d0 d1 d2 d3 g2 J u;go_wp2_with fail;exact⟨⟨_,_,a3.o⟩,LT.o⟩
end
end Go.Proofs.YtigcnnkagkbflaaGreat
