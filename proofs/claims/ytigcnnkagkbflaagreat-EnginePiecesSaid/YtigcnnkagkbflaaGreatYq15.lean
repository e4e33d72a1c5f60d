/- A part of the proof: no condition. -/
import Derived.Test.YtigcnnkagkbflaaGreatYq14
import Derived.ScopeJumps
namespace Go.Proofs.YtigcnnkagkbflaaGreat
set_option linter.unusedVariables false
set_option maxRecDepth 100000
set_option maxHeartbeats 4000000
open Go.RowKit
open Go.Proofs.Tryz
attribute [local go_sem] Qp
theorem Qc.aT{S:Nat->Prop}{w w1:World}(h:Qc S w.drew w1):Qc S w w1:=⟨h.os,h.tape,h.output,h.size,h.block⟩
def Yu(m:Nat)(ad:Int->Nat)(w:World)(F:Fp)(b:Nat)(f:Jc):Prop:=∃l:List Jh,l.Perm f.all/\Oh (Qtj b m f.mark ad l) w F
theorem Yu.obj(m:Nat)(ad:Int->Nat):Hf (Yu m ad) where
 bd:=λ⟨l,_,h⟩=>(Je (Yc _ m _ ad l)).bd h
 own:=λ⟨l,_,h⟩=>by obtain⟨G,d,k⟩:=J6 (Yc _ m _ ad l) 0 rfl h;exact k _ d.2.1
 aB:=λ⟨l,c,h⟩u z=>⟨l,c,(Je (Yc _ m _ ad l)).aB h u z⟩
 more:=λ⟨l,c,h⟩B q=>⟨l,c,(Je (Yc _ m _ ad l)).more h B q⟩
theorem J0.addr{w}{F:Fp}{b:Nat}{f:Jc}(h:J0 w F b f):∃m ad,Yu m ad w F b f:=by obtain⟨m,ad,l,h⟩:=h;exact⟨m,ad,l,h⟩
section
variable{m:Nat}{ad:Int->Nat}{w w':World}{F:Fp}{b:Nat}{f:Jc}
theorem Yu.is(h:Yu m ad w F b f):J0 w F b f:=by obtain⟨l,h⟩:=h;exact⟨m,ad,l,h⟩
theorem Yu.same(h:Yu m ad w F b f)(c:Qc Qb w w'):Yu m ad w' (Qn F w w') b f/\Qc F w w':=by obtain⟨l,q,h⟩:=h;have g:=Je (Yc b m f.mark ad l);have h':=g.aB h c (Jl.none F);exact⟨⟨l,q,g.more h' (λk d=>.inl d) ((g.bd h).ext (c.none (F:=F)))⟩,c.none⟩
theorem Yu.coll(h:Yu m ad w F b f):∃l:List Jh,l.Perm f.all/\Qh w b #[.map (some m),ZU f.mark] 245/\∃G,Yn Jh.id Vj w G m ad l:=by obtain⟨l,q,h⟩:=h;obtain⟨u,d,_⟩:=J6 (Yc _ m _ ad l) 0 rfl h;obtain⟨c,k,_⟩:=J6 (Yc _ m _ ad l) 1 rfl h;exact⟨l,q,d.1,c,k⟩
theorem Yu.blk(h:Yu m ad w F b f):Qh w b #[.map (some m),ZU f.mark] 245:=by obtain⟨l,d,c,_⟩:=h.coll;exact c
theorem Yu.nodup(h:Yu m ad w F b f):(f.all.map Jh.id).Nodup:=by obtain⟨l,d,_,G,c⟩:=h.coll;exact((d.map _).nodup_iff).1 c.nodup
theorem Jc.aE{i:Int}{x:Jh}(h:f.at i=some x):x∈f.all/\x.id=i:=Y3 (key:=Jh.id) h
theorem Yu.mem(h:Yu m ad w F b f){x:Jh}(hx:x∈f.all):
  ∃G:Fp,Vj w G (ad x.id) x/\(∀k,G k->F k/\k≠b)/\∀w' x',x'.id=x.id->Vj w' (Qn G w w') (ad x.id) x'->Qc G w w'->Yu m ad w' (Qn F w w') b (f.set x')/\Qc F w w':=by
 obtain⟨l,V,hs⟩:=h;obtain⟨hb,Z,H,B,h2,E,h4,R⟩:=hs;obtain⟨H1,k1,K,_,k3⟩:=Xv 0 (P:=λw G=>Yn Jh.id Vj w G m ad l) (L:=[λw G=>Yn Jh.id Vj w G m ad l]) (by intro P U;simp only[Zu,List.not_mem_nil,or_false]at U;subst U;exact Sm Vj.obj _ _ _) rfl h2;obtain⟨G,g1,z,g3⟩:=k1.focus Vj.obj (V.mem_iff.2 hx);have q:∀k,G k->F k:=λk c=>R k (K k (z k c).1);have I:∀k,G k->k≠b:=λk c e=>by subst e;exact E _ B.2.1 (K _ (z _ c).1)
 refine⟨G,g1,λk c=>⟨q k c,I k c⟩,λw' x' J hm d=>?_⟩;have u:Qc H1 w w':=d.sub λk c=>(z k c).1;have cH:Qc H w w':=u.sub K;have e1:=k3 w' (λw G=>Yn Jh.id Vj w G m ad (Lg Jh.id x' l)) u (g3 w' x' J hm d);refine⟨⟨Lg Jh.id x' l,V.map _,?_⟩,d.sub q⟩;refine Q7 (G:=Z) (H:=Qn H w w') ((Ks _ _ _).aB B cH E) e1 ?_ (λk c=>.inl (h4 k c)) (λk c=>Qn.mono R k c) (hb.ext (d.sub q));exact Jl.extR E ((Ks _ _ _).bd B)
theorem Yu.marked(h:Yu m ad w F b f){n:Nat}(d:Qc (λk=>k=b) w w')(c:Qh w' b #[.map (some m),ZU n] 245):Yu m ad w' (Qn F w w') b ⟨f.all,n⟩/\Qc F w w':=by obtain⟨l,q,h⟩:=h;have:=(Xv 0 (Yc b m f.mark ad l) rfl h).cells d c;exact⟨⟨l,q,this.1⟩,this.2⟩
theorem Yu.memB(h:Yu m ad w F b f){x:Jh}(k:x∈f.all):∃p H,Qh w (ad x.id) (Pp x p) 255/\Yv w H p x.run/\ad x.id≠b:=by obtain⟨G,c,d,_⟩:=h.mem k;obtain⟨p,H,a,b',_⟩:=c.ex;exact⟨p,H,a,b',(d _ c.own).2⟩
theorem Yu.memC'(h:Yu m ad w F b f){x x':Jh}{p:Nat}(U:x∈f.all)(q:x'.id=x.id)(R:x'.run=x.run)(z:Qh w (ad x.id) (Pp x p) 255)
  (K:Qc (λk=>k=ad x.id) w w') (J:Qh w' (ad x.id) (Pp x' p) 255):Yu m ad w' (Qn F w w') b (f.set x')/\Qc F w w':=by
 obtain⟨G,u,h2,B⟩:=h.mem U;obtain⟨p',H,a,I,E⟩:=u.ex;have e:p'=p:=by have c:=a;unfold Qh at c z;rw[z]at c;simp only[Option.some.injEq,Obj.cells.injEq,Pp,Array.mk.injEq,List.cons.injEq,ptr,Value.pointer.injEq,Addr.mk.injEq]at c;exact c.1.2.2.1.1.symm
 subst e;have d:Yv w H p' x'.run:=R▸I;obtain⟨V,Z⟩:=O1.cell (x':=x') u d E runP K J;exact B w' x' q V Z
theorem Yu.memR(h:Yu m ad w F b f){x:Jh}(I:x∈f.all):
  ∃(p:Nat)(G:Fp),Qh w (ad x.id) (Pp x p) 255/\Yv w G p x.run/\∀w' r,Yv w' (Qn G w w') p r->Qc G w w'->Yu m ad w' (Qn F w w') b (f.set {x with run:=r})/\Qc F w w':=by
 obtain⟨G,c,R,q⟩:=h.mem I;obtain⟨p,H,a,u,d⟩:=c.ex;refine⟨p,H,a,u,λw' r E k=>?_⟩;have z:Qh w' (ad x.id) (Pp {x with run:=r} p) 255:=k.blk a (λB=>(d _ B).2 rfl);obtain⟨J,K⟩:=O1.made (x':={x with run:=r}) c d runP k E (Zg _ _) z;exact q w' {x with run:=r} rfl J K
def Qk3(ad:Int->Nat)(f:Jc)(i:Int):Value:=atP ad i (f.at i)
theorem Yu.at_any(h:Yu m ad w F b f)(i:Int):ZW 213 #[ptr b,ZI i] w (Qk3 ad f i) λw'=>w=w':=by obtain⟨l,k,d,G,c⟩:=h.coll;have:=Qb2 d c i;unfold Qk3;rw[Jc.at_eq k c.nodup];exact this
end
theorem Qjh{w}{F:Fp}{b:Nat}{f:Jc}(h:J0 w F b f)(i:Int):
  ZW 161 #[ptr b,ZI i] w (.tuple #[]) λw'=>J0 w' (Qn F w w') b (f.sleep i)/\Qc F w w':=by
 obtain⟨m,ad,u⟩:=h.addr;have q:=O (u.at_any i);unfold Jc.sleep;unfold Qk3 at q;cases z:f.at i with
 |none=> have d:=O (u.same (Zg Qb w));rw[z]at q;dsimp only[atP]at q|-;clear h u z;apply WH func161;go_wp2_with fail;apply Zy q;rintro w1 rfl;go_wp2;refine WB rfl rfl ⟨rfl,d.o.1.is,d.o.2⟩
 |some x=>
  obtain⟨E,rfl⟩:=Jc.aE z;obtain⟨p,H,B,_,_⟩:=u.memB E;have I:=O B;have d:Hi (∀w',Qc (λk=>k=ad x.id) w w'->Qh w' (ad x.id) (Pp {x with aL:=false} p) 255->J0 w' (Qn F w w') b (f.set {x with aL:=false})/\Qc F w w'):=O (λw' K J=>by
   obtain⟨a,c⟩:=u.memC' (x':={x with aL:=false}) E rfl rfl I.o K J;exact⟨a.is,c⟩)
  have R:=X9 B;have z0:=B.frozen 3;rw[z]at q;dsimp only[atP]at q|-;clear h u z B E;apply WH func161;go_wp2_with fail;apply Zy q;rintro w1 rfl;go_wp2;refine WB rfl rfl ⟨rfl,d.o _ Z0 (I.o.set' 3 _ rfl)⟩
theorem Qb3{w}{F:Fp}{b:Nat}{f:Jc}(h:J0 w F b f)(i:Int):
  ZW 182 #[ptr b,ZI i] w (.bool (f.at i).isSome) λw'=>J0 w' (Qn F w w') b (f.drop i)/\Qc F w w':=by
 obtain⟨m,ad,I⟩:=h.addr;have q:=O (I.at_any i);unfold Qk3 at q;cases E:f.at i with
 |none=>
  have e:f.drop i=f:=by
   unfold Jc.drop;have:(f.all.filter λm=>!decide (m.id=i))=f.all:=List.filter_eq_self.2 λy hy=>by have:=Lz (key:=Jh.id) E y hy;simpa using this
   rw[this]
  have c:=O (I.same (Zg Qb w));rw[e];rw[E]at q;dsimp only[atP,Option.isSome_none]at q|-;clear h I E e;apply WH func182;go_wp2_with fail;apply Zy q;rintro w1 rfl;go_wp2;go_ret;exact⟨rfl,c.o.1.is,c.o.2⟩
 |some x=>
  obtain⟨l,hp,V⟩:=I;have J:=(J6 (Yc b m f.mark ad l) 0 rfl V);obtain⟨G0,J,_⟩:=J;obtain⟨G,z,Z,R,d⟩:=Xv 1 (Yc b m f.mark ad l) rfl V;obtain⟨w',aa,B,u⟩:=Di (P:=prog) z.map underlying243 underlying3 3 0 i;have c:Hi (J0 w' (Qn F w w') b (f.drop i)/\Qc F w w'):=O (by
   have K:Qc G w w':=u.sub λk U=>U▸z.at_;have h1:Yn Jh.id Vj w' (Qn G w w') m ad (Kp Jh.id i l):=(z.del Vj.obj i B u).more (λk U=>.inl U) (z.bd.ext K);exact⟨⟨m,ad,Kp Jh.id i l,hp.filter _,d w' (λw G=>Yn Jh.id Vj w G m ad (Kp Jh.id i l)) K h1⟩,K.sub Z⟩)
  have a0:=Q4 J.1;rw[E]at q;dsimp only[atP,Option.isSome_some]at q|-;clear h E V d Z R z B u J hp;apply WH func182;go_wp2_with fail;apply Zy q;rintro w1 rfl;go_wp2;go_ret;exact⟨rfl,c.o.1,c.o.2⟩
section
attribute [local go_sem ↓] X8 Yd
theorem Jc.set_set(f:Jc){a b:Jh}(h:a.id=b.id):(f.set a).set b=f.set b:=by
 unfold Jc.set;simp only[List.map_map,Jc.mk.injEq,and_true];refine List.map_congr_left λx _=>?_;simp only[Function.comp];by_cases c:x.id=a.id;·rw[if_pos c,if_pos h,if_pos (c.trans h)]
 .rw[if_neg c]
theorem Jc.mem_set{f:Jc}{x a:Jh}(c:x∈f.all)(h:a.id=x.id):a∈(f.set a).all:=Z3.2 ⟨x,c,if_pos h.symm⟩
theorem Qmv{w}{b q c:Nat}{z v0 v1 v2 v3:Value}(k:Qh w b #[z,ZU c] 245)(u:Qh w q #[v0,v1,v2,v3] 255)(d:q≠b)(v:Nat):
  ZW 214 #[ptr b,ptr q,ZU v] w (.tuple #[]) λw'=>w'=(w.setCell ⟨q,1,none⟩ (ZU v)).setCell ⟨b,1,none⟩ (ZU ((max c v:Nat):Int)):=by
 have B:=Q4 (k.other (a:=⟨q,1,none⟩) (ZU v) d);have z0:=(k.other (a:=⟨q,1,none⟩) (ZU v) d).frozen 1;have U:=u.frozen 1;have I:=X9 u;have e:max (c:Int) (v:Int)=((max c v:Nat):Int):=by omega
 rw[<-e];clear k u e;apply WH func214;go_wp2;refine WB rfl rfl ⟨rfl,?_⟩;first|rfl|simp
theorem Yu.madeW{m:Nat}{ad:Int->Nat}{w w'}{F:Fp}{b:Nat}{f:Jc}(h:Yu m ad w F b f){x:Jh}(k:x∈f.all)(v:Nat)
  (E:w'=(w.setCell ⟨ad x.id,1,none⟩ (ZU v)).setCell ⟨b,1,none⟩ (ZU ((max f.mark v:Nat):Int))):Yu m ad w' (Qn F w w') b (f.made x v)/\Qc F w w':=by
 subst E;obtain⟨p,H,d,_,B⟩:=h.memB k;obtain⟨c,q⟩:=h.memC' (x':={x with v:=v}) k rfl rfl d ((Zg _ w).setCell (a:=⟨ad x.id,1,none⟩) (ZU v) (.inl rfl)) (d.set' 1 _ rfl);obtain⟨z,u⟩:=c.marked (n:=max f.mark v) ((Zg _ _).setCell (a:=⟨b,1,none⟩) (ZU ((max f.mark v:Nat):Int)) (.inl rfl)) (c.blk.set' 1 _ rfl);exact(Yu.obj m ad).two z ((Yu.obj m ad).bd h) q u
theorem Qb4{m:Nat}{ad:Int->Nat}{w}{F:Fp}{b:Nat}{f:Jc}(h:Yu m ad w F b f){x:Jh}(d:x∈f.all)(v:Nat):
  ZW 214 #[ptr b,ptr (ad x.id),ZU v] w (.tuple #[]) λw'=>Yu m ad w' (Qn F w w') b (f.made x v)/\Qc F w w':=by
 obtain⟨p,H,k,_,c⟩:=h.memB d;apply Zz (Qmv h.blk k c v);intro w1 q;exact⟨rfl,h.madeW d v q⟩
theorem Qmu{w}{F:Fp}{b:Nat}{f:Jc}(h:J0 w F b f)(hN:∀x∈f.all,x.total<=Xw/\x.run.l.length<1099511627776)(i:Int)(g:Nat)(hg:g<18446744073709551616):
  ZW 157 #[ptr b,ZI i,ZU g] w (.tuple #[]) λw'=>J0 w' (Qn F w w') b (f.gain i g)/\Qc F w w':=by
 obtain⟨m,ad,I⟩:=h.addr;have E:=O (I.at_any i);unfold Jc.gain;unfold Qk3 at E;cases hx:f.at i with
 |none=> have c:=O (I.same (Zg Qb w));rw[hx]at E;dsimp only[atP]at E|-;clear h I hx hN;apply WH func157;go_wp2_with fail;apply Zy E;rintro w1 rfl;go_wp2;refine WA rfl rfl ⟨rfl,c.o.1.is,c.o.2⟩
 |some x=>
  obtain⟨Z,rfl⟩:=Jc.aE hx;obtain⟨K,ab⟩:=hN x Z;obtain⟨p,H,z,_,ae⟩:=I.memB Z;obtain⟨T,hT⟩:=Zx (x.total+min g (Xw-x.total));have aa:T<=Xw:=by omega
  have e1:IntKind.u64.wrap (4611686018427387904-(x.total:Int))=((Xw-x.total:Nat):Int):=by rw[IntWalk.u64_in _ (by have:=Yz;omega)];have:=Yz;omega
  have e2:min (g:Int) ((Xw-x.total:Nat):Int)=((min g (Xw-x.total):Nat):Int):=by omega
  have e3:IntKind.u64.wrap ((x.total:Int)+((min g (Xw-x.total):Nat):Int))=(T:Int):=by rw[IntWalk.u64_in _ (by have:=Yz;omega)];omega
  have HM:=O z;obtain⟨W,V⟩:=Zx ((w.setCell ⟨ad x.id,0,none⟩ (ZU T)).drew);have U:Hi (Yu m ad W (Qn F w W) b (f.set {x with total:=T})/\Qc F w W):=O (by
   rw[V];exact I.memC' (x':={x with total:=T}) Z rfl rfl z ((Zg (λk=>k=ad x.id) w).setCell (a:=⟨ad x.id,0,none⟩) (ZU T) (.inl rfl)).drew (z.set' 0 _ rfl).drew)
  have BW:Hi (Qh W (ad x.id) (Pp {x with total:=T} p) 255):=O (by rw[V];exact(z.set' 0 _ rfl).drew);have SS:=O (f.set_set (a:={x with total:=T}) (b:={{x with total:=T}with v:=x.run.reach T}) rfl);have MM:=O (Jc.mem_set (a:={x with total:=T}) Z rfl);have af:=O ((Yu.obj m ad).bd I);rw[hx]at E;dsimp only[atP]at E|-;rw[<-hT];rcases Bool.eq_false_or_eq_true x.aL with d|d
  rotate_left
  .rw[if_neg (by rw[d];decide)];obtain⟨a0,a1,a2,a3⟩:=X9 z.drew;have z0:=z.drew.frozen 0;obtain⟨d0,d1,d2,d3⟩:=X9 BW.o;simp only[d]at a3 d3;have c:=O U.o;generalize Xw-x.total=u at e1 e2 e3;generalize min g u=u2 at e2 e3;clear h I hx z Z K hT aa hN d ae;apply WH func157;go_wp2_with fail;apply Zy E;rintro w1 rfl;go_wp2_with fail;apply XB 200000000000000;apply YI 0;rw[<-V];clear a0 a1 a2 a3 z0 V;go_wp2_with fail;refine WB rfl rfl ⟨rfl,c.o.1.is,c.o.2⟩
  .rw[if_pos d];obtain⟨a0,a1,a2,a3⟩:=X9 z.drew;have z0:=z.drew.frozen 0;obtain⟨q,G,R,J,_⟩:=U.o.1.memR MM.o;obtain⟨_,_,_,d3⟩:=X9 R;have g0:=X9 R.drew;have HR:=O (λw'(hc:Qc Qb W w')=>Ru (runP.aB J hc (Jl.none G)) ab T (by have:=Yz;omega));have c:Hi (∀w2,Qc Qb W w2->∀w3,Yu m ad w3 (Qn (Qn (Qn F w W) W w2) w2 w3) b ((f.set {x with total:=T}).made {x with total:=T} (x.run.reach T))->Qc (Qn (Qn F w W) W w2) w2 w3->J0 w3 (Qn F w w3) b (f.made {x with total:=T} (x.run.reach T))/\Qc F w w3):=O (by
    intro w2 B w3 h3 c3;obtain⟨s1,s2⟩:=U.o.1.same B;obtain⟨t1,t2⟩:=(Yu.obj m ad).two h3 ((Yu.obj m ad).bd U.o.1) s2 c3;obtain⟨u1,u2⟩:=(Yu.obj m ad).two t1 af.o U.o.2 t2;have e:(f.set {x with total:=T}).made {x with total:=T} (x.run.reach T)=f.made {x with total:=T} (x.run.reach T):=by unfold Jc.made;rw[SS.o];rfl
    rw[e]at u1;exact⟨u1.is,u2⟩)
   have ag:Hi (∀w2,Qc Qb W w2->Yu m ad w2 (Qn (Qn F w W) W w2) b (f.set {x with total:=T})):=O (λw2 B=>(U.o.1.same B).1);simp only[d]at a3 d3;generalize hv:x.run.reach T=v at HR c|-;generalize Xw-x.total=u at e1 e2 e3;generalize min g u=u2 at e2 e3;clear h I hx z Z K hT aa hN d ae R J hv;apply WH func157;go_wp2_with fail;apply Zy E;rintro w1 rfl;go_wp2_with fail;apply XB 200000000000000;apply YI 0;rw[<-V];clear a0 a1 a2 a3 z0 V;go_wp2_with fail;apply XB 220000000011;apply YA 0;clear d3 g0;go_wp2_with fail;apply Zz (HR.o _ (Zg _ W).drew);intro w2 B;replace B:=B.aT;have ac:=ag.o _ B;have C2:=O B;clear B;go_wp2_with fail;refine J7 ?_;go_wp2_with fail;apply Z9 (Qb4 ac (x:={x with total:=T}) MM.o v) (λ_ ⟨h3,c3⟩=>c.o _ C2.o _ h3 c3);intro w3 FF;clear ac;go_wp2_with fail;refine Jo ?_;go_wp2_with fail;refine WB rfl rfl ⟨rfl,FF.o⟩
end
section
theorem Wk(m:Nat)(w):(binOp .eql 243 (.map (some m)) (.map none)).run prog w=.ok (.bool false) w:=by kernel_rfl
attribute [local go_sem] Wk
theorem Yu.ne{m:Nat}{ad:Int->Nat}{w}{F:Fp}{b:Nat}{f:Jc}(h:Yu m ad w F b f):b≠m:=by obtain⟨l,B,z,G,H,c,⟨_,u,_,q,_,_,k,_⟩,d,_⟩:=h;rintro rfl;exact d _ c.2.1 (k _ q.at_)
theorem Qeh{w}{F:Fp}{b:Nat}{f:Jc}(h:J0 w F b f)(i:Int)(c:Jy)(hc:c.May):
  Cl 169 #[ptr b,ZI i,cV c] w λe w'=>(∃r,e=.returned (.bool r))/\J0 w' (Qn F w w') b (f.add i c)/\Qc F w w':=by
 obtain⟨W,E⟩:=Zx (w.alloc (.cells #[ZU c.f,ZU c.l,ZU c.r] 27));have C0:Hi (Qc Qb w W):=O (by rw[E];exact(Zg _ _).alloc _);have B0:Hi (Qh W w.heap.size #[ZU c.f,ZU c.l,ZU c.r] 27):=O (by rw[E];exact Qh.new _ _ _);obtain⟨m,ad,R⟩:=h.addr;obtain⟨hA,ag⟩:=R.same C0.o;have al:=O (J0.obj.bd h);have K:=O (hA.at_any i);have HM:=O (λw=>K8 c w);rw[decide_eq_true hc]at HM;unfold Jc.add;unfold Qk3 at K;cases hx:f.at i with
 |some x=> have J:=O hA;have q:=hA.blk;rw[E]at q;obtain⟨a0,a1⟩:=Q4 q;clear q;rw[hx]at K;dsimp only[atP]at K|-;unfold ptr cV at*;clear h hA hx R ag;apply WH func169;go_wp2_with fail;rw[<-E]at a0 a1|-;clear E;apply Zy K;rintro w1 rfl;go_wp2;go_ret;exact⟨⟨_,rfl⟩,J.o.is,C0.o.none⟩
 |none=>
  have HN:=O (λw=>Cv c hc w);have an:=O hA.ne;obtain⟨l,hp,hs⟩:=hA;obtain⟨G0,hB,_⟩:=J6 (Yc b m f.mark ad l) 0 rfl hs;obtain⟨G,U,hG,ae,I⟩:=Xv 1 (Yc b m f.mark ad l) rfl hs;have hB:=hB.1;have BB:=O hB;have ao:=O U;have ai:Hn Jh.id i l=none:=by rw[<-Jc.at_eq hp U.nodup];exact hx
  have q:=hB;rw[E]at q;obtain⟨a0,a1⟩:=Q4 q;clear q;have J:Hi (∀w3 p H,Yv w3 H p (.new c)->(∀k,H k->W.heap.size<=k)->Qc Qb W w3->∀w4,w4=w3.alloc (.cells #[ZU 0,ZU 0,ptr p,.bool false] 255)->∃d,(Instr.mapUpdate 243 (.map (some m)) (ZI i) (ptr w3.heap.size)).run prog w4=.ok () d/\J0 d (Qn F w d) b ⟨f.all++[(⟨i,0,0,.new c,false⟩:Jh)],f.mark⟩/\Qc F w d/\Qc (λk=>k=m) w4 d):=O (by
   rintro w3 p H hR hH Z w4 rfl;have ac:Qc Qb w3 (w3.alloc (.cells #[ZU 0,ZU 0,ptr p,.bool false] 255)):=(Zg _ _).alloc _;have c4:=Z.aA ac;obtain⟨d,aj,B,c5⟩:=X6 (P:=prog) (U.map.aB c4 (λh=>h)) underlying243 underlying3 i (ptr w3.heap.size);have Xg:W.heap.size<=w3.heap.size:=Z.size;have hX:Vj (w3.alloc (.cells #[ZU 0,ZU 0,ptr p,.bool false] 255)) (Qn Qb W (w3.alloc (.cells #[ZU 0,ZU 0,ptr p,.bool false] 255))) w3.heap.size (⟨i,0,0,.new c,false⟩:Jh):=
    O1.new (p:=p) (G:=H) (runP.aB hR ac (Jl.none _)) hH runP (Qh.new _ _ _) Xg (λu=>absurd (runP.bd hR _ u) (by omega))
   have am:=U.aB Vj.obj c4 (Jl.none G);have V:=am.put Vj.obj hX (λk a b=>by
    have:=ae k (hG k b);rcases(Qr k).1 a with⟨q,_⟩;omega) (key:=Jh.id) ai B c5
   have cG:Qc G W d:=(c4.none (F:=G)).aA (c5.sub λk u=>u▸U.at_);have h5:=I d (λw G=>Yn Jh.id Vj w G m (λj=>if j=i then w3.heap.size else ad j) (l++[(⟨i,0,0,.new c,false⟩:Jh)])) cG
    (V.more (λk u=>u.elim .inl (λu=>.inr ⟨((Qr k).1 u).1,Nat.lt_of_lt_of_le ((Qr k).1 u).2 c5.size⟩)) (U.bd.ext cG))
   have cF:Qc (Qn F w W) W d:=cG.sub hG;obtain⟨r1,r2⟩:=J0.obj.two (F:=F) (w:=w) (w1:=W) (w2:=d) (b:=b) (z:=⟨f.all++[(⟨i,0,0,.new c,false⟩:Jh)],f.mark⟩) ⟨m,(λj=>if j=i then w3.heap.size else ad j),l++[(⟨i,0,0,.new c,false⟩:Jh)],hp.append_right _,h5⟩ al.o C0.o.none cF;exact⟨d,aj,r1,r2,c5⟩)
  rw[hx]at K;dsimp only[atP]at K|-;unfold ptr cV at*;clear h hx hs I hG ae U hp R ag ai hB;apply WH func169;go_wp2_with fail;rw[<-E]at a0 a1|-;clear E;apply Zy K;rintro w1 rfl;obtain⟨b0,b1,b2⟩:=L6 B0.o;go_wp2_with fail;apply Zz (HM.o _);intro w2 c2;have C2:=O c2;obtain⟨d0,d1,d2⟩:=L6 (c2.blk B0.o (λh=>h)).drew;clear c2 a0 a1 b0 b1 b2;go_wp2_with fail;have B2:=O (C2.o.blk BB.o (λh=>h));apply XC 3202011111 (λk=>k=m) w2;iterate 5 (apply YK λ_ hv=>Q4 (hv.blk B2.o an.o))
  apply YA 0;clear d0 d1 d2;go_wp2_with fail;refine(HN.o _).mono ?_;rintro e w3⟨p,rfl,hR,Z⟩;have aa:=O (Z.aT.none (F:=λk=>k=m));have C3:=O (C2.o.aA Z.aT);have HR:=O hR;have ak:=O (λk(u:Qn Qb w2.drew w3 k)=>show W.heap.size<=k from Zp C2.o.size ((Qr k).1 u).1);have ab:=O (J.o w3 p _ hR ak.o C3.o _ rfl);clear Z hR;go_wp2_with fail;refine⟨aa.o,?_⟩;apply YA 0;go_wp2_with fail;refine⟨aa.o.alloc _,?_⟩;obtain⟨d,ap,ah,af,B⟩:=ab.o;have F5:=O ah;have C5:=O af;have M5:=O B;clear ah af B;apply YI 0;go_wp2;go_ret;exact⟨⟨_,rfl⟩,F5.o,C5.o⟩
end
section
open Go.Shelf
attribute [local go_sem] Oper.semAt_some
theorem Le.far{T S:Fp}{W w1 w2}(h:Le T W w1)(z:Qc S w1 w2)(q:∀k,S k->W.heap.size<=k):Le T W w2:=λb o u c d=>by have Xg:=(Z2.1 c).1;exact z.heap (h b o u c d) (λB=>by have:=q b B;omega)
theorem Kj.kpt{T:Fp}{w w'}{b r:Nat}{l left:List (Int×Value)}(h:Kj w b r l left)(k:Le T w w')(R:T b)(U:T r):Kj w' b r l left:=by obtain⟨q,c,d,u,z,B,E,I,J,K⟩:=h;exact⟨q,c,d,k b _ R u (.inr rfl),z,B,E,I,k r _ U J (.inr rfl),K⟩
theorem O8{X:Type}{key:X->Int}{x:X}:∀{l:List X},(l.map key).Nodup->x∈l->l.Perm (x::Kp key (key x) l)
 |y::l,hn,c=>by
  simp only[List.map_cons,List.nodup_cons]at hn;rcases Zu.1 c with rfl|c
  .have:Kp key (key x) (x::l)=l:=by unfold Kp;rw[List.filter_cons_of_neg (by simp)];refine List.filter_eq_self.2 λz k=>?_;have:key z≠key x:=λe=>hn.1 (Z3.2 ⟨z,k,e⟩);simpa using this
   rw[this]
  .have d:key y≠key x:=λe=>hn.1 (Z3.2 ⟨x,c,e.symm⟩);have:Kp key (key x) (y::l)=y::Kp key (key x) l:=by unfold Kp;rw[List.filter_cons_of_pos (by simpa using d)]
   rw[this];exact((O8 hn.2 c).cons y).trans (.swap x y _)
theorem Hr{X:Type}{key:X->Int}{ad:Int->Nat}(i:Int)(l:List X):Vu i (Xy key ad l)=Xy key ad (Kp key i l):=by simp only[Xy,Kp,Vu,List.filter_map];rfl
def Qt1(ad:Int->Nat){l:List Jh}(x:{x:Jh//x∈l}):Array Value:=#[ZI x.1.id,ptr (ad x.1.id)]
structure Ah(w:World)(b m:Nat)(ad:Int->Nat)(pr:Int->Nat)(l:List Jh)(mark:Nat):Prop where
 blk:Qh w b #[.map (some m),ZU mark] 245
 map:Xq w m (Xy Jh.id ad l)
 mem:∀x∈l,Qh w (ad x.id) (Pp x (pr x.id)) 255
theorem Ah.kpt{T:Fp}{w w'}{b m:Nat}{ad pr:Int->Nat}{l:List Jh}{c:Nat}(h:Ah w b m ad pr l c)(k:Le T w w')(E:T b)(I:T m)(ha:∀x∈l,T (ad x.id)):Ah w' b m ad pr l c where
 blk:=k.blk h.blk E
 map:=by obtain⟨u,d,z,B⟩:=h.map;exact⟨u,d,k m _ I z (.inr rfl),B⟩
 mem:=λx q=>k.blk (h.mem x q) (ha x q)
theorem Ah.aB{S:Fp}{w w'}{b m:Nat}{ad pr:Int->Nat}{l:List Jh}{c:Nat}(h:Ah w b m ad pr l c)(d:Qc S w w')(q:¬S b)(u:¬S m)(ha:∀x∈l,¬S (ad x.id)):Ah w' b m ad pr l c where
 blk:=d.blk h.blk q
 map:=h.map.aB d u
 mem:=λx k=>d.blk (h.mem x k) (ha x k)
def Dq(w:World)(r:Nat):Nat:=match w.heap[r]? with
 |some (.mapIter (some b) _ seen _)=>(match w.heap[b]? with
  |some (.map es _)=>(leftOf es seen).size
  |_=>0)
 |_=>0
theorem Kj.left_eq{w}{b r:Nat}{l left:List (Int×Value)}(h:Kj w b r l left):Dq w r=left.length:=by
 obtain⟨k,d,c,q,B,E,I,J,u,K,z,R⟩:=h;have:(leftOf k c).size=left.length:=by simpa using congrArg List.length z
 simp[Dq,u,q,this]
theorem Qc.grownRow{w w'}{r:Nat}(h:Qc (λk=>k=r) w w'):w.grownBy w' (some r):=⟨h.os,h.tape,h.output,h.size,λk d c=>h.block k d (λe=>c (by rw[e]))⟩
theorem Qhf(w:World)(o:Obj):w.grownBy (w.alloc o) none:=⟨rfl,rfl,rfl,by simp,λk c _=>Below.heap_alloc _ _ _ c⟩
theorem Kj.walk{w}{b r:Nat}{l left:List (Int×Value)}(h:Kj w b r l left):∃o:Obj,w.heap[r]? =some o/\o.isWalk=true:=by obtain⟨q,c,d,u,z,B,E,I,k,_⟩:=h;exact⟨_,k,rfl⟩
theorem Qu8(n l' Bf b m ap:Nat)(hn:1<=n)(T:Fp)(ad pr:Int->Nat)(l:List Jh)(an:(l.map Jh.id).Nodup)(J Jx:List {x:Jh//x∈l}->World->Prop)(W:World)
  (hJ:AbidesFrom W.heap.size J) (hB:Qh W Bf #[ptr b] 145) (hV:Ah W b m ad pr l ap)
  (ax:T Bf) (aw:T b) (ak:T m) (aj:∀x∈l,T (ad x.id)) (al:∀k,W.heap.size<=k->T k)
  (hY:∀c x W1,J c W1->c.length<l.length->YieldAt Fence.wide (n-1) prog l' (Qt1 ad x) W1 λe W'=>
   (e=.returned (.bool true)/\J (c++[x]) W'/\Le T W1 W')\/(e=.returned (.bool false)/\Jx (c++[x]) W')) (h0:J [] W):
  CallsIn Fence.wide n prog 266 #[.func (.yield l') #[] #[],ZP Bf] W λe W'=>(∃v,e=.returned v)/\
   ((∃ys,(ys.map (·.1)).Perm (l.filter (·.aL))/\J ys W')\/(∃c,True/\Jx c W')):=by
 obtain⟨o,a2,B⟩:=Er (P:=prog) hV.map underlying243;have c0:=Jf hB;have c1:=Q4 hV.blk;have ah:Hi (∃q c,Kj (W.alloc o) m W.heap.size (Xy Jh.id ad l) (Xy Jh.id ad q)/\q.Sublist l/\(c.map (·.1)++q.filter (·.aL)).Perm (l.filter (·.aL))/\c.length+q.length<=l.length/\J c (W.alloc o)/\Le T W (W.alloc o)):=
  O ⟨l,[],B,List.Sublist.refl _,List.Perm.refl _,by simp,hJ _ _ _ none h0 (Qhf W o) (λr e=>by cases e),Le.far (λb o _ h _=>h:Le T W W) ((Zg Qb W).alloc o) (λ_ h=>h.elim)⟩
 have HV:=O hV;have HJ:=O hJ;have HY:=O hY;have av:=O aj;have HT:=O (Zt ak al);clear hB hV hJ hY B h0 ax aw ak aj al;refine callsIn_of_wp func266 rfl trivial ?_ rfl;simp only[ntmps266,List.size_toArray,Zm,List.length_nil,Nat.reduceAdd,Nat.reduceSub,Array.replicate_succ,Array.replicate_zero,List.push_toArray,List.append_toArray,List.nil_append,List.cons_append];gi_wp2;gi_loopw [3,4] (λ_ _ wr=>∃q c,Kj wr m W.heap.size (Xy Jh.id ad l) (Xy Jh.id ad q)/\q.Sublist l/\(c.map (·.1)++q.filter (·.aL)).Perm (l.filter (·.aL))/\c.length+q.length<=l.length/\J c wr/\Le T W wr) (λ_ _ wr=>Dq wr W.heap.size);case atStart=>exact ah.o
 case round=>
  obtain⟨q,c,B,z,d,V,hj,hk⟩:=hrel;rcases Rx (P:=prog) B 0 with⟨h0,hr⟩|⟨p,hp,w2,hr,u,aa,am⟩
  .have az:q=[]:=by
    cases q with
    |nil=>rfl
    |cons a l=>cases h0
   subst az;have ar:=O (show(c.map (·.1)).Perm (l.filter (·.aL)) by simpa using d);have au:=O hj;clear B z d V hj hk;gi_wp2;go_end0;exact⟨⟨_,rfl⟩,.inl ⟨c,ar.o,au.o⟩⟩
  .obtain⟨x,hx,rfl⟩:=Z3.1 hp;have I:=z.subset hx;have R:Le T W w2:=Le.far hk aa (λk e=>by rw[e];exact Zv _);have ab:J c w2:=HJ.o c wr w2 (some W.heap.size) hj aa.grownRow (λr e=>by cases e;exact⟨Zv _,B.walk⟩);have hM:Qh w2 (ad x.id) (Pp x (pr x.id)) 255:=R.blk (HV.o.mem x I) (av.o x I);obtain⟨d0,d1,d2,d3⟩:=X9 hM;have Xg:Dq w2 W.heap.size<Dq wr W.heap.size:=by rw[u.left_eq,B.left_eq,Hr];have:=(O8 (key:=Jh.id) (an.sublist (z.map _)) hx).length_eq;simp only[Xy,List.length_map,Zm]at*;omega
   dsimp only at u;rw[Hr]at u;have K:=O8 (key:=Jh.id) (an.sublist (z.map _)) hx;have E:(Kp Jh.id x.id q).Sublist l:=List.filter_sublist.trans z;dsimp only at hr am;unfold ptr at hr am;cases ac:x.aL with
   |false=>
    rw[ac]at d3;have ag:Hi (∃q c,Kj w2 m W.heap.size (Xy Jh.id ad l) (Xy Jh.id ad q)/\q.Sublist l/\(c.map (·.1)++q.filter (·.aL)).Perm (l.filter (·.aL))/\c.length+q.length<=l.length/\J c w2/\Le T W w2):=O (by
     refine⟨Kp Jh.id x.id q,c,u,E,?_,?_,ab,R⟩;·refine(List.Perm.append_left (c.map (·.1)) ?_).trans d;have:=(K.filter (·.aL)).symm;rwa[List.filter_cons_of_neg (by rw[ac];decide)]at this
     .have:=K.length_eq;simp at this;omega)
    have LT:=O Xg;clear B z d V hj hk u aa R ab hM Xg K E hx I hp;gi_wp2;refine⟨λ_ h=>(by cases h),?_⟩;gi_wp2;go_roundw;case rel=>exact ag.o
    case measure=>exact LT.o
   |true=>
    rw[ac]at d3;have ao:c.length<l.length:=by have:=List.length_pos_of_mem hx;omega
    obtain⟨fn,a1,aq,a0,hy,hR⟩:=HY.o c ⟨x,I⟩ w2 ab ao;have HR:=O hR;have ag:Hi (∀Z,J (c++[⟨x,I⟩]) Z->Le T w2 Z->(∃q c,Kj Z m W.heap.size (Xy Jh.id ad l) (Xy Jh.id ad q)/\q.Sublist l/\(c.map (·.1)++q.filter (·.aL)).Perm (l.filter (·.aL))/\c.length+q.length<=l.length/\J c Z/\Le T W Z)/\Dq Z W.heap.size<Dq wr W.heap.size):=O (by
     intro Z ay U;have af:=u.kpt U HT.o.1 (HT.o.2 _ (Zv _));refine⟨⟨Kp Jh.id x.id q,c++[⟨x,I⟩],af,E,?_,?_,ay,R.trans U⟩,?_⟩
     .have e:(c++[(⟨x,I⟩:{x:Jh//x∈l})]).map (·.1)++(Kp Jh.id x.id q).filter (·.aL)=c.map (·.1)++(x::(Kp Jh.id x.id q).filter (·.aL)):=by simp
      rw[e];refine(List.Perm.append_left (c.map (·.1)) ?_).trans d;have:=(K.filter (·.aL)).symm;rwa[List.filter_cons_of_pos (by rw[ac])]at this
     .have:=K.length_eq;simp at this|-;omega
     .rw[af.left_eq,<-u.left_eq];exact Xg)
    unfold Qt1 ptr at hy;clear B z d V hj hk u aa R ab hM Xg K E hx hp hR ao;gi_wp2;refine HR.o.mono ?_;clear hy;rintro e Z(⟨rfl,ai,U⟩|⟨rfl,ae⟩)
    .have R3:=O (ag.o Z ai U);clear ai U;gi_wp2;go_roundw;case rel=>exact R3.o.1
     case measure=>exact R3.o.2
    .have X3:=O ae;clear ae;gi_wp2;refine WA rfl rfl ?_;exact⟨⟨_,rfl⟩,.inr ⟨_,trivial,X3.o⟩⟩
theorem Qs0(n d b m c:Nat)(hn:1<=n)(T:Fp)(ad pr:Int->Nat)(l:List Jh)(K:(l.map Jh.id).Nodup)(w)(V:Qh w d #[ptr b] 145)(hV:Ah w b m ad pr l c)
  (z:T d) (u:T b) (B:T m) (q:∀x∈l,T (ad x.id)) (E:∀k,w.heap.size<=k->T k):
  SeqStopsK Fence.wide n prog 266 #[ZP d] (Qt1 ad (l:=l)) (Le T) (λys=>(ys.map (·.1)).Perm (l.filter (·.aL))) (λ_=>True) l.length w:=λl' J R W I Z _ hY U=>
 Qu8 n l' d b m c hn T ad pr l K J R W Z ((Qc.ofBelow (S:=Qb) I).blk V (λh=>h)) (hV.aB (Qc.ofBelow (S:=Qb) I) (λh=>h) (λh=>h) (λ_ _ h=>h)) z u B q (λk hk=>E k (Zp I.size hk)) hY U
theorem Qs1(b:Nat)(w):ZW 255 #[ptr b] w (.func (.func 266) #[] #[ZP w.heap.size]) λw'=>w'=w.alloc (.cells #[ptr b] 145):=by unfold ptr;apply WH func255;exact WE
end
section
open Go.Shelf
attribute [local go_sem] Oper.semAt_some
attribute [local go_sem ↓] X8 Yd
attribute [local irreducible] Uo
theorem Yu.view{m:Nat}{ad:Int->Nat}{w}{F:Fp}{b:Nat}{f:Jc}(h:Yu m ad w F b f):∃pr l,l.Perm f.all/\(l.map Jh.id).Nodup/\Ah w b m ad pr l f.mark:=by
 obtain⟨l,B,I,G,d⟩:=h.coll;have H:∀i:Int,∃p,∀x∈l,x.id=i->Qh w (ad x.id) (Pp x p) 255:=λi=>by
  by_cases k:∃x∈l,x.id=i;·obtain⟨x,c,k⟩:=k;obtain⟨p,_,J,_⟩:=h.memB (B.mem_iff.1 c);refine⟨p,λy K u=>?_⟩;have E:=Ls d.nodup c k;have z:=Ls d.nodup K u;rw[E]at z;obtain rfl:=Zs z;exact J
  .exact⟨0,λx c e=>(k ⟨x,c,e⟩).elim⟩
 obtain⟨pr,q⟩:=Classical.axiomOfChoice H;exact⟨pr,l,B,d.nodup,I,d.map,λx c=>q _ x c rfl⟩
def Ou(l:List Jh):Nat:=l.foldl (λn m=>min n m.v) Qq
def Ln(l:List Jh):Nat:=l.foldl (λn m=>max n m.v) 0
theorem Qhn(l:List Jh)(x:Jh):Ou (l++[x])=min (Ou l) x.v:=by simp[Ou]
theorem Qk7(l:List Jh)(x:Jh):Ln (l++[x])=max (Ln l) x.v:=by simp[Ln]
theorem F7{l c:List Jh}(h:l.Perm c):Ou l=Ou c:=by unfold Ou;exact h.foldl_eq' (λx _ y _ z=>by omega) _
theorem Qar{l c:List Jh}(h:l.Perm c):Ln l=Ln c:=by unfold Ln;exact h.foldl_eq' (λx _ y _ z=>by omega) _
theorem Cg:∀l:List Jh,Ou l<=Qq:=by
 have:∀(l:List Jh)(a:Nat),a<=Qq->l.foldl (λn m=>min n m.v) a<=Qq:=by
  intro l;induction l with
  |nil=>exact λa h=>h
  |cons x l c=>exact λa h=>c _ (Zp (Nat.min_le_left _ _) h)
 exact λl=>this l _ (Zv _)
theorem Qaq:∀l:List Jh,(∀x∈l,x.v<=Qq)->Ln l<=Qq:=by
 have:∀(l:List Jh)(a:Nat),a<=Qq->(∀x∈l,x.v<=Qq)->l.foldl (λn m=>max n m.v) a<=Qq:=by
  intro l;induction l with
  |nil=>exact λa h _=>h
  |cons x l k=>exact λa h c=>k _ (Nat.max_le.2 ⟨h,c x (by simp)⟩) (λy d=>c y (by simp[d]))
 exact λl h=>this l 0 (Nat.zero_le _) h
def R7(l:List Jh)(c v:Nat):Nat:=if Ln l<Ou l then max v c else max v (Ou l+(Ln l-Ou l)/2)
theorem Qst{f:Jc}{l:List Jh}(c:l.Perm (f.all.filter (·.aL)))(x:Jh):f.start x=R7 l f.mark x.v:=by unfold Jc.start R7;have d:f.least=Ou l:=F7 c.symm;have k:f.most=Ln l:=Qar c.symm;rw[d,k]
theorem Qpa{w}{s t:Nat}{a z v:Nat}(B:Qh w s #[ZU a] 22)(K:Qh w t #[ZU z] 22)(q:s≠t):
  ZW 254 #[ZU v,ZP s,ZP t] w (.tuple #[]) λw'=>Qh w' s #[ZU ((min a v:Nat):Int)] 22/\Qh w' t #[ZU ((max z v:Nat):Int)] 22/\Qc (λk=>k=s\/k=t) w w':=by
 have V:=O B;have u:=O K;have e1:min (a:Int) (v:Int)=((min a v:Nat):Int):=by omega
 have e2:max (z:Int) (v:Int)=((max z v:Nat):Int):=by omega
 have a0:=Jf B.drew;have z1:=B.drew.frozen 0;have d:=O q;clear B K q;apply WH func254;go_wp2_with fail;apply XC 32111000 (λk=>k=s) w;iterate 3 (refine Xe (h:=?_))
 iterate 3 (apply YK λ_ Z=>Jf (Z.blk u.o d.o.symm))
 refine Yb ?_;go_wp2_with fail;refine⟨by exact Z0,?_⟩;have J:=((u.o).other (a:=⟨s,0,none⟩) (ZU ((min a v:Nat):Int)) d.o).drew;have I:=(V.o.set' 0 (ZU ((min a v:Nat):Int)) rfl).drew;have y3:=(u.o.other (a:=⟨s,0,none⟩) (ZU ((min a v:Nat):Int)) d.o).frozen 0;have y4:=Jf (u.o.other (a:=⟨s,0,none⟩) (ZU ((min a v:Nat):Int)) d.o);have E:=O (J.set' 0 (ZU ((max z v:Nat):Int)) rfl);have c:=O (I.other (a:=⟨t,0,none⟩) (ZU ((max z v:Nat):Int)) d.o.symm);have U:Hi (Qc (λk=>k=s\/k=t) w ((w.setCell ⟨s,0,none⟩ (ZU ((min a v:Nat):Int))).drew.setCell ⟨t,0,none⟩ (ZU ((max z v:Nat):Int)))):=O (((Zg _ w).setCell (a:=⟨s,0,none⟩) _ (.inl (.inl rfl))).drew.setCell (a:=⟨t,0,none⟩) _ (.inl (.inr rfl)));clear I J;apply YI 0;go_wp2_with fail;refine WB rfl rfl ⟨rfl,?_,?_,?_⟩;·exact c.o
 .exact E.o
 .exact U.o
theorem Qjj{w}{b m d:Nat}{ad pr:Int->Nat}{l:List Jh}(hV:Ah w b m ad pr l d)(ao:(l.map Jh.id).Nodup)(hb:∀y∈l,y.v<=Qq)(ax:d<=Qq){x:Jh}(hx:x∈l):
  ZW 230 #[ptr b,ptr (ad x.id)] w (ZU ((R7 (l.filter (·.aL)) d x.v:Nat):Int)) λw'=>Qc Qb w w':=by
 have HU:=O (Qs1 b);refine callsIn_wide (n:=9).1 ?_;unfold ptr at HU|-;refine callsIn_of_wp_marks func230 rfl trivial ?_;simp only[ntmps230,List.size_toArray,Zm,List.length_nil,Nat.reduceAdd,Nat.reduceSub,Array.replicate_succ,Array.replicate_zero,List.push_toArray,List.append_toArray,List.nil_append,List.cons_append];gi_wp2_with (refine⟨trivial,?_⟩;gi_at_call 255;refine(callsIn_wide.2 (HU.o _)).mono ?_;rintro e w1⟨rfl,rfl⟩);obtain⟨s,I⟩:=Zx (w.heap.size);obtain⟨J,q⟩:=Zx (((((w.alloc (.cells #[ZU 9223372036854775808] 22)).alloc (.cells #[ZU 0] 22)).alloc (.cells #[.func (.func 254) #[] #[ZP w.heap.size,ZP (w.heap.size+1)]] 91)).alloc (.cells #[ZP b] 145)));have C0:Hi (Qc Qb w J):=O (by rw[q];exact((((Zg _ _).alloc _).alloc _).alloc _).alloc _);have a2:J.heap.size=s+4:=by rw[q,I];simp
 have B5:Hi (Qh J s #[ZU ((Ou []:Nat):Int)] 22):=O (by rw[q,I];exact(((Qh.new' _ _ (by simp)).alloc _).alloc _).alloc _);have B6:Hi (Qh J (s+1) #[ZU ((Ln []:Nat):Int)] 22):=O (by rw[q,I];exact((Qh.new' _ _ (by simp)).alloc _).alloc _);have B7:Hi (Qh J (s+1+1) #[.func (.func 254) #[] #[ZP s,ZP (s+1)]] 91):=O (by rw[q,I];exact(Qh.new' _ _ (by simp)).alloc _);have B8:Hi (Qh J (s+1+1+1) #[ptr b] 145):=O (by rw[q,I];exact Qh.new' _ _ (by simp));have ai:Hi (Ah J b m ad pr l d):=O (hV.aB C0.o (λh=>h) (λh=>h) (λ_ _ h=>h));have aw:b<s:=I▸hV.blk.lt;have ay:m<s:=I▸hV.map.lt;have ak:∀y∈l,ad y.id<s:=λy hy=>I▸(hV.mem y hy).lt;rw[<-I]at q|-;rw[<-q];have ah:=O I;have HB:=O hb;have aj:=O hV;clear q I hb hV;refine wpIn_rangeFunc_ownH rfl (by decide) (gf:=266) (lb:=#[ZP (s+1+1+1)]) rfl trivial (enters_of func266 (by kernel_rfl) rfl)
  (Qs0 8 (s+1+1+1) b m d (by decide) (λk=>k≠s/\k≠s+1) ad pr l ao J B8.o ai.o ⟨by omega,by omega⟩ ⟨by omega,by omega⟩ ⟨by omega,by omega⟩ (λy hy=>by have:=ak y hy;exact⟨by omega,by omega⟩) (λk hk=>⟨by omega,by omega⟩))
  (λh k=>h.trans k) (λW l o o' h1 h2 h3 h4=>Le.put (w:=J) W l o o' h1 h2 h3 h4) (Below.refl _ _) (λ_=>rfl)
  (λaa W=>((Qh W s #[ZU ((Ou (aa.map (·.1)):Nat):Int)] 22/\Qh W (s+1) #[ZU ((Ln (aa.map (·.1)):Nat):Int)] 22)/\Qc (λk=>k=s\/k=s+1) J W))
  (λ_ _ _=>False)
  (OwnFrom.and (OwnFrom.and (Yx _ _ _ _) (Yx _ _ _ _)) (Dr (Zv _)))
  (λc=>λ_ _ _ _ h _ _=>h.elim)
  ⟨⟨B5.o,B6.o⟩,Zg _ _⟩
  (λy a' W=>a'={tmps:=#[ZP b,ZP (ad x.id),undef,undef,ZU 0,ZP s,ZP (s+1),ZP (s+1+1),undef,ptr (ad y.1.id),.func (.func 254) #[] #[ZP s,ZP (s+1)],ZP b,.func (.func 266) #[] #[ZP (s+1+1+1)],ZI y.1.id,ptr (ad y.1.id),undef,undef,undef,undef,undef,undef,undef,undef,undef,undef,undef,undef,undef,undef,undef,undef,undef,undef,undef,undef,undef,undef,undef,undef,undef,undef,undef,undef,undef],defers:=[]})
  (λy a' _ X Y a4 I hg hr=>I)
  ?assign ?body ?done (λ_ _ _ _ _ _ h _=>h.elim)
 case assign=> rintro l' aa y W K hI hK;dsimp only[Qt1];gi_wp2;exact hK _ _ ⟨Zv _,λk o _ h1 _=>h1⟩ (λ_ _ _ h _=>h) hI rfl
 case body=>
  rintro l' aa y a' W hl az⟨⟨U,V⟩,B⟩rfl Xg;obtain⟨y,hy⟩:=y;dsimp only;have HM:=O (Qpa (v:=y.v) U.drew V.drew (by omega));have ae:Qc (λk=>k=s\/k=s+1) J W.drew:=B.drew;have an:=ak y hy;have f0:=Jf (ae.blk B7.o (by omega));have d0:=X9 (ae.blk (ai.o.mem y hy) (by omega));have HC:=O B;have aq:=O U;have ar:=O V;clear U V B ae an;gi_wp2;have ap:prog.follows .mixedOrders=true:=by kernel_rfl
  gi_region_with_o (refine⟨trivial,?_⟩;refine(CallsIn.inRound l' (callsIn_wide.2 HM.o)).mono ?_;rintro e w2⟨rfl,n5,n6,c2⟩);all_goals
   have C2:=O c2.aT;have N5:=O n5;have N6:=O n6;clear f0 d0 c2 n5 n6;refine⟨Vg C2.o (λk hk=>by rcases hk with h|h<;>omega),Le.chg C2.o (λk h1 h2=>by rcases h2 with h|h<;>omega),⟨?_,?_⟩,HC.o.aA C2.o⟩;·rw[List.map_append,List.map_cons,List.map_nil,Qhn];exact N5.o
   .rw[List.map_append,List.map_cons,List.map_nil,Qk7];exact N6.o
 case done=>
  rintro D ys W hD hp⟨⟨U,V⟩,B⟩hK;have cw:Qc Qb w W:=C0.o.trans B (λk hk=>.inr (by rw[<-ah.o];rcases hk with h|h<;>omega));have Z:R7 (l.filter (·.aL)) d x.v=R7 (ys.map (·.1)) d x.v:=by unfold R7;rw[F7 hp,Qar hp]
  obtain⟨a3,R⟩:=Zx (R7 (l.filter (·.aL)) d x.v);rw[<-R]at Z;have ab:=O R;clear R;have ag:Ln (ys.map (·.1))<=Qq:=Qaq _ λz hz=>HB.o z ((List.mem_filter.1 (hp.mem_iff.1 hz)).1);have al:=HB.o x hx;have HX:=O (cw.blk (aj.o.mem x hx) (λh=>h));have am:=O (cw.blk aj.o.blk (λh=>h));have af:=Cg (ys.map (·.1));unfold R7 at Z;generalize Ou (ys.map (·.1))=u at U Z af;generalize Ln (ys.map (·.1))=E at V Z ag;have hN:Qq=9223372036854775808:=rfl;by_cases Xg:E<u
  .rw[if_pos Xg]at Z;have E0:=O Z;have d1:decide (E<u)=true:=by simpa using Xg
   have d2:(E:Int)<(u:Int):=by omega
   have em:max (x.v:Int) (d:Int)=((max x.v d:Nat):Int):=by omega
   have a0:=Jf U;have a1:=Jf V;have x0:=X9 HX.o.drew;have m0:=Q4 am.o.drew;have HK:=O hK;have CW:=O cw;have ac:w.heap.size<=D:=by have:=ah.o;omega
   clear Z U V B hp hK cw af ag al hN Xg;gi_wp2;refine Sc [(0,0),(0,1),(0,2),(0,3),(0,4),(0,5),(0,6),(0,7),(0,8),(2,9)] Zq (by kernel_rfl) ?_;simp only[Jk,Zf,Ze,Zd];iterate 9 (refine Et (h:=?_))
   refine Bl ?_;gi_wp2;refine Qnv ?_;gi_wp2;refine⟨by simp,.inl ⟨_,_,rfl,run_takeDeferred (show W.drew.heap[D]? =_ from HK.o),?_⟩⟩;refine⟨ZU ((max x.v d:Nat):Int),?_,by rw[<-ab.o,E0.o],Ud CW.o.drew ac (Z2.1 HK.o).1⟩;simp[results,Tryz.results230,go_sem]
  .rw[if_neg Xg]at Z;have E0:=O Z;have d1:decide (E<u)=false:=by simpa using Xg
   have d2:¬(E:Int)<(u:Int):=by omega
   have e1:IntKind.u64.wrap ((E:Int)-(u:Int))=((E-u:Nat):Int):=by rw[IntWalk.u64_in _ (by omega)];omega
   have e3:IntKind.u64.wrap (((E-u:Nat):Int)/2)=(((E-u)/2:Nat):Int):=by rw[IntWalk.u64_in _ (by omega)];omega
   have e2:IntKind.u64.wrap ((u:Int)+(((E-u)/2:Nat):Int))=((u+(E-u)/2:Nat):Int):=by rw[IntWalk.u64_in _ (by omega)];omega
   have em:max (x.v:Int) ((u+(E-u)/2:Nat):Int)=((max x.v (u+(E-u)/2):Nat):Int):=by omega
   have a0:=Jf U;have a1:=Jf V;have au:=Jf U.drew;have av:=Jf V.drew;have x0:=X9 HX.o.drew;have HK:=O hK;have CW:=O cw;have ac:w.heap.size<=D:=by have:=ah.o;omega
   clear Z U V B hp hK cw af ag al hN Xg;gi_wp2;refine Sc [(0,0),(0,1),(0,2),(0,3),(0,4),(0,5),(0,6),(0,7),(0,8),(0,9),(0,10),(2,11)] Zq (by kernel_rfl) ?_;simp only[Jk,Zf,Ze,Zd];generalize(E-u)/2=hf at e2 e3 em E0;generalize u+hf=lh at e2 em E0;iterate 11 (refine Et (h:=?_))
   refine Bl ?_;gi_wp2;refine Qnv ?_;gi_wp2;refine⟨by simp,.inl ⟨_,_,rfl,run_takeDeferred (show W.drew.heap[D]? =_ from HK.o),?_⟩⟩;refine⟨ZU ((max x.v lh:Nat):Int),?_,by rw[<-ab.o,E0.o],Ud CW.o.drew ac (Z2.1 HK.o).1⟩;simp[results,Tryz.results230,go_sem]
theorem Qji{m:Nat}{ad:Int->Nat}{w}{F:Fp}{b:Nat}{f:Jc}(h:Yu m ad w F b f)(u:∀y∈f.all,y.v<=Qq)(c:f.mark<=Qq){x:Jh}(z:x∈f.all):
  ZW 230 #[ptr b,ptr (ad x.id)] w (ZU ((f.start x:Nat):Int)) λw'=>Qc Qb w w':=by
 obtain⟨pr,l,k,d,q⟩:=h.view;rw[Qst (k.filter _) x];exact Qjj q d (λy B=>u y (k.mem_iff.1 B)) c (k.mem_iff.2 z)
end
theorem Jc.made_wake(f:Jc)(x:Jh)(v:Nat)(r:Xh):((f.made x v).set {{x with v:=v}with run:=r}).set {{{x with v:=v}with run:=r}with aL:=true}=f.made {x with run:=r,aL:=true} v:=by refine(Jc.set_set (f.made x v) (a:={{x with v:=v}with run:=r}) (b:={{{x with v:=v}with run:=r}with aL:=true}) rfl).trans ?_;have e:=f.set_set (a:={x with v:=v}) (b:={{{x with v:=v}with run:=r}with aL:=true}) rfl;unfold Jc.made;show(⟨((f.set {x with v:=v}).set {{{x with v:=v}with run:=r}with aL:=true}).all,max f.mark v⟩:Jc)=_;rw[e]
theorem Qmw{w}{F:Fp}{b:Nat}{f:Jc}(h:J0 w F b f)(hN:∀x∈f.all,x.total<=Xw/\x.run.l.length<549755813888/\x.v<=Qq)(K:f.mark<=Qq)(i:Int):
  ZW 175 #[ptr b,ZI i] w (.tuple #[]) λw'=>J0 w' (Qn F w w') b (f.wake i)/\Qc F w w':=by
 obtain⟨m,ad,I⟩:=h.addr;have R:=O (I.at_any i);unfold Jc.wake;unfold Qk3 at R;cases hx:f.at i with
 |none=> have c:=O (I.same (Zg Qb w));rw[hx]at R;dsimp only[atP]at R|-;clear h I hx hN K;apply WH func175;go_wp2_with fail;apply Zy R;rintro w1 rfl;go_wp2;refine WA rfl rfl ⟨rfl,c.o.1.is,c.o.2⟩
 |some x=>
  obtain⟨hm,rfl⟩:=Jc.aE hx;obtain⟨U,E,ak⟩:=hN x hm;obtain⟨p,H,hM,_,ah⟩:=I.memB hm;obtain⟨a0,a1,a2,a3⟩:=X9 hM;rw[hx]at R;dsimp only[atP]at R|-;rcases Bool.eq_false_or_eq_true x.aL with d|d;·rw[if_pos d];rw[d]at a3;have c:=O (I.same (Zg Qb w));clear h I hx hN K hM hm U E ak ah d;apply WH func175;go_wp2_with fail;apply Zy R;rintro w1 rfl;go_wp2;refine WA rfl rfl ⟨rfl,c.o.1.is,c.o.2⟩
  .rw[if_neg (by rw[d];decide)];rw[d]at a3;have HS:=O (Qji I (λy hy=>(hN y hy).2.2) K hm);have aj:f.start x<=Qq:=by unfold Jc.start;have h1:f.most<=Qq:=Qaq _ λz hz=>(hN z (List.mem_filter.1 hz).1).2.2;have h2:f.least<=Qq:=Cg _;split<;>omega
   generalize f.start x=v at HS aj|-;have am:Qq=9223372036854775808:=rfl;have hC:=Yz;have Z:=O ((Yu.obj m ad).bd I);have S1:Hi (∀w1,Qc Qb w w1->Yu m ad w1 (Qn F w w1) b f/\Qc F w w1):=O (λw1 c1=>I.same c1);have M2:=O (Jc.mem_set (a:={x with v:=v}) hm rfl);have an:({x with v:=v}:Jh)∈(f.made x v).all:=M2.o;have al:=O (λ(w)(F:Fp)(p:Nat)(h:Yv w F p x.run)=>Rv h E v x.total (by omega) (by omega));have HM:=O hm;have FE:=O (f.made_wake x v (x.run.start v x.total));clear h I hx hN K hM hm U E ak ah d aj am hC;apply WH func175;go_wp2_with fail;apply Zy R;rintro w1 rfl;go_wp2_with fail;apply Zy HS;intro w1 c1;obtain⟨h1,ae⟩:=S1.o _ c1;have B1:=O ((Yu.obj m ad).bd h1);have C1:=O ae;clear c1 ae a0 a1 a2 a3;go_wp2_with fail;apply Zz (Qb4 h1 HM.o v);rintro w2⟨h2,c2⟩;have C2:=O (C1.o.ext c2);have ab:Yu m ad w2 (Qn F w w2) b (f.made x v):=((Yu.obj m ad).two h2 Z.o C1.o c2).1;obtain⟨q,G,ag,B,V⟩:=ab.memR an;have a0:=X9 ag.drew;have HR:=O (al.o _ _ _ ((runP.aB B (Zg Qb w2).drew (Jl.none G))));have HP:=O V;have BG:=O (runP.bd B);have B2:=O ((Yu.obj m ad).bd ab);clear h1 h2 c2 ab ag B V;go_wp2_with fail;apply XB 2000000000000;apply YA 0;clear a0;go_wp2_with fail;apply Zy HR;rintro w3⟨ai,c3⟩;have aa:=c3.aT;obtain⟨h3,af⟩:=HP.o w3 _ (runP.more ai (λk hk=>hk.elim .inl (λhk=>.inr hk)) (BG.o.ext aa)) aa;have J:=((Yu.obj m ad).two h3 Z.o C2.o af);have ac:({{x with v:=v}with run:=x.run.start v x.total}:Jh)∈((f.made x v).set {{x with v:=v}with run:=x.run.start v x.total}).all:=Jc.mem_set (x:={x with v:=v}) M2.o rfl;obtain⟨q3,H3,u,_,_⟩:=J.1.memB ac;have a0:=X9 u;have z3:=u.frozen 3;have c:Hi (∀w4,w4=w3.setCell ⟨ad x.id,3,none⟩ (.bool true)->J0 w4 (Qn F w w4) b (f.made {x with run:=x.run.start v x.total,aL:=true} v)/\Qc F w w4):=O (by
    rintro w4 rfl;obtain⟨k1,k2⟩:=J.1.memC' (x':={{{x with v:=v}with run:=x.run.start v x.total}with aL:=true}) ac rfl rfl u ((Zg (λk=>k=ad x.id) w3).setCell (a:=⟨ad x.id,3,none⟩) (.bool true) (.inl rfl)) (u.set' 3 _ rfl);obtain⟨l1,l2⟩:=(Yu.obj m ad).two k1 Z.o J.2 k2;rw[FE.o]at l1;exact⟨l1.is,l2⟩)
   clear ai c3 aa h3 af J ac u;go_wp2_with fail;refine Jo ?_;go_wp2_with fail;refine WB rfl rfl ⟨rfl,c.o _ rfl⟩
section
attribute [local go_sem] Wk
structure Qqu(w:World)(F:Fp)(b m:Nat)(ad:Int->Nat)(f:Jc)(l:List Jh)(b' m' r:Nat)(wr:World)(lm dn:List Jh):Prop where
 it:Kj wr m r (Xy Jh.id ad l) (Xy Jh.id ad lm)
 sub:lm.Sublist l
 perm:(dn++lm).Perm l
 chg:Qc Qb w wr
 blk:Qh wr b' #[.map (some m'),ZU f.mark] 245
 co:∃ad' G,Yn Jh.id Vj wr G m' ad' dn/\∀k,G k->w.heap.size<=k/\k≠r/\k≠b'
 nb:w.heap.size<=b'/\w.heap.size<=r/\b'≠r
theorem Qmt{w}{F:Fp}{b:Nat}{f:Jc}(h:J0 w F b f)(hN:∀x∈f.all,x.run.l.length<1099511627776):
  Cl 127 #[ptr b] w λe w'=>∃b',e=.returned (ptr b')/\J0 w' (Qn Qb w w') b' f/\Qc Qb w w':=by
 obtain⟨m,ad,hA⟩:=h.addr;have HA:=O hA;obtain⟨l,hp,hB,G,hC⟩:=hA.coll;have HP:=O hp;have ak:=O hC.nodup;have a0:=Q4 hB;obtain⟨s,hs⟩:=Zx (w.heap.size);obtain⟨W,hW⟩:=Zx ((w.alloc (.map #[] 0)).alloc (.cells #[.map (some w.heap.size),ZU f.mark] 245));have bk:=@run_makeMap prog;have C0:Qc Qb w W:=by rw[hW];exact((Zg _ _).alloc _).alloc _
 have hm:Xq W s []:=by rw[hW,hs];exact(Xq.new w).aB ((Zg Qb _).alloc _) (λh=>h)
 have au:Qh W (s+1) #[.map (some s),ZU f.mark] 245:=by rw[hW,hs];exact Qh.new' _ _ (by simp)
 have Z:W.heap.size=s+1+1:=by rw[hW,hs];simp
 obtain⟨o,az,ag⟩:=Er (P:=prog) (hC.map.aB C0 (λh=>h)) underlying243;have B:Hi (∃lm E,Qqu w F b m ad f l (s+1) s (s+1+1) (W.alloc o) lm E):=O (by
  have cc:Qc Qb W (W.alloc o):=(Zg _ _).alloc _;rw[Z]at ag;refine⟨l,[],ag,List.Sublist.refl _,by simp,C0.aA cc,cc.blk au (λh=>h),⟨λ_=>0,λk=>k=s,Yn.new (hm.aB cc (λh=>h)) (λk e=>by rw[e];exact(hm.aB cc (λh=>h)).lt) rfl,?_⟩,?_⟩;·intro k e;omega
  .omega)
 have q1:=Q4 (((Zg Qb w).alloc (.map #[] 0)).blk hB (λh=>h));have f0:=q1;have e0:=(Q4 (C0.blk hB (λh=>h))).1;rw[Z]at az;rw[hW]at e0 B az;subst hs;have a7:=O hN;clear h hA hB hC hp hm au C0 ag hN Z hW;apply WH func127;go_wp2_with fail;go_loopw [4,5,6] (λ_ _ _ wr=>∃lm E,Qqu w F b m ad f l (w.heap.size+1) w.heap.size (w.heap.size+1+1) wr lm E) (λ_ _ _ wr=>Dq wr (w.heap.size+1+1));case atStart=>exact B.o
 case round=>
  obtain⟨lm,E,c⟩:=hrel;have U:=ak.o.sublist (c.sub.map _);have e1:=Q4 c.blk;rcases Rx (P:=prog) c.it 0 with⟨h0,hr⟩|⟨p,hp,w2,hr,R,K,af⟩
  .have ba:lm=[]:=by
    cases lm with
    |nil=>rfl
    |cons a l=>cases h0
   subst ba;have a4:Hi (J0 wr (Qn Qb w wr) (w.heap.size+1) f/\Qc Qb w wr):=O (by
    obtain⟨al,G',I,z⟩:=c.co;have bd:E.Perm l:=by simpa using c.perm
    refine⟨⟨w.heap.size,al,E,bd.trans HP.o,?_⟩,c.chg⟩;refine Q7 (G:=λk=>k=w.heap.size+1) (H:=G') ⟨c.blk,rfl,λk e=>e▸c.blk.lt⟩ (Y6 I I.bd) ?_ ?_ ?_ (λk d=>d.elim (λh=>h.elim) (λh=>h.2));·rintro k rfl d;exact(z _ d).2.2 rfl
    .rintro k rfl;exact .inr ⟨by omega,c.blk.lt⟩
    .intro k d;exact .inr ⟨(z k d).1,I.bd k d⟩)
   clear c U;go_wp2_with fail;go_ret;exact⟨_,rfl,a4.o⟩
  .obtain⟨x,hx,rfl⟩:=Z3.1 hp;have be:=c.sub.subset hx;have a2:=HP.o.mem_iff.1 be;have c2:Qc Qb w w2:=c.chg.trans K (λk e=>.inr (by rw[e];omega));obtain⟨p,H,hM,hR,_⟩:=((Yu.obj m ad).aB HA.o c2 (Jl.none F)).memB a2;obtain⟨W3,J⟩:=Zx (w2.alloc (.cells (Pp x p) 255));have c3:Qc Qb w2 W3:=by rw[J];exact(Zg _ _).alloc _
   have aq:Qh W3 (ad x.id) (Pp x p) 255:=c3.blk hM (λh=>h);have aa:Qh W3 w2.heap.size (Pp x p) 255:=by rw[J];exact Qh.new _ _ _
   have HC:=O (Mo (runP.aB hR c3 (Jl.none H)) (a7.o x a2));obtain⟨d0,d1,d2,d3⟩:=X9 hM;obtain⟨_,_,g2,_⟩:=X9 aq;have ae:Qh w2 (w.heap.size+1) #[.map (some w.heap.size),ZU f.mark] 245:=K.blk c.blk (by omega);have aj:=O ae;have a5:=O aa;have ai:Hi (∀w4 q,Yv w4 (Qn Qb W3 w4) q x.run->Qc Qb W3 w4->∃w6,(Instr.mapUpdate 243 (.map (some w.heap.size)) (ZI x.id) (ZP w2.heap.size)).run prog (w4.setCell ⟨w2.heap.size,2,none⟩ (ptr q))=.ok () w6/\
     Qqu w F b m ad f l (w.heap.size+1) w.heap.size (w.heap.size+1+1) w6 (Kp Jh.id x.id lm) (E++[x])/\Dq w6 (w.heap.size+1+1)<Dq wr (w.heap.size+1+1)):=O (by
    intro w4 q V c4;obtain⟨al,G',I,z⟩:=c.co;have s1:=c.chg.size;have s2:=K.size;have s3:=c3.size;have s4:=c4.size;have bh:w2.heap.size<W3.heap.size:=aa.lt;have bg:=(show w.heap.size+1+1<w2.heap.size from by
     obtain⟨o2,h2,_⟩:=R.walk;exact(Z2.1 h2).1)
    have an:Qc (λk=>k=w2.heap.size) w4 (w4.setCell ⟨w2.heap.size,2,none⟩ (ptr q)):=(Zg _ _).setCell _ (.inl rfl);have a8:=c4.blk aa (λh=>h);have ar:Qh (w4.setCell ⟨w2.heap.size,2,none⟩ (ptr q)) w2.heap.size (Pp x q) 255:=a8.set' 2 _ rfl;have a9:Yv (w4.setCell ⟨w2.heap.size,2,none⟩ (ptr q)) (Qn Qb W3 w4) q x.run:=runP.aB V an (λk d e=>by rcases(Qr k).1 d with⟨h1,_⟩;omega);have am:Qc Qb w2 (w4.setCell ⟨w2.heap.size,2,none⟩ (ptr q)):=(c3.aA c4).trans an (λk e=>.inr (by rw[e];exact Zv _));have bi:=ar.lt;have hX:Vj (w4.setCell ⟨w2.heap.size,2,none⟩ (ptr q)) (Qn Qb w2 (w4.setCell ⟨w2.heap.size,2,none⟩ (ptr q))) w2.heap.size x:=
     O1.new (p:=q) (G:=Qn Qb W3 w4) a9 (λk d=>by rcases(Qr k).1 d with⟨h1,_⟩;omega) runP ar (Zv _) (λd=>by rcases(Qr _).1 d with⟨h1,_⟩;omega)
    have ao:=I.aB Vj.obj K (λk d e=>(z k d).2.1 e);have ap:=ao.aB Vj.obj am (Jl.none G');obtain⟨w6,ah,bb,c6⟩:=X6 (P:=prog) ap.map underlying243 underlying3 x.id (ZP w2.heap.size);have bc:Hn Jh.id x.id E=none:=by
     cases ha:Hn Jh.id x.id E with
     |none=>rfl
     |some y=> obtain⟨hy,bf⟩:=Y3 ha;have aw:((E++lm).map Jh.id).Nodup:=((c.perm.map _).nodup_iff).2 ak.o;rw[List.map_append,List.nodup_append]at aw;exact(aw.2.2 _ (Z3.2 ⟨y,hy,rfl⟩) _ (Z3.2 ⟨x,hx,rfl⟩) bf).elim
    have a6:=ap.put Vj.obj hX (λk a b'=>by
     rcases(Qr k).1 a with⟨h1,_⟩;have:=ao.bd k b';omega) bc bb c6
    have bj:∀k,G' k->w.heap.size<=k/\k≠w.heap.size+1+1/\k≠w.heap.size+1:=z;have ac:Qc (λk=>k=w.heap.size) w2 w6:=(am.none).aA c6;have ab:Kj w6 m (w.heap.size+1+1) (Xy Jh.id ad l) (Vu x.id (Xy Jh.id ad lm)):=R.aB ac (by have:=HA.o.coll;obtain⟨_,_,_,_,hq⟩:=this;have:=hq.map.lt;omega) (by omega);have ay:=O8 (key:=Jh.id) U hx;refine⟨w6,ah,⟨?_,List.filter_sublist.trans c.sub,?_,?_,ac.blk ae (by omega),⟨_,_,a6,?_⟩,c.nb⟩,?_⟩;·rw[<-Hr];exact ab
    .refine List.Perm.trans ?_ c.perm;rw[List.append_assoc];exact List.Perm.append_left E ay.symm
    .exact c2.trans ac (λk e=>.inr (by rw[e];exact Zv _))
    .intro k d;rcases d with d|d;·exact z k d
     .rcases(Qr k).1 d with⟨h1,_⟩;omega
    .rw[ab.left_eq,c.it.left_eq,Hr];have:=ay.length_eq;simp only[Xy,List.length_map,Zm]at*;omega)
   dsimp only at hr af;have u:=J;unfold Pp at u;unfold ptr at hr af HC d2 g2 u;rw[u]at HC g2;clear c U R K c2 c3 hM aq hR aa ae hp;go_wp2_with fail;apply Zo HC;rintro e w4⟨q,rfl,V,c4⟩;rw[<-u]at V c4;obtain⟨w6,ah,av,Xg⟩:=ai.o w4 q V c4;have a3:=O av;have LT:=O Xg;have q4:=c4.blk a5.o (λh=>h);have k0:=X9 q4;have z2:=q4.frozen 2;have q5:=c4.blk ((show Qc Qb w2 W3 from by rw[J];exact(Zg _ _).alloc _).blk aj.o (λh=>h)) (λh=>h);have ax:w2.heap.size≠w.heap.size+1:=by have:=aj.o.lt;omega
   obtain⟨y0,y1⟩:=Q4 (q5.other (a:=⟨w2.heap.size,2,none⟩) (ptr q) ax);unfold ptr at ah y0 y1;clear V c4 av Xg q4 q5 hr af d0 d1 d2 d3 g2 J u;go_wp2_with fail;exact⟨⟨_,_,a3.o⟩,LT.o⟩
end
section
attribute [local irreducible] Kl
structure Ps(N:Nat)(c:Qx):Prop where
 total:c.total<=Xw
 lim:∀r,c.limit=some r->r.l.length<=N
 mem:∀x∈c.mem.all,x.total<=Xw/\x.run.l.length<=N/\x.v<=Qq
 mark:c.mem.mark<=Qq
 tree:c.tree.length<=N
 aM:c.aM<=65536
structure Qs(dep:Int->Nat)(N:Nat)(p:Qe):Prop where
 nd:(p.map Qx.id).Nodup
 root:∃r,p.at 0=some r/\r.leaf=false
 up:dep 0=0/\∀c∈p,c.id≠0->0<c.id/\(∃q,p.at c.par=some q)/\dep c.id=dep c.par+1/\dep c.id<=8
 tr:∀q∈p,∀e∈q.tree,∃c,p.at e.2.1=some c/\c.par=q.id/\0<e.2.1
 ok:∀c∈p,Ps N c
theorem Ps.more{N M:Nat}{c:Qx}(h:Ps N c)(d:N<=M):Ps M c:=⟨h.total,λr q=>Zp (h.lim r q) d,λx k=>⟨(h.mem x k).1,Zp (h.mem x k).2.1 d,(h.mem x k).2.2⟩,h.mark,Zp h.tree d,h.aM⟩
theorem Qs.par{dep:Int->Nat}{N:Nat}{p:Qe}(h:Qs dep N p){i:Int}{c:Qx}(d:p.at i=some c)(z:0<i):∃q,p.at c.par=some q:=by obtain⟨u,rfl⟩:=Qe.aE d;obtain⟨_,k⟩:=h.up;exact(k c u (by omega)).2.1
theorem Qs.pos{dep:Int->Nat}{N:Nat}{p:Qe}(h:Qs dep N p){i:Int}{c:Qx}(k:p.at i=some c):0<=i:=by
 obtain⟨u,rfl⟩:=Qe.aE k;obtain⟨_,q⟩:=h.up;by_cases d:c.id=0;·omega
 .have:=(q c u d).1;omega
section
variable{A:Dz}{w:World}{F:Fp}{b:Nat}{p:Qe}{N:Nat}{dep:Int->Nat}
theorem Qo.fam(h:Qo A w F b p){i:Int}{c:Qx}(k:p.at i=some c):∃G,J0 w G (A.pf i) c.mem:=by obtain⟨q,rfl⟩:=Qe.aE k;obtain⟨G,d,_⟩:=h.famOf q;exact⟨G,d⟩
theorem Qo.cell(h:Qo A w F b p){i:Int}{c:Qx}(d:p.at i=some c):Qh w (A.ad i) (Pn c (A.vl i) (A.pf i) (A.pt i)) 147:=by obtain⟨k,rfl⟩:=Qe.aE d;exact h.cells k
theorem Xz{i:Int}{c:Qx}(d:p.at i=some c):pkV A p i=ptr (A.ad i):=by unfold pkV;rw[d]
theorem Ep{i:Int}(c:p.at i=none):pkV A p i=.pointer none:=by unfold pkV;rw[c]
theorem Qo.drew(h:Qo A w F b p):Qo A w.drew F b p:=(Qo.obj A).aB h (Zg Qb w).drew (Jl.none F)
theorem Hw(h:Qo A w F b p)(i:Int):ZW 79 #[ptr b,ZI i] w (pkV A p i) λw'=>w=w':=by have c:=h.look1 i;have d:=Jf h.blk;generalize pkV A p i=v at c|-;unfold ptr;clear h;apply WH func79;exact WE
theorem Qe.awake_eq{i:Int}{c q:Qx}(d:p.at i=some c)(u:p.at c.par=some q)(k:0<i):p.aL i=q.mem.up i:=by unfold Qe.aL;simp_all
theorem Qe.awake_none{i:Int}(c:p.at i=none):p.aL i=false:=by unfold Qe.aL;rw[c]
theorem Qe.awake_neg{i:Int}(c:¬0<i):p.aL i=false:=by grind [Qe.aL,Jy.at,Tr.at,Xh.at]
theorem Qe.v_eq{i:Int}{c q:Qx}(d:p.at i=some c)(u:p.at c.par=some q)(k:0<i):p.v i=q.mem.v i:=by unfold Qe.v at*;simp_all;omega
theorem Qe.v_none{i:Int}(c:p.at i=none):p.v i=0:=by unfold Qe.v;rw[c]
theorem Qe.v_neg{i:Int}(c:¬0<i):p.v i=0:=by grind [Jc.v,Qe.v,Jy.at,Tr.at,Xh.at]
theorem Hx(h:Qo A w F b p)(d:Qs dep N p)(i:Int):ZW 158 #[ptr b,ZI i] w (.bool (p.aL i)) λw'=>Qc Qb w w':=by
 have u:=O (Hw h i);have E:=O (Zg Qb w).drew;by_cases z:0<i
 .have d1:decide (0<i)=true:=by simpa using z
  cases k:p.at i with
  |none=>
   rw[Qe.awake_none k];rw[Ep k]at u;clear h k d;apply WH func158;go_wp2_with fail;apply Zy u;rintro w1 rfl;go_wp2_with fail;apply XB 20200000000000000000000;iterate 7 (refine Jq (h:=?_))
   iterate 14 (first|(refine Qs8 (by kernel_rfl) ?_)|(refine Qmz (by kernel_rfl) ?_)|(refine Qs7 (by kernel_rfl) ?_);try simp only[Act.put,Za,Zc,Zb])
   apply YI 0;exact WD E
  |some c=>
   obtain⟨q,B⟩:=d.par k z;obtain⟨G,J⟩:=h.drew.fam B;have I:=O (Qjg J i);rw[Qe.awake_eq k B z];rw[Xz k]at u;have K:=h.drew.look1 c.par;rw[Xz B]at K;have R:=Jf h.drew.blk;have U:=Ja (h.drew.cell k);have q0:=Ja (h.drew.cell B);generalize q.mem.up i=r at I|-;clear h k d B J;apply WH func158;go_wp2_with fail;apply Zy u;rintro w1 rfl;go_wp2_with fail;apply XB 20200000000000000000000;apply YA 0;clear K R U q0;go_wp2_with fail;apply Zy I;rintro w2 rfl;go_wp2_with fail;apply YI 0;exact WD E
 .have d1:decide (0<i)=false:=by simpa using z
  rw[Qe.awake_neg z];generalize pkV A p i=v at u;clear h d;apply WH func158;go_wp2_with fail;apply Zy u;rintro w1 rfl;go_wp2_with fail;apply XB 20200000000000000000000;iterate 3 (refine Jq (h:=?_))
  iterate 2 (first|(refine Qs8 (by kernel_rfl) ?_)|(refine Qmz (by kernel_rfl) ?_)|(refine Qs7 (by kernel_rfl) ?_);try simp only[Act.put,Za,Zc,Zb])
  iterate 2 (refine Jq (h:=?_))
  iterate 14 (first|(refine Qs8 (by kernel_rfl) ?_)|(refine Qmz (by kernel_rfl) ?_)|(refine Qs7 (by kernel_rfl) ?_);try simp only[Act.put,Za,Zc,Zb])
  apply YI 0;exact WD E
theorem Qnl(h:Qo A w F b p)(d:Qs dep N p)(i:Int):ZW 217 #[ptr b,ZI i] w (ZU ((p.v i:Nat):Int)) λw'=>Qc Qb w w':=by
 have u:=O (Hw h i);have K:=O (Zg Qb w).drew;by_cases B:0<i
 .have d1:decide (i<1)=false:=by simp;omega
  have d2:¬i<1:=by omega
  cases k:p.at i with
  |none=> rw[Qe.v_none k];rw[Ep k]at u;clear h k d;apply WH func217;go_wp2_with fail;apply Zy u;rintro w1 rfl;go_wp2;go_ret;exact⟨rfl,Zg _ _⟩
  |some c=>
   obtain⟨q,z⟩:=d.par k B;obtain⟨G,I⟩:=h.drew.fam z;have E:=O (Quf I i);rw[Qe.v_eq k z B];rw[Xz k]at u;have J:=h.drew.look1 c.par;rw[Xz z]at J;have R:=Jf h.drew.blk;have U:=Ja (h.drew.cell k);have q0:=Ja (h.drew.cell z);generalize q.mem.v i=r at E|-;clear h k d z I;apply WH func217;go_wp2_with fail;apply Zy u;rintro w1 rfl;go_wp2_with fail;apply XB 220000000000000;apply YA 0;clear J R U q0;go_wp2_with fail;apply Zy E;rintro w2 rfl;go_wp2_with fail;apply YI 0;exact WD K
 .have d1:decide (i<1)=true:=by simp;omega
  have d2:i<1:=by omega
  rw[Qe.v_neg B];generalize pkV A p i=v at u;clear h d;apply WH func217;go_wp2_with fail;apply Zy u;rintro w1 rfl;go_wp2;go_ret;exact⟨rfl,Zg _ _⟩
end
section
variable{A:Dz}{w:World}{F:Fp}{b:Nat}{p:Qe}{N:Nat}{dep:Int->Nat}
theorem Qo2(x:Nat)(w):ZW 245 #[.pointer none,ZU x] w (ZU 0) λw'=>Qc Qb w w':=by have k:=O (F8 w);apply WH func245;go_wp2_with fail;apply ZQ k;intro w1 d;exact WD d
theorem Qky{v:Value}{l:Kg}{G:Fp}(h:Do v l w G)(c:∀r,l=some r->r.l.length<549755813888)(x:Nat)(d:x<18446744073709551616):
  ZW 245 #[v,ZU x] w (ZU ((l.fit x:Nat):Int)) λw'=>Qc Qb w w':=by
 rcases h with⟨rfl,rfl,_⟩|⟨b,rfl,h⟩;·exact Qo2 x w
 .exact Qo1 h c x d
theorem Qo.lim(h:Qo A w F b p){i:Int}{c:Qx}(k:p.at i=some c):∃G,Do (A.vl i) c.limit w G:=by obtain⟨q,rfl⟩:=Qe.aE k;obtain⟨G,d,_⟩:=h.limOf q;exact⟨G,d⟩
theorem Qo.tre(h:Qo A w F b p){i:Int}{c:Qx}(k:p.at i=some c):∃G,Jg w G (A.pt i) c.tree:=by obtain⟨q,rfl⟩:=Qe.aE k;obtain⟨G,d,_⟩:=h.treeOf q;exact⟨G,d⟩
theorem Qcx(h:Qo A w F b p){i:Int}{c:Qx}(B:p.at i=some c)(u:Ps N c)(hN:N<549755813888):
  ZW 218 #[ptr (A.ad i)] w (ZU ((c.fit:Nat):Int)) λw'=>Qc Qb w w':=by
 obtain⟨G1,hl⟩:=h.drew.lim B;have U:=O (Qky hl (λr hr=>Nat.lt_of_le_of_lt (u.lim r hr) hN) c.total (by have:=u.total;have:=Yz;omega));obtain⟨G2,ht⟩:=h.tre B;have J:=O (λw'(B:Qc Qb w w')=>My (Jg.obj.aB ht B (Jl.none G2)));have HB:=O (h.cell B);have d0:=Ja (h.drew.cell B);unfold Qx.fit;dsimp only;generalize c.limit.fit c.total=own at U|-;cases q:c.leaf with
 |true=>
  have R:=O q;simp only[if_true];clear h B u hl ht q;apply WH func218;go_wp2_with fail;apply XB 2200000000;apply YA 0;clear d0;go_wp2_with fail;apply Zy U;intro w1 I;have z:=O I.aT;obtain⟨V,d,Z,K,c4,c5,c6,c7⟩:=Ja (z.o.blk HB.o (λh=>h));rw[R.o]at d;clear I;go_wp2_with fail;apply YI 0;exact WD z
 |false=>
  have R:=O q;simp only[Bool.false_eq_true,if_false];cases E:low c.tree with
  |none=>
   rw[E]at J;dsimp only[Option.getD_none,Option.isSome_none]at J|-;rw[show((Qq:Nat):Int)=9223372036854775808 from rfl];clear h B u hl ht q E;apply WH func218;go_wp2_with fail;apply XB 2200000000;apply YA 0;clear d0;go_wp2_with fail;apply Zy U;intro w1 I;have z:=O I.aT;obtain⟨V,d,Z,K,c4,c5,c6,c7⟩:=Ja (z.o.blk HB.o (λh=>h));rw[R.o]at d;clear I;go_wp2_with fail;apply YI 0;go_wp2_with fail;apply Z9 (J.o _ z.o) (λ_ k=>z.o.aA k);intro w2 C2;clear V d Z K c4 c5 c6 c7;exact WD C2
  |some s=>
   rw[E]at J;dsimp only[Option.getD_some,Option.isSome_some]at J|-;obtain⟨s1,s2⟩:=s;dsimp only at J|-;have HI:=O (λ(w:World)(g:Nat)(h:w.cell? ⟨g,0,none⟩=some (ZU s1))=>Qjf (c:=1) (own:=own) h);clear h B u hl ht q E;apply WH func218;go_wp2_with fail;apply XB 2200000000;apply YA 0;clear d0;go_wp2_with fail;apply Zy U;intro w1 I;have z:=O I.aT;obtain⟨V,d,Z,K,c4,c5,c6,c7⟩:=Ja (z.o.blk HB.o (λh=>h));rw[R.o]at d;clear I;go_wp2_with fail;apply YI 0;go_wp2_with fail;apply Z9 (J.o _ z.o) (λ_ k=>z.o.aA k);intro w2 C2;clear V d Z K c4 c5 c6 c7;go_wp2_with fail;apply Z9 (HI.o _ _ (Jf (Qh.new _ _ _))) (λ_ K=>(C2.o.alloc _).aA K);intro w3 C3;exact WD C3
theorem Qln(h:Qo A w F b p)(d:Qs dep N p):
  ZW 43 #[ptr b] w (ZU ((p.tick:Nat):Int)) λw'=>Qc Qb w w':=by
 have B:=O (Hw h 0);obtain⟨r,q,_⟩:=d.root;rw[Xz q]at B;obtain⟨G,E⟩:=h.tre q;have k:=O (My E);have I:=Ja (h.cell q);unfold Qe.tick;rw[q];dsimp only;cases c:low r.tree with
 |none=> rw[c]at k;dsimp only[Option.getD_none,Option.isSome_none]at k|-;rw[show((Qq:Nat):Int)=9223372036854775808 from rfl];clear h d q E c;apply WH func43;go_wp2_with fail;apply Zy B;rintro w1 rfl;go_wp2_with fail;apply ZQ k;intro w1 z;clear I;exact WD z
 |some s=> rw[c]at k;have s1:=s;dsimp only[Option.getD_some,Option.isSome_some]at k|-;clear h d q E c;apply WH func43;go_wp2_with fail;apply Zy B;rintro w1 rfl;go_wp2_with fail;apply ZQ k;intro w1 z;clear I;exact WD z
end
end
section
attribute [local irreducible] Kl J9
section
variable{A:Dz}{w:World}{F:Fp}{b:Nat}{p:Qe}{N:Nat}{dep:Int->Nat}
theorem Qcf{v:Nat}{l:List Xu}{e:Xu}(h:Xf v l=some e):e∈l:=List.mem_of_find?_eq_some h
theorem Qpf(p:Qe)(now n:Nat)(i:Int){c:Qx}(d:p.at i=some c):p.next now (n+1) i=if c.leaf then some i else match Xf now c.tree with
  |none=>none
  |some e=>p.next now n e.2.1:=by
 rw[Qe.next,d];rfl
theorem Qll(h:Qo A w F b p)(z:Qs dep N p)(now:Nat):
  ZW 55 #[ptr b,ZU now] w (.tuple #[ZI ((p.next now 10 0).getD 0),.bool (p.next now 10 0).isSome]) λw'=>Qc Qb w w':=by
 have HA:=O (Hw h 0);obtain⟨r,hr,_⟩:=z.root;obtain⟨Eu,hd⟩:=z.up;rw[Xz hr]at HA;have HO:=O z;have HH:=O h;have k:Hi (∃(id:Int)(c:Qx)(n:Nat),(0:Int)=id/\A.ad 0=A.ad id/\p.at id=some c/\n+dep id=9/\p.next now (n+1) id=p.next now 10 0/\Qc Qb w w):=O ⟨0,r,9,rfl,rfl,hr,by omega,rfl,Zg _ _⟩;generalize ae:p.next now 10 0=af at k|-;have HD:=O hd;clear h z hr ae hd;apply WH func55;go_wp2_with fail;apply Zy HA;rintro w1 rfl;go_wp2_with fail;go_loopw [6,7] (λi v wr=>∃(id:Int)(c:Qx)(n:Nat),i=ZI id/\v=ZP (A.ad id)/\p.at id=some c/\n+dep id=9/\p.next now (n+1) id=af/\Qc Qb w wr) (λi _ wr=>9-dep (intOf i));case atStart=> obtain⟨id,c,n,h1,h2,h3,h4,h5,h6⟩:=k.o;exact⟨id,c,n,by rw[<-h1],by rw[<-h2],h3,h4,h5,h6⟩
 case round=>
  obtain⟨id,c,n,rfl,rfl,K,hn,d,R⟩:=hrel;have J:=(Qo.obj A).aB HH.o R (Jl.none F);obtain⟨c0,c1,c2,c3,c4,c5,c6,c7⟩:=Ja (J.cell K);rw[Qpf p now n id K]at d;cases ab:c.leaf with
  |true=> rw[ab]at d c1;simp only[if_true]at d;subst d;have V:=O R;clear J R K;go_wp2;go_ret2;refine ⟨rfl,V.o⟩
  |false=>
   rw[ab]at d c1;simp only[Bool.false_eq_true,if_false]at d;obtain⟨G,ht⟩:=J.tre K;have U:=O (Qen ht now);cases q:Xf now c.tree with
   |none=> rw[q]at U d;dsimp only[Option.map_none,Option.getD_none,Option.isSome_none]at U d;subst d;have V:=O R;clear J R K ht q;go_wp2_with fail;apply ZF U (λ_ B=>V.o.aA B);intro w2 C2;clear c0 c1 c2 c3 c4 c5 c6 c7;go_wp2;go_ret2;refine ⟨rfl,C2.o⟩
   |some x=>
    rw[q]at U d;dsimp only[Zn,Option.getD_some,Option.isSome_some]at U d;obtain⟨Z,rfl⟩:=Qe.aE K;obtain⟨c',u,ac,ai⟩:=HO.o.tr c Z x (Qcf q);obtain⟨E,aa⟩:=Qe.aE u;have I:=HD.o c' E (by omega);rw[aa,ac]at I;have ag:Hi (∃(id:Int)(c:Qx)(n:Nat),Value.int .i64 x.2.1=ZI id/\(Value.pointer (some ⟨A.ad x.2.1,0,none⟩))=ZP (A.ad id)/\p.at id=some c/\n+dep id=9/\p.next now (n+1) id=af):=O ⟨x.2.1,c',n-1,rfl,rfl,u,by omega,by rw[show n-1+1=n by omega];exact d⟩;have LT:Hi (9-dep x.2.1<9-dep c.id):=O (by omega);have V:=O R;have hL:=λw'(B:Qc Qb wr w')=>((Qo.obj A).aB J B (Jl.none F)).look1 x.2.1;rw[Xz u]at hL;have HL:=O hL;have HB:=O J.blk;clear J R K ht q u Z E hL I d hn;go_wp2_with fail;apply Zy U;intro w2 B;have CC:=O B;have C2:=O (V.o.aA B);clear B c0 c1 c2 c3 c4 c5 c6 c7;go_wp2_with fail;apply XC 321111110 Qb w2;refine Xe (h:=?_);iterate 6 (apply YK λ_ hv=>Zt (Jf (hv.blk (CC.o.blk HB.o (λh=>h)) (λh=>h))) (HL.o _ (CC.o.aA hv)))
    refine Yb ?_;go_wp2_with fail;refine⟨(Zg _ _).drew,?_⟩;apply YI 0;go_wp2;obtain⟨ah,c2,n2,r1,r2,r3,r4,r5⟩:=ag.o;exact⟨⟨ah,c2,n2,r1,r2,r3,r4,r5,C2.o.drew⟩,LT.o⟩
end
section
variable{A:Dz}{w:World}{F:Fp}{b:Nat}{p:Qe}{N:Nat}{dep:Int->Nat}
theorem St{i:Int}{c q:Qx}(d:p.at i=some c)(k:p.at c.par=some q):p.note i=p.set {q with tree:=if p.aL i then Vf i (p.v i) c.fit q.tree else Xa i q.tree}:=by unfold Qe.note;rw[d];dsimp only;rw[k]
theorem Ke{G:Fp}{w w1 w2:World}(h:w.heap.size<=w1.heap.size):∀k,Qn G w1 w2 k->Qn G w w2 k:=λk c=>c.elim .inl (λc=>.inr ⟨Zp h c.1,c.2⟩)
theorem Mj(h:Qo A w F b p)(u:Qs dep N p)(hN:N<549755813888){i:Int}{c q:Qx}(hi:0<i)(V:p.at i=some c)(Z:p.at c.par=some q):
  ZW 162 #[ptr b,ZI i] w (.tuple #[]) λw'=>Qo A w' (Qn F w w') b (p.note i)/\Qc F w w':=by
 rw[St V Z];obtain⟨I,ae⟩:=Qe.aE Z;have k:=u.ok q I;have R:=h.look1 i;rw[Xz V]at R;have U:=h.drew.look1 c.par;rw[Xz Z]at U;have a0:=Jf h.blk;have ab:=Jf h.drew.blk;have c0:=Ja (h.drew.cell V);have q6:=Ja (h.drew.cell Z);obtain⟨G,ht,ac,z⟩:=h.treeOf I;rw[ae]at ht;have E:=O (Hx h.drew u i);have HV:=O (λw'(B:Qc Qb w w')=>Qnl ((Qo.obj A).aB h B (Jl.none F)) u i);have HF:=O (λw'(B:Qc Qb w w')=>Qcx ((Qo.obj A).aB h B (Jl.none F)) V (u.ok c (Qe.aE V).1) hN);have K:=O (λw'(B:Qc Qb w w')=>Qct (Jg.obj.aB ht B (Jl.none G)) (Nat.lt_of_le_of_lt k.tree (by omega)) i (p.v i) c.fit);have af:=O (λw'(B:Qc Qb w w')=>Tt (Jg.obj.aB ht B (Jl.none G)) (Nat.lt_of_le_of_lt k.tree (by omega)) i);have aa:Hi (∀w1 w2 t,Qc Qb w w1->Jg w2 (Qn G w1 w2) (A.pt c.par) t->Qc G w1 w2->Qo A w2 (Qn F w w2) b (p.set {q with tree:=t})/\Qc F w w2):=O (λw1 w2 t J h2 c2=>by
  have B:Qc G w w2:=J.none.aA c2;exact z w2 t (by rw[ae];exact Jg.obj.more h2 (Ke J.size) ((Jg.obj.bd ht).ext B)) B)
 rcases Bool.eq_false_or_eq_true (p.aL i)with d|d
 .rw[if_pos d];rw[d]at E;generalize p.v i=v at HV K|-;generalize c.fit=ft at HF K|-;clear h u V Z ht z d ac k I;apply WH func162;go_wp2_with fail;apply XB 2000000000000;apply YI 0;clear R U a0 ab c0 q6;go_wp2_with fail;apply ZF E (λ_ J=>J.aT);intro w1 C1;go_wp2_with fail;apply Z9 (HV.o _ C1.o) (λ_ c2=>C1.o.aA c2);intro w2 C2;go_wp2_with fail;apply Z9 (HF.o _ C2.o) (λ_ c3=>C2.o.aA c3);intro w3 C3;go_wp2_with fail;apply Z9 (K.o _ C3.o) (λ_ ⟨h4,c4⟩=>aa.o _ _ _ C3.o h4 c4);intro w4 FF;exact WD FF
 .rw[if_neg (by rw[d];decide)];rw[d]at E;clear h u V Z ht z d ac k I;apply WH func162;go_wp2_with fail;apply XB 2000000000000;apply YI 0;clear R U a0 ab c0 q6;go_wp2_with fail;apply ZF E (λ_ J=>J.aT);intro w1 C1;go_wp2_with fail;apply Z9 (af.o _ C1.o) (λ_ ⟨h4,c4⟩=>aa.o _ _ _ C1.o h4 c4);intro w4 FF;exact WD FF
end
def Eu:List Int->Int
 |[]=>0
 |i::_=>i
section
variable{A:Dz}{w:World}{F:Fp}{b:Nat}{p:Qe}{N:Nat}
theorem Lo(g:FuncId)(R:Array Value)(eg:∀af w,(callFunc g af).run prog w=.ok (.enter g af) w)(d:Qe->Int->Qe)(J:List Int->Qe->Prop)(mu:Int->Nat)
  (hJ:∀id rest p',J (id::rest) p'->0<id/\mu (Eu rest)<mu id/\J rest (d p' id)/\(∃c,p'.at id=some c)/\∃c',(d p' id).at id=some c'/\c'.par=Eu rest)
  (hS:∀id rest p' w',J (id::rest) p'->Qo A w' (Qn F w w') b p'->Qc F w w'->Cl g (#[ZI id,ptr (A.ad id)]++R) w' λe ak=>e=.returned (.tuple #[])/\Qo A ak (Qn (Qn F w w') w' ak) b (d p' id)/\Qc (Qn F w w') w' ak)
  (h:Qo A w F b p) (l:List Int) (hl:J l p) (i:Int) (hi:i=Eu l):
  ZW 155 #[ptr b,ZI i,.func (.func g) #[] R] w (.tuple #[]) λw'=>Qo A w' (Qn F w w') b (l.foldl d p)/\Qc F w w':=by
 have I:Hi (∃rest p',i=Eu rest/\J rest p'/\rest.foldl d p'=l.foldl d p/\Qo A w (Qn F w w) b p'/\Qc F w w):=O ⟨l,p,hi,hl,rfl,(Qo.obj A).more h (λk hk=>.inl hk) (((Qo.obj A).bd h).ext (Zg F w)),Zg _ _⟩;have HJ:=O hJ;have HS:=O hS;have al:=O ((Qo.obj A).bd h);generalize am:l.foldl d p=an at I|-;clear h hl hJ hS hi am;apply WH func155;go_wp2;refine wp_scope_jumps 0 (λa' wr=>∃rest p' u3 u4 u5 u6 u7 u8 u9 u10 u11 u12 u13 u14 u15 u16 u17 u18 u19 u20 u21 u22,a'={tmps:=#[ZP b,ZI (Eu rest),.func (.func g) #[] R,u3,u4,u5,u6,u7,u8,u9,u10,u11,u12,u13,u14,u15,u16,u17,u18,u19,u20,u21,u22],defers:=[]}/\J rest p'/\rest.foldl d p'=an/\Qo A wr (Qn F w wr) b p'/\Qc F w wr)
  (λa' _=>mu (intOf (a'.tmps.getD 1 undef))) rfl ?_ ?_
 .obtain⟨rest,p',rfl,hj,Z,E,U⟩:=I.o;cases rest with
  |nil=> dsimp only[List.foldl_nil]at Z;rw[show Eu []=0 from rfl];subst Z;have ag:=O (Zt E U);clear hj E U;go_wp2;go_step3;go_wp2;simp only[Exit.jump];refine WB rfl rfl ⟨rfl,ag.o⟩
  |cons id rest=>
   dsimp only[List.foldl_cons]at Z;rw[show Eu (id::rest)=id from rfl];obtain⟨ac,ab,aa,⟨c,V⟩,c',q,u⟩:=HJ.o id rest p' hj;have d1:decide (0<id)=true:=by simpa using ac
   have hL:=E.look1 id;rw[Xz V]at hL;have a0:=Jf E.blk;have HC:=O (HS.o id rest p' w hj E U);have CC:=O U;have ah:=O Z;have ai:=O aa;have ae:=O ab;have z:=O (Zt q u);obtain⟨nx,B⟩:=Zx (Eu rest);rw[<-B]at ae z;have aj:=O B;clear B;clear hj aa E V q U Z u ab;go_wp2;go_step3;go_wp2_with fail;apply Zy HC;rintro w2⟨h2,c2⟩;obtain⟨k1,k2⟩:=(Qo.obj A).two h2 al.o CC.o c2;obtain⟨d0,_,_,_,_,_,_,_⟩:=Ja (k1.cell z.o.1);rw[z.o.2]at d0;have K:=O (Zt k1 k2);clear h2 c2 k1 k2 hL a0;go_wp2;go_step3;exact⟨rfl,⟨rest,_,_,_,_,_,_,_,_,_,_,_,_,_,_,_,_,_,_,_,_,_,by rw[<-aj.o],ai.o,ah.o,K.o.1,K.o.2⟩⟩
 .rintro a' wr⟨rest,p',u3,u4,u5,u6,u7,u8,u9,u10,u11,u12,u13,u14,u15,u16,u17,u18,u19,u20,u21,u22,rfl,hj,Z,E,U⟩;cases rest with
  |nil=> dsimp only[List.foldl_nil]at Z;rw[show Eu []=0 from rfl];subst Z;have ag:=O (Zt E U);clear hj E U;go_wp2;simp only[Exit.jump];refine WB rfl rfl ⟨rfl,ag.o⟩
  |cons id rest=>
   dsimp only[List.foldl_cons]at Z;rw[show Eu (id::rest)=id from rfl];obtain⟨ac,ab,aa,⟨c,V⟩,c',q,u⟩:=HJ.o id rest p' hj;have d1:decide (0<id)=true:=by simpa using ac
   have hL:=E.look1 id;rw[Xz V]at hL;have a0:=Jf E.blk;have HC:=O (HS.o id rest p' wr hj E U);have CC:=O U;have ah:=O Z;have ai:=O aa;have ae:=O ab;have z:=O (Zt q u);obtain⟨nx,B⟩:=Zx (Eu rest);rw[<-B]at ae z;have aj:=O B;clear B;clear hj aa E V q U Z u ab;go_wp2_with fail;apply Zy HC;rintro w2⟨h2,c2⟩;obtain⟨k1,k2⟩:=(Qo.obj A).two h2 al.o CC.o c2;obtain⟨d0,_,_,_,_,_,_,_⟩:=Ja (k1.cell z.o.1);rw[z.o.2]at d0;have K:=O (Zt k1 k2);clear h2 c2 k1 k2 hL a0;go_wp2;go_step3;exact⟨rfl,⟨rest,_,_,_,_,_,_,_,_,_,_,_,_,_,_,_,_,_,_,_,_,_,by rw[<-aj.o],ai.o,ah.o,K.o.1,K.o.2⟩,ae.o⟩
end
end
section
variable{p:Qe}{N M:Nat}{dep:Int->Nat}
theorem Hq{x y:Qx}(h:p.at x.id=some y):(p.set x).at x.id=some x:=by
 unfold Qe.at Qe.set at*;induction p with
 |nil=>cases h
 |cons z p d=>
  rw[List.map_cons,List.find?_cons];rw[List.find?_cons]at h;by_cases c:z.id=x.id;·simp[c]
  .simp only[c,decide_false,if_false]at h|-;exact d h
theorem V5{x:Qx}{i:Int}(h:i≠x.id):(p.set x).at i=p.at i:=by
 unfold Qe.at Qe.set;induction p with
 |nil=>rfl
 |cons z p k=>
  rw[List.map_cons,List.find?_cons,List.find?_cons];by_cases c:z.id=x.id;·rw[if_pos c];have q:¬x.id=i:=λe=>h e.symm;have u:¬z.id=i:=λe=>h (by rw[<-e,c]);simp only[q,u,decide_false];exact k
  .rw[if_neg c];by_cases d:z.id=i;·simp[d]
   .simp only[d,decide_false];exact k
theorem V0{x y:Qx}(h:p.at x.id=some y)(i:Int):(p.set x).at i=if i=x.id then some x else p.at i:=by
 split;·rename_i e;rw[e];exact Hq h
 .rename_i e;exact V5 e
theorem Qns(x:Qx):(p.set x).map Qx.id=p.map Qx.id:=by
 unfold Qe.set;rw[List.map_map];refine List.map_congr_left λy _=>?_;simp only[Function.comp];split;·rename_i h;exact h.symm
 .rfl
theorem mem_set{x y:Qx}(h:y∈p.set x):y=x\/(y∈p/\y.id≠x.id):=by grind [Jc.set,Qe.set,Vm.id]
theorem Qs.set(h:Qs dep N p)(hm:N<=M){x y:Qx}(K:p.at x.id=some y)(hp:x.par=y.par)(hl:x.leaf=y.leaf)(hk:Ps M x)
  (ht:∀e∈x.tree,∃c,p.at e.2.1=some c/\c.par=x.id/\0<e.2.1):Qs dep M (p.set x):=by
 have Z:=(Qe.aE K).2;have look:∀{i c},p.at i=some c->∃c',(p.set x).at i=some c'/\c'.par=c.par/\c'.leaf=c.leaf:=λ{i c}d=>by
  rw[V0 K];by_cases e:i=x.id;·subst e;rw[K]at d;obtain rfl:=Zs d;exact⟨x,by rw[if_pos rfl],hp,hl⟩
  .exact⟨c,by rw[if_neg e];exact d,rfl,rfl⟩
 refine⟨by rw[Qns];exact h.nd,?_,⟨h.up.1,λc d h0=>?_⟩,λq I e he=>?_,λc d=>?_⟩;·obtain⟨r,hr,U⟩:=h.root;obtain⟨r',k,_,B⟩:=look hr;exact⟨r',k,B.trans U⟩
 .obtain⟨J,V,z⟩:∃J,J∈p/\J.id=c.id/\J.par=c.par:=by
   rcases mem_set d with rfl|⟨d,_⟩;·exact⟨y,(Qe.aE K).1,Z,hp.symm⟩
   .exact⟨c,d,rfl,rfl⟩
  have:=h.up.2 J V (by rw[z.1];exact h0);rw[z.1,z.2]at this;obtain⟨k,⟨q,I⟩,E⟩:=this;obtain⟨q',R,_⟩:=look I;exact⟨k,⟨q',R⟩,E⟩
 .rcases mem_set I with rfl|⟨I,_⟩;·obtain⟨c,d,k,B⟩:=ht e he;obtain⟨c',u,E,_⟩:=look d;exact⟨c',u,E.trans k,B⟩
  .obtain⟨c,d,k,B⟩:=h.tr q I e he;obtain⟨c',u,E,_⟩:=look d;exact⟨c',u,E.trans k,B⟩
 .rcases mem_set d with rfl|⟨d,_⟩;·exact hk
  .exact(h.ok c d).more hm
theorem Qs.more(h:Qs dep N p)(k:N<=M):Qs dep M p:=⟨h.nd,h.root,h.up,h.tr,λc d=>(h.ok c d).more k⟩
def Vy(p:Qe):List Int->Prop
 |[]=>True
 |id::rest=>0<id/\(∃c,p.at id=some c/\c.par=Eu rest)/\Vy p rest
def Jv(p p':Qe):Prop:=∀i,(p'.at i).map (λc=>(c.par,c.leaf,c.aJ))=(p.at i).map (λc=>(c.par,c.leaf,c.aJ))
theorem Jv.get{p p':Qe}(h:Jv p p'){i:Int}{c:Qx}(k:p.at i=some c):∃d,p'.at i=some d/\d.par=c.par/\d.leaf=c.leaf/\d.aJ=c.aJ:=by
 have:=h i;rw[k]at this;cases h':p'.at i with
 |none=>rw[h']at this;cases this
 |some d=> rw[h']at this;simp only[Zn,Option.some.injEq,Prod.mk.injEq]at this;exact⟨d,rfl,this⟩
theorem Jv.refl(p:Qe):Jv p p:=λ_=>rfl
theorem Jv.trans{p p' p'':Qe}(h:Jv p p')(h':Jv p' p''):Jv p p'':=λi=>(h' i).trans (h i)
theorem Jv.set{x y:Qx}(c:p.at x.id=some y)(k:x.par=y.par)(d:x.leaf=y.leaf)(q:x.aJ=y.aJ):Jv p (p.set x):=λi=>by
 rw[V0 c];by_cases e:i=x.id;·subst e;rw[if_pos rfl,c];simp[k,d,q]
 .rw[if_neg e]
theorem Vy.same{p p':Qe}(h:Jv p p'):∀{l:List Int},Vy p l->Vy p' l
 |[],_=>trivial
 |id::rest,⟨h1,⟨c,hc,hp⟩,h3⟩=>by obtain⟨c',d,e,_⟩:=h.get hc;exact⟨h1,⟨c',d,e.trans hp⟩,Vy.same h h3⟩
theorem Qs.pid(h:Qs dep N p){i:Int}{c q:Qx}(u:p.at i=some c)(E:0<i)(B:p.at c.par=some q):q.id≠i/\q.id=c.par:=by obtain⟨z,rfl⟩:=Qe.aE u;have d:=(Qe.aE B).2;have k:=(h.up.2 c z (by omega)).2.2.1;refine⟨λe=>?_,d⟩;rw[d]at e;rw[e]at k;omega
def Kw(N:Nat)(f:Jc):Prop:=(∀x∈f.all,x.total<=Xw/\x.run.l.length<=N/\x.v<=Qq)/\f.mark<=Qq
theorem reach_le(r:Xh)(y:Nat):r.reach y<=Qq:=by
 unfold Xh.reach Kn;split
 .split;·exact Nat.zero_le _
  .exact Zv _
 .split;·exact Zv _
  .exact Nat.min_le_left _ _
theorem Kw.more{f:Jc}(h:Kw N f)(d:N<=M):Kw M f:=⟨λx c=>⟨(h.1 x c).1,Zp (h.1 x c).2.1 d,(h.1 x c).2.2⟩,h.2⟩
theorem Qg2{f:Jc}{a x:Jh}(h:x∈(f.set a).all):x=a\/x∈f.all:=by
 obtain⟨z,c,rfl⟩:=Z3.1 h;split;·exact .inl rfl
 .exact .inr c
theorem Kw.set{f:Jc}{a:Jh}(h:Kw N f)(d:N<=M)(ha:a.total<=Xw/\a.run.l.length<=M/\a.v<=Qq):Kw M (f.set a):=⟨λx c=>(Qg2 c).elim (λe=>e▸ha) (λc=>(h.more d).1 x c),h.2⟩
theorem Kw.made{f:Jc}{a:Jh}{v:Nat}(h:Kw N f)(k:N<=M)(ha:a.total<=Xw/\a.run.l.length<=M)(c:v<=Qq):Kw M (f.made a v):=by have d:=h.set (a:={a with v:=v}) k ⟨ha.1,ha.2,c⟩;exact⟨d.1,Nat.max_le.2 ⟨h.2,c⟩⟩
theorem Qsu{f:Jc}(h:Kw N f){x:Jh}(d:x∈f.all):f.start x<=Qq:=by have k:=(h.1 x d).2.2;have c:=h.2;unfold Jc.start;have u:f.most<=Qq:=Qaq _ λz q=>(h.1 z (List.mem_filter.1 q).1).2.2;have B:f.least<=Qq:=Cg _;split<;>omega
theorem Kw.wake{f:Jc}(h:Kw N f)(i:Int):Kw (N+1) (f.wake i):=by grind [Kw,Ju.wake,Kg.wake,Jc.wake,Jy.at,Tr.at,Xh.at,Jc.made,Ps.more,Qs.more,Kw.more,Jc.aE,Kw.made,Gj,Qsu]
theorem Kw.sleep{f:Jc}(h:Kw N f)(i:Int):Kw N (f.sleep i):=by grind [Kw,Jc.sleep,Jy.at,Tr.at,Xh.at,Jc.set,Qe.set,Qs.set,Jc.aE]
theorem Kw.gain{f:Jc}(h:Kw N f)(i:Int)(g:Nat):Kw N (f.gain i g):=by
 unfold Jc.gain;cases k:f.at i with
 |none=>exact h
 |some m=>
  have c:=h.1 m (Jc.aE k).1;have d:m.total+min g (Xw-m.total)<=Xw:=by have:=c.1;omega
  dsimp only;split;·exact h.made (Zv _) ⟨d,c.2.1⟩ (reach_le _ _)
  .exact h.set (Zv _) ⟨d,c.2⟩
theorem Kw.add{f:Jc}(h:Kw N f)(i:Int)(c:Jy):Kw N (f.add i c):=by
 unfold Jc.add;cases d:f.at i with
 |some m=>exact h
 |none=>
  refine⟨λx d=>?_,h.2⟩;rcases Zl.1 d with d|d;·exact h.1 x d
  .obtain rfl:x=_:=by simpa using d
   exact⟨Nat.zero_le _,Nat.zero_le _,Nat.zero_le _⟩
theorem Kw.drop{f:Jc}(h:Kw N f)(i:Int):Kw N (f.drop i):=⟨λx c=>h.1 x (List.mem_filter.1 c).1,h.2⟩
theorem Ps.fam{c:Qx}(h:Ps N c):Kw N c.mem:=⟨h.mem,h.mark⟩
theorem Ps.withMem{c:Qx}(h:Ps N c){f:Jc}(k:N<=M)(d:Kw M f):Ps M {c with mem:=f}:=⟨h.total,(h.more k).lim,d.1,d.2,(h.more k).tree,h.aM⟩
theorem Py{i:Int}{c q:Qx}{f:Jc->Jc}(d:p.at i=some c)(k:p.at c.par=some q):p.fam i f=p.set {q with mem:=f q.mem}:=by unfold Qe.fam;rw[d];dsimp only;rw[k]
theorem Qs.fam(h:Qs dep N p)(I:N<=M){i:Int}{c q:Qx}{f:Jc->Jc}(B:p.at i=some c)(R:0<i)(z:p.at c.par=some q)(K:Kw M (f q.mem)):
  Qs dep M (p.fam i f)/\Jv p (p.fam i f)/\(p.fam i f).at i=some c/\(p.fam i f).at c.par=some {q with mem:=f q.mem}:=by
 rw[Py B z];obtain⟨E,k⟩:=h.pid B R z;have d:p.at ({q with mem:=f q.mem}:Qx).id=some q:=by show p.at q.id=_;rw[k];exact z
 have u:=(Qe.aE z).1;refine⟨h.set I d rfl rfl ((h.ok q u).withMem I K) (λe J=>h.tr q u e J),Jv.set d rfl rfl rfl,?_,?_⟩;·exact(V5 (x:={q with mem:=f q.mem}) (show i≠q.id from λe=>E e.symm)).trans B
 .rw[<-k];exact Hq d
theorem Qo4{l:Kg}{r:Xh}{now t:Nat}(h:l.wake now t=some r)(c:∀r,l=some r->r.l.length<=N):r.l.length<=N+1:=by
 unfold Kg.wake at h;cases l with
 |none=>cases h
 |some d=> obtain rfl:=Zs h;have:=c d rfl;rw[Gj];omega
theorem Qs.up1(h:Qs dep N p)(now:Nat){i:Int}{c q:Qx}(z:p.at i=some c)(V:0<i)(K:p.at c.par=some q):Qs dep (N+1) (p.up1 now i)/\Jv p (p.up1 now i):=by
 unfold Qe.up1;rw[z];dsimp only;split;·exact⟨h.more (Nat.le_succ _),Jv.refl _⟩
 .have J:=(Qe.aE K).1;have I:=(Qe.aE z).2;obtain⟨B,R,E,h4⟩:=h.fam (f:=λf=>f.wake i) (Nat.le_succ N) z V K ((h.ok q J).fam.wake i);have u:(p.fam i λf=>f.wake i).at ({c with limit:=c.limit.wake now c.total}:Qx).id=some c:=by show Qe.at _ c.id=_;rw[I];exact E
  have k:=h.ok c (Qe.aE z).1;have d:=B.ok c (Qe.aE E).1;refine⟨B.set (Zv _) u rfl rfl ⟨k.total,λr Z=>Qo4 Z k.lim,d.mem,d.mark,d.tree,k.aM⟩ (λe U=>B.tr c (Qe.aE E).1 e U),R.trans (Jv.set u rfl rfl rfl)⟩
theorem Qs.note(h:Qs dep N p){i:Int}{c q:Qx}(I:p.at i=some c)(J:0<i)(E:p.at c.par=some q):Qs dep (N+1) (p.note i)/\Jv p (p.note i):=by
 rw[St I E];obtain⟨U,z⟩:=h.pid I J E;have B:=(Qe.aE E).1;have d:=h.ok q B;have key:∀t:List Xu,t.length<=N+1->(∀e∈t,e.2.1=i\/e∈q.tree)->Qs dep (N+1) (p.set {q with tree:=t})/\Jv p (p.set {q with tree:=t}):=λt R V=>by
  have u:p.at ({q with tree:=t}:Qx).id=some q:=by show p.at q.id=_;rw[z];exact E
  refine⟨h.set (Nat.le_succ _) u rfl rfl ⟨d.total,(d.more (Nat.le_succ _)).lim,(d.more (Nat.le_succ _)).mem,d.mark,R,d.aM⟩ (λe k=>?_),Jv.set u rfl rfl rfl⟩;rcases V e k with k|k;·exact⟨c,by rw[k];exact I,z.symm,by rw[k];exact J⟩
  .exact h.tr q B e k
 have K:(Xa i q.tree).length<=q.tree.length:=List.length_filter_le _ _;split
 .refine key _ ?_ λe k=>?_;·have:=(En (p.v i,i,c.fit) (Xa i q.tree)).length_eq;unfold Vf;have Z:=d.tree;simp only[Zm]at this;omega
  .rcases Lb.1 k with rfl|k;·exact .inl rfl
   .exact .inr (List.mem_filter.1 k).1
 .exact key _ (by have:=d.tree;omega) λe k=>.inr (List.mem_filter.1 k).1
theorem Qs.aV(h:Qs dep N p)(g:Nat){i:Int}{c q:Qx}(z:p.at i=some c)(U:0<i)(V:p.at c.par=some q):Qs dep (N+1) (p.aV g i)/\Jv p (p.aV g i):=by
 unfold Qe.aV;rw[z];dsimp only;obtain⟨J,K⟩:=h.pid z U V;have u:=(Qe.aE z).2;have d:=h.ok c (Qe.aE z).1;have k:p.at ({c with total:=c.total+min g (Xw-c.total)}:Qx).id=some c:=by show p.at c.id=_;rw[u];exact z
 have R:=h.set (Nat.le_succ N) k rfl rfl ⟨(by have:=d.total;dsimp only;omega),(d.more (Nat.le_succ _)).lim,(d.more (Nat.le_succ _)).mem,d.mark,(d.more (Nat.le_succ _)).tree,d.aM⟩ (λe he=>h.tr c (Qe.aE z).1 e he);have Z:=Jv.set (p:=p) k rfl rfl rfl;have E:(p.set {c with total:=c.total+min g (Xw-c.total)}).at i=some {c with total:=c.total+min g (Xw-c.total)}:=by have:=Hq k;rw[<-u];exact this
 have B:(p.set {c with total:=c.total+min g (Xw-c.total)}).at c.par=some q:=by exact(V5 (x:={c with total:=c.total+min g (Xw-c.total)}) (show c.par≠c.id from λe=>J (by rw[K,e,u]))).trans V
 have I:=(R.ok q (Qe.aE B).1).fam.gain i g;obtain⟨k1,k2,_⟩:=R.fam (f:=λf=>f.gain i g) (Zv _) E U B I;exact⟨k1,Z.trans k2⟩
theorem Qs.aW(h:Qs dep N p)(sl:Bool){i:Int}{c q:Qx}(d:p.at i=some c)(k:0<i)(u:p.at c.par=some q):Qs dep (N+1) (p.aW sl i)/\Jv p (p.aW sl i):=by
 unfold Qe.aW;rw[d];dsimp only;split;·obtain⟨z,B,E,I⟩:=h.fam (f:=λf=>f.sleep i) (Zv _) d k u ((h.ok q (Qe.aE u).1).fam.sleep i);obtain⟨J,K⟩:=z.note E k I;exact⟨J,B.trans K⟩
 .exact h.note d k u
structure Y9(dep:Int->Nat)(N L:Nat)(p0:Qe)(rest:List Int)(p:Qe):Prop where
 len:rest.length<=L
 ok:Qs dep (N+(L-rest.length)) p
 path:Vy p rest
 same:Jv p0 p
theorem Y9.head{B:Qe}{L:Nat}{id:Int}{rest:List Int}(h:Y9 dep N L B (id::rest) p):0<id/\∃c q,p.at id=some c/\p.at c.par=some q/\c.par=Eu rest:=by obtain⟨d,⟨c,k,u⟩,_⟩:=h.path;obtain⟨q,z⟩:=h.ok.par k d;exact⟨d,c,q,k,z,u⟩
theorem Y9.next{K:Qe}{L:Nat}{id:Int}{rest:List Int}(h:Y9 dep N L K (id::rest) p){p':Qe}(d:Qs dep (N+(L-(id::rest).length)+1) p')(I:Jv p p'):
  0<id/\dep (Eu rest)<dep id/\Y9 dep N L K rest p'/\(∃c,p.at id=some c)/\∃k,p'.at id=some k/\k.par=Eu rest:=by
 obtain⟨R,c,q,u,hq,J⟩:=h.head;obtain⟨Z,B⟩:=Qe.aE u;have U:=(h.ok.up.2 c Z (by omega)).2.2.1;rw[J,B]at U;obtain⟨k,z,E,_⟩:=I.get u;have V:=h.len;simp only[Zm]at V d;refine⟨R,by omega,⟨by omega,?_,Vy.same I h.path.2.2,h.same.trans I⟩,⟨c,u⟩,k,z,E.trans J⟩;rw[show N+(L-rest.length)=N+(L-(rest.length+1))+1 by omega];exact d
end
section
attribute [local irreducible] Kl J9
section
variable{A:Dz}{w:World}{F:Fp}{b:Nat}{p:Qe}{N:Nat}{dep:Int->Nat}
theorem Qkx(now x:Nat)(w):ZW 176 #[.pointer none,ZU now,ZU x] w (.tuple #[]) λw'=>Qc Qb w w':=by have k:=O (F8 w);apply WH func176;go_wp2_with fail;apply ZQ k;intro w1 d;exact WD d
theorem Qhs{v:Value}{l:Kg}{G:Fp}(h:Do v l w G)(z:∀r,l=some r->r.l.length<549755813888)(now x:Nat)(d:now<18446744073709551616)(k:x<18446744073709551616):
  ZW 176 #[v,ZU now,ZU x] w (.tuple #[]) λw'=>Do v (l.wake now x) w' (Qn G w w')/\Qc G w w':=by
 rcases h with⟨rfl,rfl,u⟩|⟨q,rfl,h⟩;·apply Zz (Qkx now x w);intro w1 c;exact⟨rfl,.inl ⟨rfl,rfl,u.ext (c.none (F:=G))⟩,c.none⟩
 .apply Zz (Qkw h z now x d k);rintro w1⟨h',c⟩;exact⟨rfl,.inr ⟨q,rfl,h'⟩,c⟩
theorem Qo.famAt(h:Qo A w F b p){i:Int}{q:Qx}(R:p.at i=some q):
  ∃G:Fp,J0 w G (A.pf i) q.mem/\(∀k,G k->F k)/\∀w1 w2 f,Qc Qb w w1->J0 w2 (Qn G w1 w2) (A.pf i) f->Qc G w1 w2->Qo A w2 (Qn F w w2) b (p.set {q with mem:=f})/\Qc F w w2:=by
 obtain⟨K,z⟩:=Qe.aE R;obtain⟨G,c,E,I⟩:=h.famOf K;rw[z]at c;refine⟨G,c,E,λw1 w2 f d J B=>?_⟩;have u:Qc G w w2:=d.none.aA B;exact I w2 f (by rw[z];exact J0.obj.more J (Ke d.size) ((J0.obj.bd c).ext u)) u
theorem Qo.limAt(h:Qo A w F b p){i:Int}{q:Qx}(R:p.at i=some q):
  ∃G:Fp,Do (A.vl i) q.limit w G/\(∀k,G k->F k)/\∀w1 w2 f,Qc Qb w w1->Do (A.vl i) f w2 (Qn G w1 w2)->Qc G w1 w2->Qo A w2 (Qn F w w2) b (p.set {q with limit:=f})/\Qc F w w2:=by
 obtain⟨K,z⟩:=Qe.aE R;obtain⟨G,c,E,I⟩:=h.limOf K;rw[z]at c;refine⟨G,c,E,λw1 w2 f d J B=>?_⟩;have u:Qc G w w2:=d.none.aA B;exact I w2 f (by rw[z];exact(Do.good _ _).more J (Ke d.size) (((Do.good _ _).bd c).ext u)) u
theorem Qpm(h:Qo A w F b p)(k:Qs dep N p)(hN:N<549755813887){i:Int}{c q:Qx}(hi:0<i)(J:p.at i=some c)(V:p.at c.par=some q)(now:Nat)(af:now<18446744073709551616)
  {Bp Bn:Nat}(R:Qh w Bp #[ptr b] 95)(Z:Qh w Bn #[ZU now] 22)(ar:¬F Bp)(ao:¬F Bn):
  ZW 174 #[ZI i,ptr (A.ad i),ZP Bp,ZP Bn] w (.tuple #[]) λw'=>Qo A w' (Qn F w w') b (p.up1 now i)/\Qc F w w':=by
 have K:=O (Hx h k i);have a0:=Jf R;have an:=(Qo.obj A).bd h;obtain⟨c0,c1,I,c3,c4,c5,c6,c7⟩:=Ja (h.cell J);have ae:Hi (∀w',Qc Qb w w'->Qo A w' (Qn F w w') b p/\Qc F w w'):=O (λw' d=>(Qo.obj A).same h d);have B:∀w',Qc Qb w w'->p.up1 now i=p->Qo A w' (Qn F w w') b (p.up1 now i)/\Qc F w w':=λw' d e=>by rw[e];exact ae.o w' d
 rcases Bool.eq_false_or_eq_true (p.aL i)with z|z
 .have e:p.up1 now i=p:=by unfold Qe.up1;rw[J];simp[z]
  have ST:=O (λw'(d:Qc Qb w w')=>B w' d e);rw[z]at K;clear h k J V z R Z B e;apply WH func174;go_wp2_with fail;apply ZF K (λ_ d=>ST.o _ d);intro w1 ab;exact WD ab
 .rw[z]at K;cases E:c.aJ with
  |false=>
   have e:p.up1 now i=p:=by unfold Qe.up1;rw[J];simp[E]
   have ST:=O (λw'(d:Qc Qb w w')=>B w' d e);have HC:=O (h.cell J);have HS:=O E;clear h k J V z R Z B e E c0 c1 I c3 c4 c5 c6 c7;apply WH func174;go_wp2_with fail;apply Zy K;intro w1 d;have ab:=O (ST.o _ d);obtain⟨c0,c1,I,c3,c4,c5,c6,c7⟩:=Ja (d.blk HC.o (λh=>h));rw[HS.o]at I;clear d;exact WD ab
  |true=>
   obtain⟨k1,k2,k3,k4⟩:=k.fam (f:=λf=>f.wake i) (Nat.le_succ N) J hi V ((k.ok q (Qe.aE V).1).fam.wake i);have e:p.up1 now i=(p.fam i λf=>f.wake i).set {c with limit:=c.limit.wake now c.total}:=by unfold Qe.up1;rw[J];simp[E,z]
   rw[e];have e2:=Py (f:=λf=>f.wake i) J V;obtain⟨G,hF,ap,aa⟩:=h.famAt V;have u:=k.ok q (Qe.aE V).1;have ai:=O (λw'(d:Qc Qb w w')=>Qmw (J0.obj.aB hF d (Jl.none G)) (λx hx=>⟨(u.mem x hx).1,by have:=(u.mem x hx).2.1;omega,(u.mem x hx).2.2⟩) u.mark i);have ak:Hi (∀w1 w2,Qc Qb w w1->J0 w2 (Qn G w1 w2) (A.pf c.par) (q.mem.wake i)->Qc G w1 w2->Qo A w2 (Qn F w w2) b (p.fam i λf=>f.wake i)/\Qc F w w2):=O (λw1 w2 d hf I=>by rw[e2];exact aa w1 w2 _ d hf I);have U:=k.ok c (Qe.aE J).1;have aj:Hi (∀w2,Qo A w2 (Qn F w w2) b (p.fam i λf=>f.wake i)->Qc F w w2->ZW 176 #[A.vl i,ZU now,ZU c.total] w2.drew (.tuple #[]) λw'=>Qo A w' (Qn F w w') b ((p.fam i λf=>f.wake i).set {c with limit:=c.limit.wake now c.total})/\Qc F w w'):=O (by
    intro w2 h2 al;obtain⟨G2,hl,au,ac⟩:=h2.drew.limAt k3;apply Zz (Qhs hl (λr hr=>by have:=U.lim r hr;omega) now c.total af (by have:=U.total;have:=Yz;omega));rintro w3⟨h3,am⟩;obtain⟨m1,m2⟩:=ac _ w3 _ (Zg Qb _) h3 am;exact⟨rfl,(Qo.obj A).two (w1:=w2) m1 an al m2.aT⟩)
   have HL:=O (λw'(d:Qc Qb w w')=>((Qo.obj A).aB h d (Jl.none F)).look1 c.par);rw[Xz V]at HL;have HC:=O (h.cell J);have HQ:=O (h.cell V);have HB:=O h.blk;have ah:=O R;have ag:=O Z;have HS:=O E;have K3:=O k3;clear h k J V z R Z B e E c0 c1 I c3 c4 c5 c6 c7 k1 k2 k3 k4 e2 hF ap aa u U;apply WH func174;go_wp2_with fail;apply Zy K;intro w1 d;have C1:=O d;obtain⟨_,_,I,_,_,_,_,_⟩:=Ja (d.blk HC.o (λh=>h));rw[HS.o]at I;have cd:=d.drew;obtain⟨d0,_,_,_,_,_,_,_⟩:=Ja (cd.blk HC.o (λh=>h));obtain⟨_,_,_,_,_,q5,_,_⟩:=Ja (cd.blk HQ.o (λh=>h));have hL:=HL.o _ cd;have e0:=Jf (cd.blk HB.o (λh=>h));have e1:=Jf (cd.blk ah.o (λh=>h));clear d a0;go_wp2_with fail;apply XB 20000000000000;apply YA 0;clear d0 q5 hL e0 e1 I;go_wp2_with fail;apply Zz (ai.o _ cd);rintro w2⟨h2,I⟩;obtain⟨m1,m2⟩:=ak.o _ _ cd h2 I;have M:=O (Zt m1 m2);have aq:=O (aj.o w2 m1 m2);obtain⟨_,_,_,d3,d4,_,_,_⟩:=Ja (m1.drew.cell K3.o);have e2:=Jf (m2.blk ag.o ao).drew;clear h2 I m1 m2 cd;go_wp2_with fail;refine Jo ?_;go_wp2_with fail;apply XB 2000000000;apply YA 0;clear d3 d4 e2;go_wp2_with fail;apply ZD aq.o;intro w3 H3;go_wp2_with fail;refine Jo ?_;exact WD H3
theorem Qa5(h:Qo A w F b p)(k:Qs dep N p)(K:N<549755813888){i:Int}{c q:Qx}(R:0<i)(B:p.at i=some c)(E:p.at c.par=some q){u:Nat}{v:Value}(d:Qh w u #[ptr b] 95):
  ZW 177 #[ZI i,v,ZP u] w (.tuple #[]) λw'=>Qo A w' (Qn F w w') b (p.note i)/\Qc F w w':=by
 have J:=O (Mj h k K R B E);have U:=Jf d;clear h k B E d;apply WH func177;go_wp2_with fail;apply ZQ J;intro w1 I;exact WD I
theorem Qnj(d:Qs dep N p):∀(n:Nat)(i:Int),0<=i->dep i<n->(i=0\/∃c,p.at i=some c)->Vy p (p.path n i)/\Eu (p.path n i)=i/\(p.path n i).length<=dep i
 |0,i,_,h,_=>by omega
 |n+1,i,h0,h,hi=>by
  rw[Qe.path];by_cases E:i<1
  .have:i=0:=by omega
   subst this;rw[if_pos E];exact⟨trivial,rfl,Nat.zero_le _⟩
  .rw[if_neg E];rcases hi with rfl|⟨c,z⟩;·omega
   .rw[z];dsimp only;obtain⟨J,B⟩:=Qe.aE z;have u:=d.up.2 c J (by omega);rw[B]at u;obtain⟨K,⟨q,I⟩,V,_⟩:=u;have k:=d.pos I;obtain⟨R,U,Z⟩:=Qnj d n c.par k (by omega) (.inr ⟨q,I⟩);exact⟨⟨by omega,⟨c,z,U.symm⟩,R⟩,rfl,by simp only[Zm];omega⟩
end
section
variable{A:Dz}{w:World}{F:Fp}{b:Nat}{p:Qe}{N:Nat}{dep:Int->Nat}
theorem Y9.start{l:List Int}(c:Qs dep N p)(d:Vy p l):Y9 dep N l.length p l p:=⟨Zv _,by rw[Nat.sub_self];exact c,d,Jv.refl p⟩
theorem U0{d:Qe->Int->Qe}{L:Nat}{k:Qe}(c:∀id rest p,Y9 dep N L k (id::rest) p->Qs dep (N+(L-(id::rest).length)+1) (d p id)/\Jv p (d p id)):
  ∀(l:List Int)(p:Qe),Y9 dep N L k l p->Y9 dep N L k [] (l.foldl d p)
 |[],p,h=>h
 |id::rest,p,h=>by obtain⟨q,u⟩:=c id rest p h;exact U0 c rest _ (h.next q u).2.2.1
theorem De(d:Qs dep N p){i:Int}{c:Qx}(k:p.at i=some c):Vy p (p.path 9 i)/\Eu (p.path 9 i)=i/\(p.path 9 i).length<=8:=by
 have u:=d.pos k;have J:dep i<=8:=by
  obtain⟨E,q⟩:=Qe.aE k;by_cases h:i=0;·rw[h,d.up.1];omega
  .have:=(d.up.2 c E (by omega)).2.2.2;rwa[q]at this
 obtain⟨z,B,I⟩:=Qnj d 9 i u (by omega) (.inr ⟨c,k⟩);exact⟨z,B,by omega⟩
theorem Sl(now:Nat){L:Nat}{z:Qe}:∀id rest p,Y9 dep N L z (id::rest) p->Qs dep (N+(L-(id::rest).length)+1) (p.up1 now id)/\Jv p (p.up1 now id):=λid rest p h=>by obtain⟨d,c,q,k,u,_⟩:=h.head;exact h.ok.up1 now k d u
theorem T7{L:Nat}{z:Qe}:∀id rest p,Y9 dep N L z (id::rest) p->Qs dep (N+(L-(id::rest).length)+1) (p.note id)/\Jv p (p.note id):=λid rest p h=>by obtain⟨d,c,q,k,u,_⟩:=h.head;exact h.ok.note k d u
theorem Qs.wake(d:Qs dep N p)(i:Int)(now:Nat):Qs dep (N+16) (p.wake i now)/\Jv p (p.wake i now):=by
 unfold Qe.wake;cases z:p.at i with
 |none=>exact⟨d.more (by omega),Jv.refl _⟩
 |some c=>
  dsimp only;split;·exact⟨d.more (by omega),Jv.refl _⟩
  .obtain⟨u,_,B⟩:=De d z;have k:=U0 (Sl now) _ _ (Y9.start d u);have q:=U0 T7 _ _ (Y9.start (N:=N+(p.path 9 i).length) (by simpa using k.ok) (Vy.same k.same u));refine⟨q.ok.more (by simp;omega),k.same.trans q.same⟩
theorem Qlo(h:Qo A w F b p)(J:Qs dep N p)(hN:N<549755813000)(i:Int)(now:Nat)(ai:now<18446744073709551616):
  ZW 109 #[ptr b,ZI i,ZU now] w (.tuple #[]) λw'=>Qo A w' (Qn F w w') b (p.wake i now)/\Qc F w w':=by
 have aa:=(Qo.obj A).bd h;obtain⟨W,z⟩:=Zx ((w.alloc (.cells #[ZP b] 95)).alloc (.cells #[ZU now] 22));have C0:Hi (Qc Qb w W):=O (by rw[z];exact((Zg _ _).alloc _).alloc _);have B3:Hi (Qh W w.heap.size #[ptr b] 95):=O (by rw[z];exact(Qh.new _ _ _).alloc _);have B5:Hi (Qh W (w.heap.size+1) #[ZU now] 22):=O (by rw[z];exact Qh.new' _ _ (by simp));have hP:=(Qo.obj A).aB h C0.o (Jl.none F);have V:=O (Hw hP i);have u:¬F w.heap.size:=λhk=>by have:=aa _ hk;omega
 have I:¬F (w.heap.size+1):=λhk=>by have:=aa _ hk;omega
 have l3:=B3.o.lt;have l5:=B5.o.lt;have ag:Hi (∀w' p',Qo A w' (Qn F W w') b p'->Qc F W w'->Qo A w' (Qn F w w') b p'/\Qc F w w'):=O (λw' p' h' c'=>by
  have U:Qc F w w':=C0.o.none.aA c';exact⟨(Qo.obj A).more h' (Ke C0.o.size) (aa.ext U),U⟩)
 have B:Hi (Qo A W (Qn F w W) b p/\Qc F w W):=O ((Qo.obj A).same h C0.o);unfold Qe.wake;cases hc:p.at i with
 |none=> rw[Ep hc]at V;dsimp only;have Z:=Jf (z▸B3.o);clear h J hc hP u I l3 l5;apply WH func109;go_wp2_with fail;rw[<-z]at Z|-;clear z;apply Zy V;rintro w1 rfl;go_wp2;all_goals refine WA rfl rfl ⟨rfl,B.o⟩
 |some c=>
  rw[Xz hc]at V;have Z:=Jf (z▸B3.o);obtain⟨c0,c1,U,c3,c4,c5,c6,c7⟩:=Ja (hP.cell hc);by_cases k:i<1\/c.leaf=false\/c.aJ=false
  .have e:(if(decide (i<1)||!c.leaf||!c.aJ)=true then p else(p.path 9 i).foldl Qe.note ((p.path 9 i).foldl (Qe.up1 now) p))=p:=by rw[if_pos];rcases k with K|K|K<;>simp[K]
   dsimp only;rw[e];have fin:∀{d:Bool},decide (i<1)=d->(d=true\/c.leaf=false\/c.aJ=false)->ZW 109 #[ptr b,ZI i,ZU now] w (.tuple #[]) λw'=>Qo A w' (Qn F w w') b p/\Qc F w w':=by
    intro d hd k;have hx:(i<1)=(d=true):=by rw[<-hd];simp
    generalize c.leaf=lf at c1 k;generalize c.aJ=sh at U k;have q3:=z▸c1;clear h J hc hP u I l3 l5 e c0 c3 c4 c5 c6 c7;cases d with
    |true=>
     have Xg:i<1:=by simpa using hx
     apply WH func109;go_wp2_with fail;rw[<-z]at Z|-;clear z q3;apply Zy V;rintro w1 rfl;exact WD B
    |false=>
     have Xg:¬i<1:=by simpa using hx
     cases lf with
     |false=> apply WH func109;go_wp2_with fail;rw[<-z]at Z|-;clear z q3;apply Zy V;rintro w1 rfl;exact WD B
     |true=>
      obtain rfl:sh=false:=by simpa using k
      apply WH func109;go_wp2_with fail;rw[<-z]at Z|-;clear z q3;apply Zy V;rintro w1 rfl;exact WD B
   exact fin rfl (k.imp (λh=>by simpa using h) id)
  .have hi:0<i:=by omega
   have ae:c.leaf=true:=by cases h:c.leaf<;>simp_all
   have af:c.aJ=true:=by cases h:c.aJ<;>simp_all
   have Xg:¬i<1:=by omega
   rw[ae]at c1;rw[af]at U;have e:(if(decide (i<1)||!c.leaf||!c.aJ)=true then p else(p.path 9 i).foldl Qe.note ((p.path 9 i).foldl (Qe.up1 now) p))=(p.path 9 i).foldl Qe.note ((p.path 9 i).foldl (Qe.up1 now) p):=by rw[if_neg (by simp[ae,af,Xg])]
   dsimp only;rw[e];obtain⟨p1,p2,p3⟩:=De J hc;generalize p.path 9 i=l at p1 p2 p3|-;have g0:=Y9.start J p1;have g1:=U0 (Sl now) _ _ g0;have g2:Y9 dep (N+l.length) l.length (l.foldl (Qe.up1 now) p) l (l.foldl (Qe.up1 now) p):=Y9.start (by simpa using g1.ok) (Vy.same g1.same p1);have H1:=O (Lo 174 #[ZP w.heap.size,ZP (w.heap.size+1)] (enters_of func174 (by kernel_rfl) rfl) (λp id=>p.up1 now id) (Y9 dep N l.length p) dep
    (λid rest p' k=>k.next (Sl now id rest p' k).1 (Sl now id rest p' k).2)
    (λid rest p' w' k ab R=>by
     obtain⟨K,c',q,ac,hq,_⟩:=k.head;exact Qpm ab k.ok (by omega) K ac hq now ai (R.blk B3.o u) (R.blk B5.o I) (Qn.not u l3) (Qn.not I l5))
    hP l g0 i p2.symm)
   have H2:Hi (∀w1,Qo A w1 (Qn F W w1) b (l.foldl (λp id=>p.up1 now id) p)->Qc F W w1->ZW 155 #[ptr b,ZI i,.func (.func 177) #[] #[ZP w.heap.size]] w1 (.tuple #[]) λw'=>Qo A w' (Qn F W w') b (l.foldl Qe.note (l.foldl (Qe.up1 now) p))/\Qc F W w'):=O (by
    intro w1 K E;refine(Lo 177 #[ZP w.heap.size] (enters_of func177 (by kernel_rfl) rfl) Qe.note (Y9 dep (N+l.length) l.length (l.foldl (Qe.up1 now) p)) dep
     (λid rest p' k=>k.next (T7 id rest p' k).1 (T7 id rest p' k).2)
     (λid rest p' w' k ab R=>by
      obtain⟨ak,c',q,ac,hq,_⟩:=k.head;exact Qa5 ab k.ok (by omega) ak ac hq (R.blk (E.blk B3.o u) (Qn.not u l3)))
     K l g2 i p2.symm).mono ?_
    rintro e w2⟨rfl,h2,U⟩;obtain⟨m1,m2⟩:=(Qo.obj A).two h2 ((Qo.obj A).bd hP) E U;exact⟨rfl,m1,m2⟩)
   have aj:=O (Zt u I);clear h J hc hP u I l3 l5 e c0 c3 c4 c5 c6 c7 k p1 p2 p3 g0 g1 g2 ae af;apply WH func109;go_wp2_with fail;rw[<-z]at Z|-;clear z;apply Zy V;rintro w1 rfl;go_wp2_with fail;apply Zy H1;rintro w1⟨K,E⟩;have H3:=O (H2.o w1 K E);have a4:=Jf (E.blk B3.o aj.o.1);clear K E Z c1 U;go_wp2_with fail;apply ZF H3 (λ_ ⟨h2,ah⟩=>ag.o _ _ h2 ah);intro w2 FF;exact WD FF
end
end
section
attribute [local go_sem ↓] X8 Yd
attribute [local irreducible] Kl J9
section
variable{A:Dz}{w:World}{F:Fp}{b:Nat}{p:Qe}{N:Nat}{dep:Int->Nat}
theorem Qih(h:Qo A w F b p)(I:Qs dep N p)(hN:N<549755813887){i:Int}{c q:Qx}(hi:0<i)(Z:p.at i=some c)(hq:p.at c.par=some q)(g:Nat)(hg:g<18446744073709551616)
  {Bp Bg:Nat}(aa:Qh w Bp #[ptr b] 95)(R:Qh w Bg #[ZU g] 22)(ag:¬F Bp)(af:¬F Bg):
  ZW 156 #[ZI i,ptr (A.ad i),ZP Bg,ZP Bp] w (.tuple #[]) λw'=>Qo A w' (Qn F w w') b (p.aV g i)/\Qc F w w':=by
 have ae:=(Qo.obj A).bd h;obtain⟨V,z⟩:=Qe.aE Z;have K:=I.ok c V;obtain⟨ah,ai⟩:=I.pid Z hi hq;obtain⟨T,hT⟩:=Zx (c.total+min g (Xw-c.total));have ak:=K.total;have hC:=Yz;have e1:IntKind.u64.wrap (4611686018427387904-(c.total:Int))=((Xw-c.total:Nat):Int):=by rw[IntWalk.u64_in _ (by omega)];omega
 have e2:min (g:Int) ((Xw-c.total:Nat):Int)=((min g (Xw-c.total):Nat):Int):=by omega
 have e3:IntKind.u64.wrap ((c.total:Int)+((min g (Xw-c.total):Nat):Int))=(T:Int):=by rw[IntWalk.u64_in _ (by omega)];omega
 have d:=h.cell Z;obtain⟨W,hW⟩:=Zx ((w.setCell ⟨A.ad i,3,none⟩ (ZU T)).drew);have ab:p.at ({c with total:=T}:Qx).id=some c:=by show p.at c.id=_;rw[z];exact Z
 have J:Hi (Qo A W (Qn F w W) b (p.set {c with total:=T})/\Qc F w W):=O (by
  refine h.setC (c:=c) (c':={c with total:=T}) V rfl rfl rfl rfl ?_ ?_;·rw[hW,z];exact((Zg (λk=>k=A.ad i) w).setCell (a:=⟨A.ad i,3,none⟩) _ (.inl rfl)).drew
  .rw[hW,z];exact(d.set' 3 (ZU T) rfl).drew)
 have U:(p.set {c with total:=T}).at i=some {c with total:=T}:=by have:=Hq ab;rw[<-z];exact this
 have B:(p.set {c with total:=T}).at c.par=some q:=(V5 (x:={c with total:=T}) (show c.par≠c.id from λe=>ah (by rw[ai,e,z]))).trans hq;have e:p.aV g i=(p.set {c with total:=T}).set {q with mem:=q.mem.gain i g}:=by unfold Qe.aV;rw[Z];dsimp only;rw[<-hT];exact Py (c:={c with total:=T}) U B
 rw[e];have E:=I.ok q (Qe.aE hq).1;have HG:Hi (∀w1,Qc Qb W w1->ZW 157 #[ptr (A.pf c.par),ZI i,ZU g] w1 (.tuple #[]) λw'=>Qo A w' (Qn F w w') b ((p.set {c with total:=T}).set {q with mem:=q.mem.gain i g})/\Qc F w w'):=O (by
  intro w1 cc;obtain⟨G,hF,al,ac⟩:=J.o.1.famAt B;apply Zz (Qmu (J0.obj.aB hF cc (Jl.none G)) (λx hx=>⟨(E.mem x hx).1,by have:=(E.mem x hx).2.1;omega⟩) i g hg);rintro w2⟨hf,c2⟩;obtain⟨m1,m2⟩:=ac w1 w2 _ cc hf c2;exact⟨rfl,(Qo.obj A).two m1 ae J.o.2 m2⟩)
 have d3:=Ja d.drew;have z3:=d.frozen 3;have aj:=d.drew.frozen 3;have y3:=(Ja d).2.2.2.1;have b2:=Jf R.drew;have X0:Hi (Qh W Bp #[ptr b] 95/\Qh W Bg #[ZU g] 22/\Qh W (A.ad i) (Pn {c with total:=T} (A.vl i) (A.pf i) (A.pt i)) 147):=O ⟨J.o.2.blk aa ag,J.o.2.blk R af,J.o.1.cell U⟩;obtain⟨x0,x1,x2⟩:=X0.o;have g0:=Ja x2.drew;have g1:=Jf x0.drew;have g2:=Jf x1.drew;have g3:=J.o.1.drew.look1 c.par;rw[Xz B]at g3;have g4:=Jf J.o.1.drew.blk;have g5:=Ja (J.o.1.drew.cell B);generalize Xw-c.total=u at e1 e2 e3;generalize min g u=u2 at e2 e3;clear h I Z hq K d aa R E hT e x0 x1 x2 V ab B U;apply WH func156;go_wp2_with fail;apply XB 200000000000000;apply YI 0;rw[<-hW];clear hW d3 z3 aj y3 b2;go_wp2_with fail;apply XB 200000000000000;apply YA 0;clear g0 g1 g2 g3 g4 g5;go_wp2_with fail;apply ZD (HG.o _ (Zg _ _).drew);intro w2 H2;go_wp2_with fail;refine Jo ?_;exact WD H2
end
end
section
attribute [local irreducible] Kl J9
section
variable{A:Dz}{w:World}{F:Fp}{b:Nat}{p:Qe}{N:Nat}{dep:Int->Nat}
theorem Qij(h:Qo A w F b p)(k:Qs dep N p)(hN:N<549755813887){i:Int}{c q:Qx}(hi:0<i)(I:p.at i=some c)(K:p.at c.par=some q)(sl:Bool)
  {Bp Bs:Nat}(d:Qh w Bp #[ptr b] 95)(E:Qh w Bs #[.bool sl] 4)(ag:¬F Bp):
  ZW 159 #[ZI i,ptr (A.ad i),ZP Bs,ZP Bp] w (.tuple #[]) λw'=>Qo A w' (Qn F w w') b (p.aW sl i)/\Qc F w w':=by
 have ai:=(Qo.obj A).bd h;have y0:=Jf E;have y1:=Jf d;have aa:=Ja (h.cell I);obtain⟨_,c1,_,_,_,_,c6,_⟩:=aa;have ab:=O d;have R:∀r:Bool,(sl&&(c.leaf||decide (c.tree.length=0)))=r->p.aW sl i=Qe.note (if r then p.fam i (λf=>f.sleep i)else p) i:=λr hr=>by unfold Qe.aW;rw[I];dsimp only;rw[hr]
 have ac:=O (Mj h k (by omega) hi I K);obtain⟨k1,k2,k3,k4⟩:=k.fam (f:=λf=>f.sleep i) (Zv _) I hi K ((k.ok q (Qe.aE K).1).fam.sleep i);have J:=Py (f:=λf=>f.sleep i) I K;have af:Hi (∀w1,Qc Qb w w1->ZW 161 #[ptr (A.pf c.par),ZI i] w1 (.tuple #[]) λw'=>Qo A w' (Qn F w w') b (p.fam i λf=>f.sleep i)/\Qc F w w'):=O (by
  intro w1 cc;obtain⟨G,hF,aj,ah⟩:=h.famAt K;apply Zz (Qjh (J0.obj.aB hF cc (Jl.none G)) i);rintro w2⟨hf,B⟩;obtain⟨m1,m2⟩:=ah w1 w2 _ cc hf B;exact⟨rfl,J▸m1,m2⟩)
 have ae:Hi (∀w2,Qo A w2 (Qn F w w2) b (p.fam i λf=>f.sleep i)->Qc F w w2->ZW 162 #[ptr b,ZI i] w2 (.tuple #[]) λw'=>Qo A w' (Qn F w w') b ((p.fam i λf=>f.sleep i).note i)/\Qc F w w'):=O (by
  intro w2 Z B;apply Zz (Mj Z k1 (by omega) hi k3 k4);rintro w3⟨z,c3⟩;obtain⟨m1,m2⟩:=(Qo.obj A).two z ai B c3;exact⟨rfl,m1,m2⟩)
 have d0:=Ja (h.drew.cell I);have f5:=Ja (h.drew.cell K);have hL:=h.drew.look1 c.par;rw[Xz K]at hL;have y2:=Jf h.drew.blk;have y3:=Jf d.drew;obtain⟨G6,ht⟩:=h.tre I;have u:=O (Qn1 ht);generalize U:c.leaf=lf at c1 R;cases sl with
 |false=> rw[R false (by simp)];simp only[Bool.false_eq_true,if_false];clear h k I K d E k1 k2 k3 k4 J R ht d0 f5 hL y2 y3 U;apply WH func159;go_wp2_with fail;apply ZQ ac;intro w3 V;exact WD V
 |true=>
  cases lf with
  |true=>
   rw[R true (by simp)];simp only[if_true];clear h k I K d E k1 k2 k3 k4 J R ht U;apply WH func159;go_wp2_with fail;apply XB 20000000000000;apply YA 0;clear d0 f5 hL y2 y3 y1;go_wp2_with fail;apply Zz (af.o _ (Zg _ _).drew);rintro w2⟨Z,B⟩;have H2:=O (ae.o _ Z B);have y1:=Jf (B.blk ab.o ag);clear Z B;go_wp2_with fail;refine Jo ?_;go_wp2_with fail;apply ZQ H2;intro w3 V;exact WD V
  |false=>
   by_cases h0:c.tree.length=0
   .rw[R true (by simp[h0])];simp only[if_true];have e0:((c.tree.length:Nat):Int)=0:=by omega
    rw[e0]at u;clear h k I K d E k1 k2 k3 k4 J R ht U;apply WH func159;go_wp2_with fail;apply Zy u;rintro w1 rfl;go_wp2_with fail;apply XB 20000000000000;apply YA 0;clear d0 f5 hL y2 y3 y1;go_wp2_with fail;apply Zz (af.o _ (Zg _ _).drew);rintro w2⟨Z,B⟩;have H2:=O (ae.o _ Z B);have y1:=Jf (B.blk ab.o ag);clear Z B;go_wp2_with fail;refine Jo ?_;go_wp2_with fail;apply ZQ H2;intro w3 V;exact WD V
   .rw[R false (by simp[h0])];simp only[Bool.false_eq_true,if_false];have e0:(((c.tree.length:Nat):Int)==0)=false:=by rw[beq_eq_false_iff_ne];omega
    have e1:((c.tree.length:Nat):Int)≠0:=by omega
    generalize((c.tree.length:Nat):Int)=tl at u e0 e1;clear h k I K d E k1 k2 k3 k4 J R ht U d0 f5 hL y2 y3;apply WH func159;go_wp2_with fail;apply Zy u;rintro w1 rfl;go_wp2_with fail;apply ZQ ac;intro w3 V;exact WD V
theorem Lk(g:Nat){L:Nat}{z:Qe}:∀id rest p,Y9 dep N L z (id::rest) p->Qs dep (N+(L-(id::rest).length)+1) (p.aV g id)/\Jv p (p.aV g id):=λid rest p h=>by obtain⟨d,c,q,k,u,_⟩:=h.head;exact h.ok.aV g k d u
theorem Pz(d:Bool){L:Nat}{B:Qe}:∀id rest p,Y9 dep N L B (id::rest) p->Qs dep (N+(L-(id::rest).length)+1) (p.aW d id)/\Jv p (p.aW d id):=λid rest p h=>by obtain⟨k,c,q,u,z,_⟩:=h.head;exact h.ok.aW d u k z
theorem Qs.sent(k:Qs dep N p)(i:Int)(g:Nat)(d:Bool):Qs dep (N+16) (p.sent i g d)/\Jv p (p.sent i g d):=by
 unfold Qe.sent;cases B:p.at i with
 |none=>exact⟨k.more (by omega),Jv.refl _⟩
 |some c=>
  dsimp only;split;·exact⟨k.more (by omega),Jv.refl _⟩
  .obtain⟨z,_,E⟩:=De k B;have q:=U0 (Lk g) _ _ (Y9.start k z);have u:=U0 (Pz (!d&&((p.path 9 i).foldl (Qe.aV g) p).aL i)) _ _ (Y9.start (N:=N+(p.path 9 i).length) (by simpa using q.ok) (Vy.same q.same z));refine⟨u.ok.more (by simp;omega),q.same.trans u.same⟩
theorem Qlm(h:Qo A w F b p)(aa:Qs dep N p)(hN:N<549755813000)(i:Int)(g:Nat)(hg:g<18446744073709551616)(k:Bool):
  ZW 100 #[ptr b,ZI i,ZU g,.bool k] w (.tuple #[]) λw'=>Qo A w' (Qn F w w') b (p.sent i g k)/\Qc F w w':=by
 have aj:=(Qo.obj A).bd h;obtain⟨W,I⟩:=Zx ((w.alloc (.cells #[ZP b] 95)).alloc (.cells #[ZU g] 22));have C0:Hi (Qc Qb w W):=O (by rw[I];exact((Zg _ _).alloc _).alloc _);have B3:Hi (Qh W w.heap.size #[ptr b] 95):=O (by rw[I];exact(Qh.new _ _ _).alloc _);have B5:Hi (Qh W (w.heap.size+1) #[ZU g] 22):=O (by rw[I];exact Qh.new' _ _ (by simp));have hP:=(Qo.obj A).aB h C0.o (Jl.none F);have HA:=O (Hw hP i);have B:¬F w.heap.size:=λhk=>by have:=aj _ hk;omega
 have J:¬F (w.heap.size+1):=λhk=>by have:=aj _ hk;omega
 have l3:=B3.o.lt;have l5:=B5.o.lt;have ae:Hi (∀w' p',Qo A w' (Qn F W w') b p'->Qc F W w'->Qo A w' (Qn F w w') b p'/\Qc F w w'):=O (λw' p' h' c'=>by
  have c2:Qc F w w':=C0.o.none.aA c';exact⟨(Qo.obj A).more h' (Ke C0.o.size) (aj.ext c2),c2⟩)
 have R:Hi (Qo A W (Qn F w W) b p/\Qc F w W):=O ((Qo.obj A).same h C0.o);unfold Qe.sent;cases hc:p.at i with
 |none=> rw[Ep hc]at HA;dsimp only;have a3:=Jf (I▸B3.o);clear h aa hc hP B J l3 l5;apply WH func100;go_wp2_with fail;rw[<-I]at a3|-;clear I;apply Zy HA;rintro w1 rfl;go_wp2;all_goals refine WA rfl rfl ⟨rfl,R.o⟩
 |some c=>
  rw[Xz hc]at HA;have a3:=Jf (I▸B3.o);obtain⟨c0,c1,c2,c3,c4,c5,c6,c7⟩:=Ja (hP.cell hc);by_cases ac:i<1\/c.leaf=false
  .have e:(if(decide (i<1)||!c.leaf)=true then p else(p.path 9 i).foldl (Qe.aW (!k&&((p.path 9 i).foldl (Qe.aV g) p).aL i)) ((p.path 9 i).foldl (Qe.aV g) p))=p:=by rw[if_pos];rcases ac with E|E<;>simp[E]
   dsimp only;rw[e];have fin:∀{d:Bool},decide (i<1)=d->(d=true\/c.leaf=false)->ZW 100 #[ptr b,ZI i,ZU g,.bool k] w (.tuple #[]) λw'=>Qo A w' (Qn F w w') b p/\Qc F w w':=by
    intro d hd aq;have hx:(i<1)=(d=true):=by rw[<-hd];simp
    generalize c.leaf=lf at c1 aq;clear h aa hc hP B J l3 l5 e c0 c2 c3 c4 c5 c6 c7 ac;cases d with
    |true=>
     have Xg:i<1:=by simpa using hx
     apply WH func100;go_wp2_with fail;rw[<-I]at a3|-;clear I;apply Zy HA;rintro w1 rfl;exact WD R
    |false=>
     have Xg:¬i<1:=by simpa using hx
     obtain rfl:lf=false:=by simpa using aq
     apply WH func100;go_wp2_with fail;rw[<-I]at a3|-;clear I;apply Zy HA;rintro w1 rfl;exact WD R
   exact fin rfl (ac.imp (λh=>by simpa using h) id)
  .have hi:0<i:=by omega
   have am:c.leaf=true:=by cases h:c.leaf<;>simp_all
   have Xg:¬i<1:=by omega
   rw[am]at c1;have e:(if(decide (i<1)||!c.leaf)=true then p else(p.path 9 i).foldl (Qe.aW (!k&&((p.path 9 i).foldl (Qe.aV g) p).aL i)) ((p.path 9 i).foldl (Qe.aV g) p))=(p.path 9 i).foldl (Qe.aW (!k&&((p.path 9 i).foldl (Qe.aV g) p).aL i)) ((p.path 9 i).foldl (Qe.aV g) p):=by rw[if_neg (by simp[am,Xg])]
   dsimp only;rw[e];obtain⟨p1,p2,p3⟩:=De aa hc;generalize p.path 9 i=l at p1 p2 p3|-;have g0:=Y9.start aa p1;have g1:=U0 (Lk g) _ _ g0;have ai:Qs dep (N+l.length) (l.foldl (Qe.aV g) p):=by simpa using g1.ok
   have g2:Y9 dep (N+l.length) l.length (l.foldl (Qe.aV g) p) l (l.foldl (Qe.aV g) p):=Y9.start ai (Vy.same g1.same p1);have H1:=O (Lo 156 #[ZP (w.heap.size+1),ZP w.heap.size] (enters_of func156 (by kernel_rfl) rfl) (Qe.aV g) (Y9 dep N l.length p) dep
    (λid rest p' hg=>hg.next (Lk g id rest p' hg).1 (Lk g id rest p' hg).2)
    (λid rest p' w' Z ak V=>by
     obtain⟨E,c',q,al,hq,_⟩:=Z.head;exact Qih ak Z.ok (by omega) E al hq g hg (V.blk B3.o B) (V.blk B5.o J) (Qn.not B l3) (Qn.not J l5))
    hP l g0 i p2.symm)
   have ag:Hi (∀w1(F1:Fp),Qo A w1 F1 b (l.foldl (Qe.aV g) p)->ZW 158 #[ptr b,ZI i] w1 (.bool ((l.foldl (Qe.aV g) p).aL i)) λw'=>Qc Qb w1 w'):=O (λw1 F1 E=>Hx E ai i);have H2:Hi (∀(sl:Bool)w1 w2 Bs,Qo A w1 (Qn F W w1) b (l.foldl (Qe.aV g) p)->Qc F W w1->Qc Qb w1 w2->Qh w2 Bs #[.bool sl] 4->w1.heap.size<=Bs->ZW 155 #[ptr b,ZI i,.func (.func 159) #[] #[ZP Bs,ZP w.heap.size]] w2 (.tuple #[]) λw'=>Qo A w' (Qn F W w') b (l.foldl (Qe.aW sl) (l.foldl (Qe.aV g) p))/\Qc F W w'):=O (by
    intro sl w1 w2 Bs E z ca bs a0;have ay:=(Qo.obj A).bd E;have h4:=(Qo.obj A).aB E ca (Jl.none _);have nf:¬Qn F W w1 Bs:=λhk=>by have:=ay _ hk;omega
    have s3:=z.size;have s4:=ca.size;have ar:¬Qn F W w1 w.heap.size:=Qn.not B l3;refine(Lo 159 #[ZP Bs,ZP w.heap.size] (enters_of func159 (by kernel_rfl) rfl) (Qe.aW sl) (Y9 dep (N+l.length) l.length (l.foldl (Qe.aV g) p)) dep
     (λid rest p' hg=>hg.next (Pz sl id rest p' hg).1 (Pz sl id rest p' hg).2)
     (λid rest p' w' Z ak V=>by
      obtain⟨ax,c',q,al,hq,_⟩:=Z.head;exact Qij ak Z.ok (by omega) ax al hq sl (V.blk (ca.blk (z.blk B3.o B) (λh=>h)) ar) (V.blk bs nf) (Qn.not ar (by omega)))
     h4 l g2 i p2.symm).mono ?_
    rintro e w3⟨rfl,h5,c5⟩;have ap:Qc (Qn F W w1) w1 w3:=ca.none.aA c5;obtain⟨m1,m2⟩:=(Qo.obj A).two ((Qo.obj A).more h5 (Ke ca.size) (((Qo.obj A).bd E).ext ap)) ((Qo.obj A).bd hP) z ap;exact⟨rfl,m1,m2⟩)
   have av:=O (Zt B J);generalize(l.foldl (Qe.aV g) p)=az at H1 H2 ag|-;generalize az.aL i=aw at ag|-;clear h aa hc hP B J l3 l5 e c0 c2 c3 c4 c5 c6 c7 ac p1 p2 p3 g0 g1 g2 am ai;apply WH func100;go_wp2_with fail;rw[<-I]at a3|-;clear I;apply Zy HA;rintro w1 rfl;go_wp2_with fail;apply Zy H1;rintro w1⟨E,z⟩;have K:=O (Zt E z);have af:=O (z.blk B3.o av.o.1);have sz:=z.size;clear E z a3 c1;cases k with
   |true=> obtain⟨W2,ab⟩:=Zx (w1.alloc (.cells #[.bool false] 4));have H3:=O (H2.o (!true&&aw) w1 W2 w1.heap.size K.o.1 K.o.2 (by rw[ab];exact(Zg _ _).alloc _) (by rw[ab];exact Qh.new _ _ _) (Zv _));have a4:=Jf (show Qh (w1.alloc (.cells #[.bool false] 4)) _ _ _ from af.o.alloc _);go_wp2_with fail;rw[<-ab]at a4|-;clear ab;apply ZF H3 (λ_ ⟨h2,u⟩=>ae.o _ _ h2 u);intro w2 FF;exact WD FF
   |false=>
    have an:=O (ag.o w1 _ K.o.1);have a4:=Jf af.o;have au:=O (H2.o aw w1);go_wp2_with fail;apply Zy an;intro w2 u;obtain⟨W3,U⟩:=Zx (w2.alloc (.cells #[.bool aw] 4));have ao:Qh W3 w2.heap.size #[.bool aw] 4:=by rw[U];exact Qh.new _ _ _
    have ah:Qc Qb w1 W3:=by rw[U];exact u.alloc _
    have H3:=O (au.o W3 w2.heap.size K.o.1 K.o.2 ah ao u.size);have a5:=Jf (show Qh (w2.alloc (.cells #[.bool aw] 4)) w.heap.size _ _ from U▸ah.blk af.o (λh=>h));clear u ao ah a4;go_wp2_with fail;rw[<-U]at a5|-;clear U;apply ZF H3 (λ_ ⟨h2,u⟩=>ae.o _ _ h2 u);intro w3 FF;exact WD FF
end
end
end Go.Proofs.YtigcnnkagkbflaaGreat
