/- A part of the proof: no condition. -/
import Derived.Test.YtnnhmpehkbihnaaGreatPk22
import Derived.Test.YtnnhmpehkbihnaaGreatPk23
namespace Go.Proofs.YtnnhmpehkbihnaaGreat
set_option linter.unusedVariables false
set_option maxRecDepth 100000
set_option maxHeartbeats 4000000
open Go.RowKit
open Go.Proofs.Tryz
section
attribute [local go_sem] Qp
theorem Qc.undrew{S:Nat→Prop}{w w1:World}(h:Qc S w.drew w1):Qc S w w1:=⟨h.os,h.tape,h.output,h.size,h.block⟩
def Yu(m:Nat)(ad:Int→Nat)(w:World)(F:Fp)(b:Nat)(f:Jc):Prop:=∃l:List Jh,l.Perm f.all∧Oh (Qtj b m f.mark ad l) w F
theorem Yu.obj(m:Nat)(ad:Int→Nat):Hf (Yu m ad) where
 bd:=fun⟨l,_,h⟩=>(Je (Yc _ m _ ad l)).bd h
 own:=fun⟨l,_,h⟩=>by obtain⟨G,h1,d⟩:=J6 (Yc _ m _ ad l) 0 rfl h;exact d _ h1.2.1
 aB:=fun⟨l,c,h⟩hc q=>⟨l,c,(Je (Yc _ m _ ad l)).aB h hc q⟩
 more:=fun⟨l,c,h⟩hs k=>⟨l,c,(Je (Yc _ m _ ad l)).more h hs k⟩
theorem J0.addr{w}{F:Fp}{b:Nat}{f:Jc}(h:J0 w F b f):∃m ad,Yu m ad w F b f:=by obtain⟨m,ad,l,h⟩:=h;exact⟨m,ad,l,h⟩
section
variable{m:Nat}{ad:Int→Nat}{w w':World}{F:Fp}{b:Nat}{f:Jc}
theorem Yu.is(h:Yu m ad w F b f):J0 w F b f:=by obtain⟨l,h⟩:=h;exact⟨m,ad,l,h⟩
theorem Yu.same(h:Yu m ad w F b f)(hc:Qc Qb w w'):Yu m ad w' (Qn F w w') b f∧Qc F w w':=by obtain⟨l,d,h⟩:=h;have g:=Je (Yc b m f.mark ad l);have h':=g.aB h hc (Jl.none F);exact⟨⟨l,d,g.more h' (fun k c=>.inl c) ((g.bd h).ext (hc.none (F:=F)))⟩,hc.none⟩
theorem Yu.coll(h:Yu m ad w F b f):∃l:List Jh,l.Perm f.all∧Qh w b #[.map (some m),.int .u64 f.mark] 212∧∃G,Yn Jh.id Vj w G m ad l:=by obtain⟨l,d,h⟩:=h;obtain⟨k,h0,_⟩:=J6 (Yc _ m _ ad l) 0 rfl h;obtain⟨c,h1,_⟩:=J6 (Yc _ m _ ad l) 1 rfl h;exact⟨l,d,h0.1,c,h1⟩
theorem Yu.blk(h:Yu m ad w F b f):Qh w b #[.map (some m),.int .u64 f.mark] 212:=by obtain⟨l,d,c,_⟩:=h.coll;exact c
theorem Yu.nodup(h:Yu m ad w F b f):(f.all.map Jh.id).Nodup:=by obtain⟨l,d,_,G,c⟩:=h.coll;exact((d.map _).nodup_iff).1 c.nodup
theorem Jc.aE{i:Int}{x:Jh}(h:f.at i=some x):x∈f.all∧x.id=i:=Y3 (key:=Jh.id) h
theorem Yu.mem(h:Yu m ad w F b f){x:Jh}(hx:x∈f.all):
  ∃G:Fp,Vj w G (ad x.id) x∧(∀k,G k→F k∧k≠b)∧∀w' x',x'.id=x.id→Vj w' (Qn G w w') (ad x.id) x'→Qc G w w'→Yu m ad w' (Qn F w w') b (f.set x')∧Qc F w w':=by
 obtain⟨l,R,hs⟩:=h;obtain⟨hb,U,H,h1,h2,B,h4,J⟩:=hs;obtain⟨V,k1,k2,_,k3⟩:=Xv 0 (P:=fun w G=>Yn Jh.id Vj w G m ad l) (L:=[fun w G=>Yn Jh.id Vj w G m ad l]) (by intro P K;simp only[Zu,List.not_mem_nil,or_false]at K;subst K;exact Sm Vj.obj _ _ _) rfl h2;obtain⟨G,g1,z,g3⟩:=k1.focus Vj.obj (R.mem_iff.2 hx);have q:∀k,G k→F k:=fun k c=>J k (k2 k (z k c).1);have E:∀k,G k→k≠b:=fun k c e=>by subst e;exact B _ h1.2.1 (k2 _ (z _ c).1)
 refine⟨G,g1,fun k c=>⟨q k c,E k c⟩,fun w' x' I hm d=>?_⟩;have u:Qc V w w':=d.sub fun k c=>(z k c).1;have Z:Qc H w w':=u.sub k2;have e1:=k3 w' (fun w G=>Yn Jh.id Vj w G m ad (Lg Jh.id x' l)) u (g3 w' x' I hm d);refine⟨⟨Lg Jh.id x' l,R.map _,?_⟩,d.sub q⟩;refine Q7 (G:=U) (H:=Qn H w w') ((Ks _ _ _).aB h1 Z B) e1 ?_ (fun k c=>.inl (h4 k c)) (fun k c=>Qn.mono J k c) (hb.ext (d.sub q));exact Jl.extR B ((Ks _ _ _).bd h1)
theorem Yu.marked(h:Yu m ad w F b f){n:Nat}(hc:Qc (fun k=>k=b) w w')(c:Qh w' b #[.map (some m),.int .u64 n] 212):Yu m ad w' (Qn F w w') b ⟨f.all,n⟩∧Qc F w w':=by obtain⟨l,d,h⟩:=h;have:=(Xv 0 (Yc b m f.mark ad l) rfl h).cells hc c;exact⟨⟨l,d,this.1⟩,this.2⟩
theorem Yu.memB(h:Yu m ad w F b f){x:Jh}(d:x∈f.all):∃p H,Qh w (ad x.id) (Pp x p) 215∧Yv w H p x.run∧ad x.id≠b:=by obtain⟨G,h1,c,_⟩:=h.mem d;obtain⟨p,H,a,b',_⟩:=h1.ex;exact⟨p,H,a,b',(c _ h1.own).2⟩
theorem Yu.memC'(h:Yu m ad w F b f){x x':Jh}{p:Nat}(J:x∈f.all)(q:x'.id=x.id)(hr:x'.run=x.run)(u:Qh w (ad x.id) (Pp x p) 215)
  (hc:Qc (fun k=>k=ad x.id) w w') (I:Qh w' (ad x.id) (Pp x' p) 215):Yu m ad w' (Qn F w w') b (f.set x')∧Qc F w w':=by
 obtain⟨G,h1,U,z⟩:=h.mem J;obtain⟨p',H,a,E,B⟩:=h1.ex;have e:p'=p:=by have c:=a;unfold Qh at c u;rw[u]at c;simp only[Option.some.injEq,Obj.cells.injEq,Pp,Array.mk.injEq,List.cons.injEq,ptr,Value.pointer.injEq,Addr.mk.injEq]at c;exact c.1.2.2.1.1.symm
 subst e;have d:Yv w H p' x'.run:=hr▸E;obtain⟨K,R⟩:=O1.cell (x':=x') h1 d B runP hc I;exact z w' x' q K R
theorem Yu.memR(h:Yu m ad w F b f){x:Jh}(z:x∈f.all):
  ∃(p:Nat)(G:Fp),Qh w (ad x.id) (Pp x p) 215∧Yv w G p x.run∧∀w' r,Yv w' (Qn G w w') p r→Qc G w w'→Yu m ad w' (Qn F w w') b (f.set {x with run:=r})∧Qc F w w':=by
 obtain⟨G,h1,I,d⟩:=h.mem z;obtain⟨p,H,a,k,c⟩:=h1.ex;refine⟨p,H,a,k,fun w' r hr hc=>?_⟩;have q:Qh w' (ad x.id) (Pp {x with run:=r} p) 215:=hc.blk a (fun u=>(c _ u).2 rfl);obtain⟨B,E⟩:=O1.made (x':={x with run:=r}) h1 c runP hc hr (Zg _ _) q;exact d w' {x with run:=r} rfl B E
def Qk3(ad:Int→Nat)(f:Jc)(i:Int):Value:=atP ad i (f.at i)
theorem Yu.at_any(h:Yu m ad w F b f)(i:Int):Cl 189 #[ptr b,.int .i64 i] w fun e w'=>e=.returned (Qk3 ad f i)∧w=w':=by obtain⟨l,k,d,G,c⟩:=h.coll;have:=Qb2 d c i;unfold Qk3;rw[Jc.at_eq k c.nodup];exact this
end
theorem Qjh{w}{F:Fp}{b:Nat}{f:Jc}(h:J0 w F b f)(i:Int):
  Cl 166 #[ptr b,.int .i64 i] w fun e w'=>e=.returned (.tuple #[])∧J0 w' (Qn F w w') b (f.sleep i)∧Qc F w w':=by
 obtain⟨m,ad,u⟩:=h.addr;have q:=O (u.at_any i);unfold Jc.sleep;unfold Qk3 at q;cases z:f.at i with
 |none=> have d:=O (u.same (Zg Qb w));rw[z]at q;dsimp only[atP]at q⊢;unfold ptr at*;clear h u z;go_enter func166,ntmps166;go_wp2_with fail;refine Zy q ?_;rintro w1 rfl;go_wp2;refine bodyPost_end (by simp[*,results,Tryz.results166,go_sem]) rfl ⟨rfl,d.o.1.is,d.o.2⟩
 |some x=>
  obtain⟨E,rfl⟩:=Jc.aE z;obtain⟨p,H,B,_,_⟩:=u.memB E;have I:=O B;have d:Hi (∀w',Qc (fun k=>k=ad x.id) w w'→Qh w' (ad x.id) (Pp {x with aL:=false} p) 215→J0 w' (Qn F w w') b (f.set {x with aL:=false})∧Qc F w w'):=O (fun w' hc J=>by
   obtain⟨a,c⟩:=u.memC' (x':={x with aL:=false}) E rfl rfl I.o hc J;exact⟨a.is,c⟩)
  obtain⟨K,a1,R,U⟩:=X9 B;have z0:=B.frozen 3;rw[z]at q;dsimp only[atP]at q⊢;unfold ptr at*;clear h u z B E;go_enter func166,ntmps166;go_wp2_with fail;refine Zy q ?_;rintro w1 rfl;go_wp2;refine bodyPost_end (by simp[*,results,Tryz.results166,go_sem]) rfl ⟨rfl,d.o _ (by(repeat' (first|(with_reducible first|exact Zg _ _|assumption|refine Zh ?_ _|refine Zi ?_ _|refine Zj ?_|refine Zk ?_ _ ?_|(apply Or.inl;rfl))|(apply Or.inl;simp;done)|(apply Or.inr;simp;first|done|omega)))) (I.o.set' 3 _ rfl)⟩
theorem Qb3{w}{F:Fp}{b:Nat}{f:Jc}(h:J0 w F b f)(i:Int):
  Cl 173 #[ptr b,.int .i64 i] w fun e w'=>e=.returned (.bool (f.at i).isSome)∧J0 w' (Qn F w w') b (f.drop i)∧Qc F w w':=by
 obtain⟨m,ad,I⟩:=h.addr;have q:=O (I.at_any i);unfold Qk3 at q;cases E:f.at i with
 |none=>
  have e:f.drop i=f:=by
   unfold Jc.drop;have:(f.all.filter fun m=>!decide (m.id=i))=f.all:=List.filter_eq_self.2 fun y hy=>by have:=Lz (key:=Jh.id) E y hy;simpa using this
   rw[this]
  have c:=O (I.same (Zg Qb w));rw[e];rw[E]at q;dsimp only[atP,Option.isSome_none]at q⊢;unfold ptr at*;clear h I E e;go_enter func173,ntmps173;go_wp2_with fail;refine Zy q ?_;rintro w1 rfl;go_wp2;go_ret;exact⟨rfl,c.o.1.is,c.o.2⟩
 |some x=>
  obtain⟨l,Z,hs⟩:=I;have J:=(J6 (Yc b m f.mark ad l) 0 rfl hs);obtain⟨G0,J,_⟩:=J;obtain⟨G,z,V,R,d⟩:=Xv 1 (Yc b m f.mark ad l) rfl hs;obtain⟨w',aa,B,u⟩:=Di (P:=prog) z.map underlying210 underlying3 3 0 i;have c:Hi (J0 w' (Qn F w w') b (f.drop i)∧Qc F w w'):=O (by
   have K:Qc G w w':=u.sub fun k U=>U▸z.at_;have h1:Yn Jh.id Vj w' (Qn G w w') m ad (Kp Jh.id i l):=(z.del Vj.obj i B u).more (fun k U=>.inl U) (z.bd.ext K);exact⟨⟨m,ad,Kp Jh.id i l,Z.filter _,d w' (fun w G=>Yn Jh.id Vj w G m ad (Kp Jh.id i l)) K h1⟩,K.sub V⟩)
  obtain⟨a0,a1⟩:=Q4 J.1;rw[E]at q;dsimp only[atP,Option.isSome_some]at q⊢;unfold ptr at*;clear h E hs d V R z B u J Z;go_enter func173,ntmps173;go_wp2_with fail;refine Zy q ?_;rintro w1 rfl;go_wp2;go_ret;exact⟨rfl,c.o.1,c.o.2⟩
end
section
attribute [local go_sem] Qp
attribute [local go_sem ↓] X8 Yd
theorem Jc.set_set(f:Jc){a b:Jh}(h:a.id=b.id):(f.set a).set b=f.set b:=by
 unfold Jc.set;simp only[List.map_map,Jc.mk.injEq,and_true];refine List.map_congr_left fun x _=>?_;simp only[Function.comp];by_cases c:x.id=a.id;·rw[if_pos c,if_pos h,if_pos (c.trans h)]
 ·rw[if_neg c]
theorem Jc.mem_set{f:Jc}{x a:Jh}(c:x∈f.all)(h:a.id=x.id):a∈(f.set a).all:=Z3.2 ⟨x,c,if_pos h.symm⟩
theorem Qmv{w}{b q mark:Nat}{u v0 v1 v2 v3:Value}(d:Qh w b #[u,.int .u64 mark] 212)(k:Qh w q #[v0,v1,v2,v3] 215)(c:q≠b)(v:Nat):
  Cl 200 #[ptr b,ptr q,.int .u64 v] w fun e w'=>e=.returned (.tuple #[])∧w'=(w.setCell ⟨q,1,none⟩ (.int .u64 v)).setCell ⟨b,1,none⟩ (.int .u64 ((max mark v:Nat):Int)):=by
 obtain⟨z,a1⟩:=Q4 (d.other (a:=⟨q,1,none⟩) (.int .u64 v) c);have z0:=(d.other (a:=⟨q,1,none⟩) (.int .u64 v) c).frozen 1;have K:=k.frozen 1;obtain⟨B,E,I,J⟩:=X9 k;have e:max (mark:Int) (v:Int)=((max mark v:Nat):Int):=by omega
 rw[←e];unfold ptr at*;clear d k e;go_enter func200,ntmps200;go_wp2;refine bodyPost_end (by simp[*,results,Tryz.results200,go_sem]) rfl ⟨rfl,?_⟩;first|rfl|simp
theorem Yu.madeW{m:Nat}{ad:Int→Nat}{w w'}{F:Fp}{b:Nat}{f:Jc}(h:Yu m ad w F b f){x:Jh}(d:x∈f.all)(v:Nat)
  (B:w'=(w.setCell ⟨ad x.id,1,none⟩ (.int .u64 v)).setCell ⟨b,1,none⟩ (.int .u64 ((max f.mark v:Nat):Int))):Yu m ad w' (Qn F w w') b (f.made x v)∧Qc F w w':=by
 subst B;obtain⟨p,H,c,_,z⟩:=h.memB d;obtain⟨h1,k⟩:=h.memC' (x':={x with v:=v}) d rfl rfl c ((Zg _ w).setCell (a:=⟨ad x.id,1,none⟩) (.int .u64 v) (.inl rfl)) (c.set' 1 _ rfl);obtain⟨u,q⟩:=h1.marked (n:=max f.mark v) ((Zg _ _).setCell (a:=⟨b,1,none⟩) (.int .u64 ((max f.mark v:Nat):Int)) (.inl rfl)) (h1.blk.set' 1 _ rfl);exact(Yu.obj m ad).two u ((Yu.obj m ad).bd h) k q
theorem Qb4{m:Nat}{ad:Int→Nat}{w}{F:Fp}{b:Nat}{f:Jc}(h:Yu m ad w F b f){x:Jh}(d:x∈f.all)(v:Nat):
  Cl 200 #[ptr b,ptr (ad x.id),.int .u64 v] w fun e w'=>e=.returned (.tuple #[])∧Yu m ad w' (Qn F w w') b (f.made x v)∧Qc F w w':=by
 obtain⟨p,H,k,_,c⟩:=h.memB d;refine Zz (Qmv h.blk k c v) ?_;intro w1 q;exact⟨rfl,h.madeW d v q⟩
theorem Qmu{w}{F:Fp}{b:Nat}{f:Jc}(h:J0 w F b f)(hN:∀x∈f.all,x.total≤Xw∧x.run.l.length<1099511627776)(i:Int)(g:Nat)(hg:g<18446744073709551616):
  Cl 163 #[ptr b,.int .i64 i,.int .u64 g] w fun e w'=>e=.returned (.tuple #[])∧J0 w' (Qn F w w') b (f.gain i g)∧Qc F w w':=by
 obtain⟨m,ad,I⟩:=h.addr;have E:=O (I.at_any i);unfold Jc.gain;unfold Qk3 at E;cases Z:f.at i with
 |none=> have c:=O (I.same (Zg Qb w));rw[Z]at E;dsimp only[atP]at E⊢;unfold ptr at*;clear h I Z hN;go_enter func163,ntmps163;go_wp2_with fail;refine Zy E ?_;rintro w1 rfl;go_wp2;refine bodyPost_ret (results_none rfl _ _ _) rfl ⟨rfl,c.o.1.is,c.o.2⟩
 |some x=>
  obtain⟨V,rfl⟩:=Jc.aE Z;obtain⟨K,ab⟩:=hN x V;obtain⟨p,H,z,_,ae⟩:=I.memB V;obtain⟨T,hT⟩:=Zx (x.total+min g (Xw-x.total));have aa:T≤Xw:=by omega
  have e1:IntKind.u64.wrap (4611686018427387904-(x.total:Int))=((Xw-x.total:Nat):Int):=by rw[IntWalk.u64_in _ (by have:=Yz;omega)];have:=Yz;omega
  have e2:min (g:Int) ((Xw-x.total:Nat):Int)=((min g (Xw-x.total):Nat):Int):=by omega
  have e3:IntKind.u64.wrap ((x.total:Int)+((min g (Xw-x.total):Nat):Int))=(T:Int):=by rw[IntWalk.u64_in _ (by have:=Yz;omega)];omega
  have HM:=O z;obtain⟨W,hW⟩:=Zx ((w.setCell ⟨ad x.id,0,none⟩ (.int .u64 T)).drew);have U:Hi (Yu m ad W (Qn F w W) b (f.set {x with total:=T})∧Qc F w W):=O (by
   rw[hW];exact I.memC' (x':={x with total:=T}) V rfl rfl z ((Zg (fun k=>k=ad x.id) w).setCell (a:=⟨ad x.id,0,none⟩) (.int .u64 T) (.inl rfl)).drew (z.set' 0 _ rfl).drew)
  have BW:Hi (Qh W (ad x.id) (Pp {x with total:=T} p) 215):=O (by rw[hW];exact(z.set' 0 _ rfl).drew);have SS:=O (f.set_set (a:={x with total:=T}) (b:={{x with total:=T}with v:=x.run.reach T}) rfl);have MM:=O (Jc.mem_set (a:={x with total:=T}) V rfl);have af:=O ((Yu.obj m ad).bd I);rw[Z]at E;dsimp only[atP]at E⊢;rw[←hT];rcases Bool.eq_false_or_eq_true x.aL with d|d
  rotate_left
  ·rw[if_neg (by rw[d];decide)];obtain⟨a0,a1,a2,a3⟩:=X9 z.drew;have z0:=z.drew.frozen 0;obtain⟨d0,d1,d2,d3⟩:=X9 BW.o;simp only[d]at a3 d3;have c:=O U.o;generalize Xw-x.total=u at e1 e2 e3;generalize min g u=u2 at e2 e3;unfold ptr at*;clear h I Z z V K hT aa hN d ae;go_enter func163,ntmps163;go_wp2_with fail;refine Zy E ?_;rintro w1 rfl;go_wp2_with fail;refine Qj [(0,0),(0,1),(0,2),(0,3),(0,4),(0,5),(0,6),(0,7),(0,8),(0,9),(0,10),(0,11),(0,12),(0,13),(2,14)] Zq (by kernel_rfl) (fun _ _ _ _ _ h=>h) ?_;simp only[Jk,Zf,Ze,Zd];iterate 14 (refine Jq (by kernel_rfl) (by go_simp;try rfl) ?_)
   refine J7 ?_;go_wp2_with fail;refine Jo ?_;rw[←hW];clear a0 a1 a2 a3 z0 hW;go_wp2_with fail;refine bodyPost_end (by simp[*,results,Tryz.results163,go_sem]) rfl ⟨rfl,c.o.1.is,c.o.2⟩
  ·rw[if_pos d];obtain⟨a0,a1,a2,a3⟩:=X9 z.drew;have z0:=z.drew.frozen 0;obtain⟨q,G,R,J,_⟩:=U.o.1.memR MM.o;obtain⟨_,_,_,d3⟩:=X9 R;obtain⟨g0,g1,g2,g3⟩:=X9 R.drew;have HR:=O (fun w'(hc:Qc Qb W w')=>Ru (runP.aB J hc (Jl.none G)) ab T (by have:=Yz;omega));have c:Hi (∀w2,Qc Qb W w2→∀w3,Yu m ad w3 (Qn (Qn (Qn F w W) W w2) w2 w3) b ((f.set {x with total:=T}).made {x with total:=T} (x.run.reach T))→Qc (Qn (Qn F w W) W w2) w2 w3→J0 w3 (Qn F w w3) b (f.made {x with total:=T} (x.run.reach T))∧Qc F w w3):=O (by
    intro w2 B w3 h3 c3;obtain⟨s1,s2⟩:=U.o.1.same B;obtain⟨t1,t2⟩:=(Yu.obj m ad).two h3 ((Yu.obj m ad).bd U.o.1) s2 c3;obtain⟨u1,u2⟩:=(Yu.obj m ad).two t1 af.o U.o.2 t2;have e:(f.set {x with total:=T}).made {x with total:=T} (x.run.reach T)=f.made {x with total:=T} (x.run.reach T):=by unfold Jc.made;rw[SS.o];rfl
    rw[e]at u1;exact⟨u1.is,u2⟩)
   have ag:Hi (∀w2,Qc Qb W w2→Yu m ad w2 (Qn (Qn F w W) W w2) b (f.set {x with total:=T})):=O (fun w2 B=>(U.o.1.same B).1);simp only[d]at a3 d3;generalize hv:x.run.reach T=v at HR c⊢;generalize Xw-x.total=u at e1 e2 e3;generalize min g u=u2 at e2 e3;unfold ptr at*;clear h I Z z V K hT aa hN d ae R J hv;go_enter func163,ntmps163;go_wp2_with fail;refine Zy E ?_;rintro w1 rfl;go_wp2_with fail;refine Qj [(0,0),(0,1),(0,2),(0,3),(0,4),(0,5),(0,6),(0,7),(0,8),(0,9),(0,10),(0,11),(0,12),(0,13),(2,14)] Zq (by kernel_rfl) (fun _ _ _ _ _ h=>h) ?_;simp only[Jk,Zf,Ze,Zd];iterate 14 (refine Jq (by kernel_rfl) (by go_simp;try rfl) ?_)
   refine J7 ?_;go_wp2_with fail;refine Jo ?_;rw[←hW];clear a0 a1 a2 a3 z0 hW;go_wp2_with fail;refine Qj [(1,0),(1,1),(0,2),(0,3),(0,4),(0,5),(0,6),(0,7),(0,8),(0,9),(2,10),(2,11)] Zq (by kernel_rfl) (fun _ _ _ _ _ h=>h) ?_;simp only[Jk,Zf,Ze,Zd];iterate 2 (refine Q8 (by kernel_rfl) (fun wv=>by go_simp;try rfl) ?_;try simp only[Act.put,Za,Zc,Zb])
   iterate 8 (refine Jq (by kernel_rfl) (by go_simp;try rfl) ?_)
   clear d3 g0 g1 g2 g3;refine J7 ?_;go_wp2_with fail;refine Zz (HR.o _ (Zg _ W).drew) ?_;intro w2 B;replace B:=B.undrew;have ac:=ag.o _ B;have C2:=O B;clear B;go_wp2_with fail;refine J7 ?_;go_wp2_with fail;refine Zz (Qb4 ac (x:={x with total:=T}) MM.o v) ?_;rintro w3⟨h3,c3⟩;have FF:=O (c.o _ C2.o _ h3 c3);clear h3 c3 ac;go_wp2_with fail;refine Jo ?_;go_wp2_with fail;refine bodyPost_end (by simp[*,results,Tryz.results163,go_sem]) rfl ⟨rfl,FF.o⟩
end
section
attribute [local go_sem] Qp
theorem Wk(m:Nat)(w):(binOp .eql 210 (.map (some m)) (.map none)).run prog w=.ok (.bool false) w:=by kernel_rfl
attribute [local go_sem] Wk
theorem Yu.ne{m:Nat}{ad:Int→Nat}{w}{F:Fp}{b:Nat}{f:Jc}(h:Yu m ad w F b f):b≠m:=by obtain⟨l,z,u,G,H,h1,⟨_,q,_,k,_,_,d,_⟩,c,_⟩:=h;rintro rfl;exact c _ h1.2.1 (d _ k.at_)
theorem Qeh{w}{F:Fp}{b:Nat}{f:Jc}(h:J0 w F b f)(i:Int)(c:Jy)(hc:c.May):
  Cl 127 #[ptr b,.int .i64 i,cV c] w fun e w'=>(∃r,e=.returned (.bool r))∧J0 w' (Qn F w w') b (f.add i c)∧Qc F w w':=by
 obtain⟨W,hW⟩:=Zx (w.alloc (.cells #[.int .u64 c.f,.int .u64 c.l,.int .u64 c.r] 38));have C0:Hi (Qc Qb w W):=O (by rw[hW];exact(Zg _ _).alloc _);have B0:Hi (Qh W w.heap.size #[.int .u64 c.f,.int .u64 c.l,.int .u64 c.r] 38):=O (by rw[hW];exact Qh.new _ _ _);obtain⟨m,ad,J⟩:=h.addr;obtain⟨V,ag⟩:=J.same C0.o;have al:=O (J0.obj.bd h);have I:=O (V.at_any i);have HM:=O (fun w=>K8 c w);rw[decide_eq_true hc]at HM;unfold Jc.add;unfold Qk3 at I;cases hx:f.at i with
 |some x=> have E:=O V;have q:=V.blk;rw[hW]at q;obtain⟨a0,a1⟩:=Q4 q;clear q;rw[hx]at I;dsimp only[atP]at I⊢;unfold ptr cV at*;clear h V hx J ag;go_enter func127,ntmps127;go_wp2_with fail;rw[←hW]at a0 a1⊢;clear hW;refine Zy I ?_;rintro w1 rfl;go_wp2;go_ret;exact⟨⟨_,rfl⟩,E.o.is,C0.o.none⟩
 |none=>
  have HN:=O (fun w=>Cv c hc w);have ao:=O V.ne;obtain⟨l,hp,hs⟩:=V;obtain⟨G0,hB,_⟩:=J6 (Yc b m f.mark ad l) 0 rfl hs;obtain⟨G,K,hG,ae,B⟩:=Xv 1 (Yc b m f.mark ad l) rfl hs;have hB:=hB.1;have BB:=O hB;have am:=O K;have ai:Hn Jh.id i l=none:=by rw[←Jc.at_eq hp K.nodup];exact hx
  have q:=hB;rw[hW]at q;obtain⟨a0,a1⟩:=Q4 q;clear q;have E:Hi (∀w3 p H,Yv w3 H p (.new c)→(∀k,H k→W.heap.size≤k)→Qc Qb W w3→∀w4,w4=w3.alloc (.cells #[.int .u64 0,.int .u64 0,ptr p,.bool false] 215)→∃w5,(Instr.mapUpdate 210 (.map (some m)) (.int .i64 i) (ptr w3.heap.size)).run prog w4=.ok () w5∧J0 w5 (Qn F w w5) b ⟨f.all++[(⟨i,0,0,.new c,false⟩:Jh)],f.mark⟩∧Qc F w w5∧Qc (fun k=>k=m) w4 w5):=O (by
   rintro w3 p H Z hH U w4 rfl;have ac:Qc Qb w3 (w3.alloc (.cells #[.int .u64 0,.int .u64 0,ptr p,.bool false] 215)):=(Zg _ _).alloc _;have c4:=U.aA ac;obtain⟨w5,aj,u,c5⟩:=X6 (P:=prog) (K.map.aB c4 (fun h=>h)) underlying210 underlying3 i (ptr w3.heap.size);have Xg:W.heap.size≤w3.heap.size:=U.size;have hX:Vj (w3.alloc (.cells #[.int .u64 0,.int .u64 0,ptr p,.bool false] 215)) (Qn Qb W (w3.alloc (.cells #[.int .u64 0,.int .u64 0,ptr p,.bool false] 215))) w3.heap.size (⟨i,0,0,.new c,false⟩:Jh):=
    O1.new (p:=p) (G:=H) (runP.aB Z ac (Jl.none _)) hH runP (Qh.new _ _ _) Xg (fun d=>absurd (runP.bd Z _ d) (by omega))
   have an:=K.aB Vj.obj c4 (Jl.none G);have R:=an.put Vj.obj hX (fun k a b=>by
    have:=ae k (hG k b);rcases(Qr k).1 a with⟨q,_⟩;omega) (key:=Jh.id) ai u c5
   have cG:Qc G W w5:=(c4.none (F:=G)).aA (c5.sub fun k d=>d▸K.at_);have h5:=B w5 (fun w G=>Yn Jh.id Vj w G m (fun j=>if j=i then w3.heap.size else ad j) (l++[(⟨i,0,0,.new c,false⟩:Jh)])) cG
    (R.more (fun k d=>d.elim .inl (fun d=>.inr ⟨((Qr k).1 d).1,Nat.lt_of_lt_of_le ((Qr k).1 d).2 c5.size⟩)) (K.bd.ext cG))
   have cF:Qc (Qn F w W) W w5:=cG.sub hG;obtain⟨r1,r2⟩:=J0.obj.two (F:=F) (w:=w) (w1:=W) (w2:=w5) (b:=b) (z:=⟨f.all++[(⟨i,0,0,.new c,false⟩:Jh)],f.mark⟩) ⟨m,(fun j=>if j=i then w3.heap.size else ad j),l++[(⟨i,0,0,.new c,false⟩:Jh)],hp.append_right _,h5⟩ al.o C0.o.none cF;exact⟨w5,aj,r1,r2,c5⟩)
  rw[hx]at I;dsimp only[atP]at I⊢;unfold ptr cV at*;clear h hx hs B hG ae K hp J ag ai hB am;go_enter func127,ntmps127;go_wp2_with fail;rw[←hW]at a0 a1⊢;clear hW;refine Zy I ?_;rintro w1 rfl;obtain⟨b0,b1,b2⟩:=L6 B0.o;go_wp2_with fail;refine Zz (HM.o _) ?_;intro w2 c2;have C2:=O c2;obtain⟨d0,d1,d2⟩:=L6 (c2.blk B0.o (fun h=>h)).drew;clear c2 a0 a1 b0 b1 b2;go_wp2_with fail;have B2:=O (C2.o.blk BB.o (fun h=>h));refine Jp [(1,0),(1,1),(1,2),(1,3),(1,4),(0,5),(2,6),(0,7),(2,8),(3,9)] (fun wv=>Qc (fun k=>k=m) (w2) wv) Zq (by kernel_rfl) (fun _ _ _ _ _ h=>h) (by(repeat' (first|(with_reducible first|exact Zg _ _|assumption|refine Zh ?_ _|refine Zi ?_ _|refine Zj ?_|refine Zk ?_ _ ?_|(apply Or.inl;rfl))|(apply Or.inl;simp;done)|(apply Or.inr;simp;first|done|omega)))) ?_;simp only[Jk,Zf,Ze,Zd];iterate 5 (refine Qy (by kernel_rfl) (fun wv hv=>by(have zz:=hv.blk B2.o ao.o;obtain⟨y0,y1⟩:=Q4 zz);go_simp;try rfl) ?_;try simp only[Act.put,Za,Zc,Zb])
  refine Xe (by kernel_rfl) (by go_simp;try rfl) ?_;clear d0 d1 d2;refine Yb ?_;go_wp2_with fail;refine(HN.o _).mono ?_;rintro e w3⟨p,rfl,Z,U⟩;have aa:=O (U.undrew.none (F:=fun k=>k=m));have C3:=O (C2.o.aA U.undrew);have HR:=O Z;have ak:=O (fun k(d:Qn Qb w2.drew w3 k)=>show W.heap.size≤k from Zp C2.o.size ((Qr k).1 d).1);have ab:=O (E.o w3 p _ Z ak.o C3.o _ rfl);clear U Z;go_wp2_with fail;refine⟨aa.o,?_⟩;refine Xe (by kernel_rfl) (by go_simp;try rfl) ?_;refine Yb ?_;go_wp2_with fail;refine⟨aa.o.alloc _,?_⟩;obtain⟨w5,ap,ah,af,u⟩:=ab.o;have F5:=O ah;have C5:=O af;have M5:=O u;clear ah af u;refine Km ?_;go_wp2_with fail;refine Ky ?_;go_wp2;go_ret;exact⟨⟨_,rfl⟩,F5.o,C5.o⟩
end
section
open Go.Shelf
attribute [local go_sem] Oper.semAt_some Qp
theorem Le.far{T S:Fp}{W w1 w2}(h:Le T W w1)(hc:Qc S w1 w2)(d:∀k,S k→W.heap.size≤k):Le T W w2:=fun b o q h1 c=>by have Xg:=(Z2.1 h1).1;exact hc.heap (h b o q h1 c) (fun hs=>by have:=d b hs;omega)
theorem Kj.kpt{T:Fp}{w w'}{b r:Nat}{l left:List (Int×Value)}(h:Kj w b r l left)(k:Le T w w')(K:T b)(hr:T r):Kj w' b r l left:=by obtain⟨q,c,d,h1,u,z,B,E,I,J⟩:=h;exact⟨q,c,d,k b _ K h1 (.inr rfl),u,z,B,E,k r _ hr I (.inr rfl),J⟩
theorem O8{X:Type}{key:X→Int}{x:X}:∀{l:List X},(l.map key).Nodup→x∈l→l.Perm (x::Kp key (key x) l)
 |y::l,hn,c=>by
  simp only[List.map_cons,List.nodup_cons]at hn;rcases Zu.1 c with rfl|c
  ·have:Kp key (key x) (x::l)=l:=by unfold Kp;rw[List.filter_cons_of_neg (by simp)];refine List.filter_eq_self.2 fun z k=>?_;have:key z≠key x:=fun e=>hn.1 (Z3.2 ⟨z,k,e⟩);simpa using this
   rw[this]
  ·have d:key y≠key x:=fun e=>hn.1 (Z3.2 ⟨x,c,e.symm⟩);have:Kp key (key x) (y::l)=y::Kp key (key x) l:=by unfold Kp;rw[List.filter_cons_of_pos (by simpa using d)]
   rw[this];exact((O8 hn.2 c).cons y).trans (.swap x y _)
theorem Hr{X:Type}{key:X→Int}{ad:Int→Nat}(i:Int)(l:List X):Vu i (Xy key ad l)=Xy key ad (Kp key i l):=by simp only[Xy,Kp,Vu,List.filter_map];rfl
def Qt1(ad:Int→Nat){l:List Jh}(x:{x:Jh//x∈l}):Array Value:=#[.int .i64 x.1.id,ptr (ad x.1.id)]
structure Ah(w:World)(b m:Nat)(ad:Int→Nat)(pr:Int→Nat)(l:List Jh)(mark:Nat):Prop where
 blk:Qh w b #[.map (some m),.int .u64 mark] 212
 map:Xq w m (Xy Jh.id ad l)
 mem:∀x∈l,Qh w (ad x.id) (Pp x (pr x.id)) 215
theorem Ah.kpt{T:Fp}{w w'}{b m:Nat}{ad pr:Int→Nat}{l:List Jh}{mark:Nat}(h:Ah w b m ad pr l mark)(d:Le T w w')(z:T b)(B:T m)(ha:∀x∈l,T (ad x.id)):Ah w' b m ad pr l mark where
 blk:=d.blk h.blk z
 map:=by obtain⟨q,c,h1,u⟩:=h.map;exact⟨q,c,d m _ B h1 (.inr rfl),u⟩
 mem:=fun x k=>d.blk (h.mem x k) (ha x k)
theorem Ah.aB{S:Fp}{w w'}{b m:Nat}{ad pr:Int→Nat}{l:List Jh}{mark:Nat}(h:Ah w b m ad pr l mark)(c:Qc S w w')(k:¬S b)(q:¬S m)(ha:∀x∈l,¬S (ad x.id)):Ah w' b m ad pr l mark where
 blk:=c.blk h.blk k
 map:=h.map.aB c q
 mem:=fun x d=>c.blk (h.mem x d) (ha x d)
def Dq(w:World)(r:Nat):Nat:=match w.heap[r]? with
 |some (.mapIter (some b) _ seen _)=>(match w.heap[b]? with
  |some (.map es _)=>(leftOf es seen).size
  |_=>0)
 |_=>0
theorem Kj.left_eq{w}{b r:Nat}{l left:List (Int×Value)}(h:Kj w b r l left):Dq w r=left.length:=by
 obtain⟨k,d,c,h1,z,B,E,I,q,J,u,K⟩:=h;have:(leftOf k c).size=left.length:=by simpa using congrArg List.length u
 simp[Dq,q,h1,this]
theorem Qc.grownRow{w w'}{r:Nat}(h:Qc (fun k=>k=r) w w'):w.grownBy w' (some r):=⟨h.os,h.tape,h.output,h.size,fun k d c=>h.block k d (fun e=>c (by rw[e]))⟩
theorem Qhf(w:World)(o:Obj):w.grownBy (w.alloc o) none:=⟨rfl,rfl,rfl,by simp,fun k c _=>Below.heap_alloc _ _ _ c⟩
theorem Kj.walk{w}{b r:Nat}{l left:List (Int×Value)}(h:Kj w b r l left):∃o:Obj,w.heap[r]? =some o∧o.isWalk=true:=by obtain⟨q,c,d,h1,u,z,B,E,k,_⟩:=h;exact⟨_,k,rfl⟩
theorem Qu8(n l' Bf b m mark:Nat)(hn:1≤n)(T:Fp)(ad pr:Int→Nat)(l:List Jh)(an:(l.map Jh.id).Nodup)(J Jx:List {x:Jh//x∈l}→World→Prop)(W:World)
  (hJ:AbidesFrom W.heap.size J) (hB:Qh W Bf #[ptr b] 141) (hV:Ah W b m ad pr l mark)
  (aw:T Bf) (av:T b) (ak:T m) (aj:∀x∈l,T (ad x.id)) (al:∀k,W.heap.size≤k→T k)
  (hY:∀c x W1,J c W1→c.length<l.length→YieldAt Fence.wide (n-1) prog l' (Qt1 ad x) W1 fun e W'=>
   (e=.returned (.bool true)∧J (c++[x]) W'∧Le T W1 W')∨(e=.returned (.bool false)∧Jx (c++[x]) W')) (h0:J [] W):
  CallsIn Fence.wide n prog 238 #[.func (.yield l') #[] #[],.pointer (some ⟨Bf,0,none⟩)] W fun e W'=>(∃v,e=.returned v)∧
   ((∃ys,(ys.map (·.1)).Perm (l.filter (·.aL))∧J ys W')∨(∃c,True∧Jx c W')):=by
 obtain⟨o,a1,B⟩:=Er (P:=prog) hV.map underlying210;have c0:=Jf hB;obtain⟨c1,c2⟩:=Q4 hV.blk;have ah:Hi (∃q c,Kj (W.alloc o) m W.heap.size (Xy Jh.id ad l) (Xy Jh.id ad q)∧q.Sublist l∧(c.map (·.1)++q.filter (·.aL)).Perm (l.filter (·.aL))∧c.length+q.length≤l.length∧J c (W.alloc o)∧Le T W (W.alloc o)):=
  O ⟨l,[],B,List.Sublist.refl _,List.Perm.refl _,by simp,hJ _ _ _ none h0 (Qhf W o) (fun r e=>by cases e),Le.far (fun b o _ h _=>h:Le T W W) ((Zg Qb W).alloc o) (fun _ h=>h.elim)⟩
 have HV:=O hV;have HJ:=O hJ;have HY:=O hY;have au:=O aj;have HT:=O (Zt ak al);unfold ptr at*;clear hB hV hJ hY B h0 aw av ak aj al;refine callsIn_of_wp func238 rfl trivial ?_ rfl;simp only[ntmps238,List.size_toArray,Zm,List.length_nil,Nat.reduceAdd,Nat.reduceSub,Array.replicate_succ,Array.replicate_zero,List.push_toArray,List.append_toArray,List.nil_append,List.cons_append];gi_wp2;gi_loopw [3,4] (fun _ _ wr=>∃q c,Kj wr m W.heap.size (Xy Jh.id ad l) (Xy Jh.id ad q)∧q.Sublist l∧(c.map (·.1)++q.filter (·.aL)).Perm (l.filter (·.aL))∧c.length+q.length≤l.length∧J c wr∧Le T W wr) (fun _ _ wr=>Dq wr W.heap.size);case atStart=>exact ah.o
 case round=>
  obtain⟨q,c,B,z,d,V,hj,hk⟩:=hrel;rcases Rx (P:=prog) B 0 with⟨h0,hr⟩|⟨p,hp,w2,hr,u,aa,am⟩
  ·have ay:q=[]:=by
    cases q with
    |nil=>rfl
    |cons a l=>cases h0
   subst ay;have aq:=O (show(c.map (·.1)).Perm (l.filter (·.aL)) by simpa using d);have ar:=O hj;clear B z d V hj hk;gi_wp2;go_end0;exact⟨⟨_,rfl⟩,.inl ⟨c,aq.o,ar.o⟩⟩
  ·obtain⟨x,hx,rfl⟩:=Z3.1 hp;have I:=z.subset hx;have R:Le T W w2:=Le.far hk aa (fun k e=>by rw[e];exact Zv _);have ab:J c w2:=HJ.o c wr w2 (some W.heap.size) hj aa.grownRow (fun r e=>by cases e;exact⟨Zv _,B.walk⟩);have hM:Qh w2 (ad x.id) (Pp x (pr x.id)) 215:=R.blk (HV.o.mem x I) (au.o x I);obtain⟨d0,d1,d2,d3⟩:=X9 hM;have Xg:Dq w2 W.heap.size<Dq wr W.heap.size:=by rw[u.left_eq,B.left_eq,Hr];have:=(O8 (key:=Jh.id) (an.sublist (z.map _)) hx).length_eq;simp only[Xy,List.length_map,Zm]at*;omega
   dsimp only at u;rw[Hr]at u;have K:=O8 (key:=Jh.id) (an.sublist (z.map _)) hx;have E:(Kp Jh.id x.id q).Sublist l:=List.filter_sublist.trans z;dsimp only at hr am;unfold ptr at hr am;cases ac:x.aL with
   |false=>
    rw[ac]at d3;have ag:Hi (∃q c,Kj w2 m W.heap.size (Xy Jh.id ad l) (Xy Jh.id ad q)∧q.Sublist l∧(c.map (·.1)++q.filter (·.aL)).Perm (l.filter (·.aL))∧c.length+q.length≤l.length∧J c w2∧Le T W w2):=O (by
     refine⟨Kp Jh.id x.id q,c,u,E,?_,?_,ab,R⟩;·refine(List.Perm.append_left (c.map (·.1)) ?_).trans d;have:=(K.filter (·.aL)).symm;rwa[List.filter_cons_of_neg (by rw[ac];decide)]at this
     ·have:=K.length_eq;simp at this;omega)
    have LT:=O Xg;clear B z d V hj hk u aa R ab hM Xg K E hx I hp;gi_wp2;refine⟨fun _ h=>(by cases h),?_⟩;gi_wp2;go_roundw;case rel=>exact ag.o
    case measure=>exact LT.o
   |true=>
    rw[ac]at d3;have ao:c.length<l.length:=by have:=List.length_pos_of_mem hx;omega
    obtain⟨fn,a0,ap,az,hy,hR⟩:=HY.o c ⟨x,I⟩ w2 ab ao;have HR:=O hR;have ag:Hi (∀Z,J (c++[⟨x,I⟩]) Z→Le T w2 Z→(∃q c,Kj Z m W.heap.size (Xy Jh.id ad l) (Xy Jh.id ad q)∧q.Sublist l∧(c.map (·.1)++q.filter (·.aL)).Perm (l.filter (·.aL))∧c.length+q.length≤l.length∧J c Z∧Le T W Z)∧Dq Z W.heap.size<Dq wr W.heap.size):=O (by
     intro Z ax U;have af:=u.kpt U HT.o.1 (HT.o.2 _ (Zv _));refine⟨⟨Kp Jh.id x.id q,c++[⟨x,I⟩],af,E,?_,?_,ax,R.trans U⟩,?_⟩
     ·have e:(c++[(⟨x,I⟩:{x:Jh//x∈l})]).map (·.1)++(Kp Jh.id x.id q).filter (·.aL)=c.map (·.1)++(x::(Kp Jh.id x.id q).filter (·.aL)):=by simp
      rw[e];refine(List.Perm.append_left (c.map (·.1)) ?_).trans d;have:=(K.filter (·.aL)).symm;rwa[List.filter_cons_of_pos (by rw[ac])]at this
     ·have:=K.length_eq;simp at this⊢;omega
     ·rw[af.left_eq,←u.left_eq];exact Xg)
    unfold Qt1 ptr at hy;clear B z d V hj hk u aa R ab hM Xg K E hx hp hR ao;gi_wp2;refine HR.o.mono ?_;clear hy;rintro e Z(⟨rfl,ai,U⟩|⟨rfl,ae⟩)
    ·have R3:=O (ag.o Z ai U);clear ai U;gi_wp2;go_roundw;case rel=>exact R3.o.1
     case measure=>exact R3.o.2
    ·have X3:=O ae;clear ae;gi_wp2;refine bodyPost_ret (results_none rfl _ _ _) rfl ?_;exact⟨⟨_,rfl⟩,.inr ⟨_,trivial,X3.o⟩⟩
theorem Qs0(n c b m mark:Nat)(hn:1≤n)(T:Fp)(ad pr:Int→Nat)(l:List Jh)(E:(l.map Jh.id).Nodup)(w)(K:Qh w c #[ptr b] 141)(U:Ah w b m ad pr l mark)
  (u:T c) (q:T b) (z:T m) (d:∀x∈l,T (ad x.id)) (B:∀k,w.heap.size≤k→T k):
  SeqStopsK Fence.wide n prog 238 #[.pointer (some ⟨c,0,none⟩)] (Qt1 ad (l:=l)) (Le T) (fun ys=>(ys.map (·.1)).Perm (l.filter (·.aL))) (fun _=>True) l.length w:=fun l' J I W hW R _ V h0=>
 Qu8 n l' c b m mark hn T ad pr l E J I W R ((Qc.ofBelow (S:=Qb) hW).blk K (fun h=>h)) (U.aB (Qc.ofBelow (S:=Qb) hW) (fun h=>h) (fun h=>h) (fun _ _ h=>h)) u q z d (fun k Z=>B k (Zp hW.size Z)) V h0
theorem Qs1(b:Nat)(w):Cl 225 #[ptr b] w fun e w'=>e=.returned (.func (.func 238) #[] #[.pointer (some ⟨w.heap.size,0,none⟩)])∧w'=w.alloc (.cells #[ptr b] 141):=by unfold ptr;go_enter func225,ntmps225;go_wp2;go_ret;exact⟨rfl,rfl⟩
end
section
open Go.Shelf
attribute [local go_sem] Oper.semAt_some Qp
attribute [local go_sem ↓] X8 Yd
attribute [local irreducible] Uo Lh
theorem Yu.view{m:Nat}{ad:Int→Nat}{w}{F:Fp}{b:Nat}{f:Jc}(h:Yu m ad w F b f):∃pr l,l.Perm f.all∧(l.map Jh.id).Nodup∧Ah w b m ad pr l f.mark:=by
 obtain⟨l,z,B,G,d⟩:=h.coll;have H:∀i:Int,∃p,∀x∈l,x.id=i→Qh w (ad x.id) (Pp x p) 215:=fun i=>by
  by_cases hi:∃x∈l,x.id=i;·obtain⟨x,c,hi⟩:=hi;obtain⟨p,_,E,_⟩:=h.memB (z.mem_iff.1 c);refine⟨p,fun y I q=>?_⟩;have e1:=Ls d.nodup c hi;have u:=Ls d.nodup I q;rw[e1]at u;obtain rfl:=Zs u;exact E
  ·exact⟨0,fun x c e=>(hi ⟨x,c,e⟩).elim⟩
 obtain⟨pr,k⟩:=Classical.axiomOfChoice H;exact⟨pr,l,z,d.nodup,B,d.map,fun x c=>k _ x c rfl⟩
def Ou(l:List Jh):Nat:=l.foldl (fun n m=>min n m.v) Qq
def Ln(l:List Jh):Nat:=l.foldl (fun n m=>max n m.v) 0
theorem Qhn(l:List Jh)(x:Jh):Ou (l++[x])=min (Ou l) x.v:=by simp[Ou]
theorem Qk7(l:List Jh)(x:Jh):Ln (l++[x])=max (Ln l) x.v:=by simp[Ln]
theorem F7{l l':List Jh}(h:l.Perm l'):Ou l=Ou l':=by unfold Ou;exact h.foldl_eq' (fun x _ y _ z=>by omega) _
theorem Qar{l l':List Jh}(h:l.Perm l'):Ln l=Ln l':=by unfold Ln;exact h.foldl_eq' (fun x _ y _ z=>by omega) _
theorem Cg:∀l:List Jh,Ou l≤Qq:=by
 have:∀(l:List Jh)(a:Nat),a≤Qq→l.foldl (fun n m=>min n m.v) a≤Qq:=by
  intro l;induction l with
  |nil=>exact fun a h=>h
  |cons x l c=>exact fun a h=>c _ (Zp (Nat.min_le_left _ _) h)
 exact fun l=>this l _ (Zv _)
theorem Qaq:∀l:List Jh,(∀x∈l,x.v≤Qq)→Ln l≤Qq:=by
 have:∀(l:List Jh)(a:Nat),a≤Qq→(∀x∈l,x.v≤Qq)→l.foldl (fun n m=>max n m.v) a≤Qq:=by
  intro l;induction l with
  |nil=>exact fun a h _=>h
  |cons x l d=>exact fun a h hl=>d _ (Nat.max_le.2 ⟨h,hl x (by simp)⟩) (fun y c=>hl y (by simp[c]))
 exact fun l h=>this l 0 (Nat.zero_le _) h
def R7(l:List Jh)(mark v:Nat):Nat:=if Ln l<Ou l then max v mark else max v (Ou l+(Ln l-Ou l)/2)
theorem Qst{f:Jc}{l:List Jh}(c:l.Perm (f.all.filter (·.aL)))(x:Jh):f.start x=R7 l f.mark x.v:=by unfold Jc.start R7;have e1:f.least=Ou l:=F7 c.symm;have d:f.most=Ln l:=Qar c.symm;rw[e1,d]
theorem Qpa{w}{s t:Nat}{a z v:Nat}(h1:Qh w s #[.int .u64 a] 29)(E:Qh w t #[.int .u64 z] 29)(q:s≠t):
  Cl 224 #[.int .u64 v,.pointer (some ⟨s,0,none⟩),.pointer (some ⟨t,0,none⟩)] w fun e w'=>e=.returned (.tuple #[])∧Qh w' s #[.int .u64 ((min a v:Nat):Int)] 29∧Qh w' t #[.int .u64 ((max z v:Nat):Int)] 29∧Qc (fun k=>k=s∨k=t) w w':=by
 have K:=O h1;have u:=O E;have e1:min (a:Int) (v:Int)=((min a v:Nat):Int):=by omega
 have Z:max (z:Int) (v:Int)=((max z v:Nat):Int):=by omega
 have V:=Jf h1.drew;have z1:=h1.drew.frozen 0;have d:=O q;clear h1 E q;go_enter func224,ntmps224;go_wp2_with fail;refine Jp [(0,0),(0,1),(0,2),(1,3),(1,4),(1,5),(2,6),(3,7)] (fun I=>Qc (fun k=>k=s) (w) I) Zq (by kernel_rfl) (fun _ _ _ _ _ h=>h) (by(repeat' (first|(with_reducible first|exact Zg _ _|assumption|refine Zh ?_ _|refine Zi ?_ _|refine Zj ?_|refine Zk ?_ _ ?_|(apply Or.inl;rfl))|(apply Or.inl;simp;done)|(apply Or.inr;simp;first|done|omega)))) ?_;simp only[Jk,Zf,Ze,Zd];iterate 3 (refine Xe (by kernel_rfl) (by go_simp;try rfl) ?_)
 iterate 3 (refine Qy (by kernel_rfl) (fun I R=>by(have U:=R.blk u.o d.o.symm;have y0:=Jf U);go_simp;try rfl) ?_;try simp only[Act.put,Za,Zc,Zb])
 refine Yb ?_;go_wp2_with fail;refine⟨by(repeat' (first|(with_reducible first|exact Zg _ _|assumption|refine Zh ?_ _|refine Zi ?_ _|refine Zj ?_|refine Zk ?_ _ ?_|(apply Or.inl;rfl))|(apply Or.inl;simp;done)|(apply Or.inr;simp;first|done|omega))),?_⟩;have b2:=((u.o).other (a:=⟨s,0,none⟩) (.int .u64 ((min a v:Nat):Int)) d.o).drew;have b1:=(K.o.set' 0 (.int .u64 ((min a v:Nat):Int)) rfl).drew;have y3:=(u.o.other (a:=⟨s,0,none⟩) (.int .u64 ((min a v:Nat):Int)) d.o).frozen 0;have y4:=Jf (u.o.other (a:=⟨s,0,none⟩) (.int .u64 ((min a v:Nat):Int)) d.o);have B:=O (b2.set' 0 (.int .u64 ((max z v:Nat):Int)) rfl);have c:=O (b1.other (a:=⟨t,0,none⟩) (.int .u64 ((max z v:Nat):Int)) d.o.symm);have J:Hi (Qc (fun k=>k=s∨k=t) w ((w.setCell ⟨s,0,none⟩ (.int .u64 ((min a v:Nat):Int))).drew.setCell ⟨t,0,none⟩ (.int .u64 ((max z v:Nat):Int)))):=O (((Zg _ w).setCell (a:=⟨s,0,none⟩) _ (.inl (.inl rfl))).drew.setCell (a:=⟨t,0,none⟩) _ (.inl (.inr rfl)));clear b1 b2;refine Km ?_;go_wp2_with fail;refine Ky ?_;go_wp2_with fail;refine bodyPost_end (by simp[*,results,Tryz.results224,go_sem]) rfl ⟨rfl,?_,?_,?_⟩;·exact c.o
 ·exact B.o
 ·exact J.o
theorem Qjj{w}{b m mark:Nat}{ad pr:Int→Nat}{l:List Jh}(hV:Ah w b m ad pr l mark)(aj:(l.map Jh.id).Nodup)(hb:∀y∈l,y.v≤Qq)(ap:mark≤Qq){x:Jh}(hx:x∈l):
  Cl 201 #[ptr b,ptr (ad x.id)] w fun e w'=>e=.returned (.int .u64 ((R7 (l.filter (·.aL)) mark x.v:Nat):Int))∧Qc Qb w w':=by
 have HU:=O (Qs1 b);refine callsIn_wide (n:=9).1 ?_;unfold ptr at HU⊢;refine callsIn_of_wp_marks func201 rfl trivial ?_;simp only[ntmps201,List.size_toArray,Zm,List.length_nil,Nat.reduceAdd,Nat.reduceSub,Array.replicate_succ,Array.replicate_zero,List.push_toArray,List.append_toArray,List.nil_append,List.cons_append];gi_wp2_with (refine⟨trivial,?_⟩;gi_at_call 225;refine(callsIn_wide.2 (HU.o _)).mono ?_;rintro e w1⟨rfl,rfl⟩);obtain⟨s,hs⟩:=Zx (w.heap.size);obtain⟨u,d⟩:=Zx (((((w.alloc (.cells #[.int .u64 9223372036854775808] 29)).alloc (.cells #[.int .u64 0] 29)).alloc (.cells #[.func (.func 224) #[] #[.pointer (some ⟨w.heap.size,0,none⟩),.pointer (some ⟨w.heap.size+1,0,none⟩)]] 279)).alloc (.cells #[.pointer (some ⟨b,0,none⟩)] 141)));have C0:Hi (Qc Qb w u):=O (by rw[d];exact((((Zg _ _).alloc _).alloc _).alloc _).alloc _);have au:u.heap.size=s+4:=by rw[d,hs];simp
 have B5:Hi (Qh u s #[.int .u64 ((Ou []:Nat):Int)] 29):=O (by rw[d,hs];exact(((Qh.new' _ _ (by simp)).alloc _).alloc _).alloc _);have B6:Hi (Qh u (s+1) #[.int .u64 ((Ln []:Nat):Int)] 29):=O (by rw[d,hs];exact((Qh.new' _ _ (by simp)).alloc _).alloc _);have B7:Hi (Qh u (s+1+1) #[.func (.func 224) #[] #[.pointer (some ⟨s,0,none⟩),.pointer (some ⟨s+1,0,none⟩)]] 279):=O (by rw[d,hs];exact(Qh.new' _ _ (by simp)).alloc _);have B8:Hi (Qh u (s+1+1+1) #[ptr b] 141):=O (by rw[d,hs];exact Qh.new' _ _ (by simp));have ae:Hi (Ah u b m ad pr l mark):=O (hV.aB C0.o (fun h=>h) (fun h=>h) (fun _ _ h=>h));have ao:b<s:=hs▸hV.blk.lt;have aq:m<s:=hs▸hV.map.lt;have has:∀y∈l,ad y.id<s:=fun y hy=>hs▸(hV.mem y hy).lt;rw[←hs]at d⊢;rw[←d];have ac:=O hs;have HB:=O hb;have af:=O hV;clear d hs hb hV;refine wpIn_rangeFunc_ownH rfl (by decide) (gf:=238) (lb:=#[.pointer (some ⟨s+1+1+1,0,none⟩)]) rfl trivial (enters_of func238 (by kernel_rfl) rfl)
  (Qs0 8 (s+1+1+1) b m mark (by decide) (fun k=>k≠s∧k≠s+1) ad pr l aj u B8.o ae.o ⟨by omega,by omega⟩ ⟨by omega,by omega⟩ ⟨by omega,by omega⟩ (fun y hy=>by have:=has y hy;exact⟨by omega,by omega⟩) (fun k hk=>⟨by omega,by omega⟩))
  (fun h k=>h.trans k) (fun W l o o' h1 h2 h3 h4=>Le.put (w:=u) W l o o' h1 h2 h3 h4) (Below.refl _ _) (fun _=>rfl)
  (fun R W=>((Qh W s #[.int .u64 ((Ou (R.map (·.1)):Nat):Int)] 29∧Qh W (s+1) #[.int .u64 ((Ln (R.map (·.1)):Nat):Int)] 29)∧Qc (fun k=>k=s∨k=s+1) u W))
  (fun _ _ _=>False)
  (OwnFrom.and (OwnFrom.and (Yx _ _ _ _) (Yx _ _ _ _)) (Dr (Zv _)))
  (fun c=>fun _ _ _ _ h _ _=>h.elim)
  ⟨⟨B5.o,B6.o⟩,Zg _ _⟩
  (fun y a' W=>a'={tmps:=#[.pointer (some ⟨b,0,none⟩),.pointer (some ⟨ad x.id,0,none⟩),undef,undef,.int .u64 0,.pointer (some ⟨s,0,none⟩),.pointer (some ⟨s+1,0,none⟩),.pointer (some ⟨s+1+1,0,none⟩),undef,ptr (ad y.1.id),.func (.func 224) #[] #[.pointer (some ⟨s,0,none⟩),.pointer (some ⟨s+1,0,none⟩)],.pointer (some ⟨b,0,none⟩),.func (.func 238) #[] #[.pointer (some ⟨s+1+1+1,0,none⟩)],.int .i64 y.1.id,ptr (ad y.1.id),undef,undef,undef,undef,undef,undef,undef,undef,undef,undef,undef,undef,undef,undef,undef,undef,undef,undef,undef,undef,undef,undef,undef,undef,undef,undef,undef,undef,undef],defers:=[]})
  (fun y a' _ X Y row hs hg hr=>hs)
  ?assign ?body ?done (fun _ _ _ _ _ _ h _=>h.elim)
 case assign=> rintro l' R y W K hI hK;dsimp only[Qt1];gi_wp2;exact hK _ _ ⟨Zv _,fun k o _ h1 _=>h1⟩ (fun _ _ _ h _=>h) hI rfl
 case body=>
  rintro l' R y a' W hl ar⟨⟨E,I⟩,q⟩rfl Xg;obtain⟨y,hy⟩:=y;dsimp only;have HM:=O (Qpa (v:=y.v) E.drew I.drew (by omega));have Z:Qc (fun k=>k=s∨k=s+1) u W.drew:=q.drew;have ai:=has y hy;have f0:=Jf (Z.blk B7.o (by omega));obtain⟨d0,d1,d2,d3⟩:=X9 (Z.blk (ae.o.mem y hy) (by omega));have HC:=O q;have ak:=O E;have al:=O I;unfold ptr at*;clear E I q Z ai;gi_wp2;refine Qf0 [(0,0),(0,1),(0,2),(0,3),(0,4),(2,5)] Zq (by kernel_rfl) (fun _ _ _ _ _ h=>h) ?_;simp only[Jk,Zf,Ze,Zd];iterate 5 (refine Qvq (by kernel_rfl) (by go_simp;try rfl) ?_)
  refine Qvp ?_;gi_wp2;refine⟨trivial,?_⟩;refine(CallsIn.inRound l' (callsIn_wide.2 HM.o)).mono ?_;rintro e w2⟨rfl,n5,n6,c2⟩;have C2:=O c2.undrew;have N5:=O n5;have N6:=O n6;clear f0 d0 d1 d2 d3 c2 n5 n6;gi_wp2;refine Qu9 ?_;gi_wp2;refine⟨Vg C2.o (fun k hk=>by rcases hk with h|h<;>omega),Le.chg C2.o (fun k h1 h2=>by rcases h2 with h|h<;>omega),⟨?_,?_⟩,HC.o.aA C2.o⟩;·rw[List.map_append,List.map_cons,List.map_nil,Qhn];exact N5.o
  ·rw[List.map_append,List.map_cons,List.map_nil,Qk7];exact N6.o
 case done=>
  rintro D ys W hD hp⟨⟨E,I⟩,q⟩hK;have cw:Qc Qb w W:=C0.o.trans q (fun k hk=>.inr (by rw[←ac.o];rcases hk with h|h<;>omega));have J:R7 (l.filter (·.aL)) mark x.v=R7 (ys.map (·.1)) mark x.v:=by unfold R7;rw[F7 hp,Qar hp]
  obtain⟨av,B⟩:=Zx (R7 (l.filter (·.aL)) mark x.v);rw[←B]at J;have U:=O B;clear B;have ab:Ln (ys.map (·.1))≤Qq:=Qaq _ fun z hz=>HB.o z ((List.mem_filter.1 (hp.mem_iff.1 hz)).1);have ag:=HB.o x hx;have HX:=O (cw.blk (af.o.mem x hx) (fun h=>h));have ah:=O (cw.blk af.o.blk (fun h=>h));have aa:=Cg (ys.map (·.1));unfold R7 at J;generalize Ou (ys.map (·.1))=lo at E J aa;generalize Ln (ys.map (·.1))=hi at I J ab;have hN:Qq=9223372036854775808:=rfl;by_cases Xg:hi<lo
  ·rw[if_pos Xg]at J;have E0:=O J;have d1:decide (hi<lo)=true:=by simpa using Xg
   have d2:(hi:Int)<(lo:Int):=by omega
   have em:max (x.v:Int) (mark:Int)=((max x.v mark:Nat):Int):=by omega
   have a0:=Jf E;have a1:=Jf I;obtain⟨x0,x1,x2,x3⟩:=X9 HX.o.drew;obtain⟨m0,m1⟩:=Q4 ah.o.drew;have HK:=O hK;have CW:=O cw;have V:w.heap.size≤D:=by have:=ac.o;omega
   clear J E I q hp hK cw aa ab ag hN Xg;gi_wp2;refine Sc [(0,0),(0,1),(0,2),(0,3),(0,4),(0,5),(0,6),(0,7),(0,8),(2,9)] Zq (by kernel_rfl) ?_;simp only[Jk,Zf,Ze,Zd];iterate 9 (refine Et (by kernel_rfl) (by go_simp;try rfl) ?_)
   refine Bl ?_;gi_wp2;refine Qnv ?_;gi_wp2;refine⟨by simp,.inl ⟨_,_,rfl,run_takeDeferred (show W.drew.heap[D]? =_ from HK.o),?_⟩⟩;refine⟨.int .u64 ((max x.v mark:Nat):Int),?_,by rw[←U.o,E0.o],Ud CW.o.drew V (Z2.1 HK.o).1⟩;simp[results,Tryz.results201,go_sem]
  ·rw[if_neg Xg]at J;have E0:=O J;have d1:decide (hi<lo)=false:=by simpa using Xg
   have d2:¬(hi:Int)<(lo:Int):=by omega
   have e1:IntKind.u64.wrap ((hi:Int)-(lo:Int))=((hi-lo:Nat):Int):=by rw[IntWalk.u64_in _ (by omega)];omega
   have e3:IntKind.u64.wrap (((hi-lo:Nat):Int)/2)=(((hi-lo)/2:Nat):Int):=by rw[IntWalk.u64_in _ (by omega)];omega
   have e2:IntKind.u64.wrap ((lo:Int)+(((hi-lo)/2:Nat):Int))=((lo+(hi-lo)/2:Nat):Int):=by rw[IntWalk.u64_in _ (by omega)];omega
   have em:max (x.v:Int) ((lo+(hi-lo)/2:Nat):Int)=((max x.v (lo+(hi-lo)/2):Nat):Int):=by omega
   have a0:=Jf E;have a1:=Jf I;have am:=Jf E.drew;have an:=Jf I.drew;obtain⟨x0,x1,x2,x3⟩:=X9 HX.o.drew;have HK:=O hK;have CW:=O cw;have V:w.heap.size≤D:=by have:=ac.o;omega
   clear J E I q hp hK cw aa ab ag hN Xg;gi_wp2;refine Sc [(0,0),(0,1),(0,2),(0,3),(0,4),(0,5),(0,6),(0,7),(0,8),(0,9),(0,10),(2,11)] Zq (by kernel_rfl) ?_;simp only[Jk,Zf,Ze,Zd];generalize(hi-lo)/2=hf at e2 e3 em E0;generalize lo+hf=lh at e2 em E0;iterate 11 (refine Et (by kernel_rfl) (by go_simp;try rfl) ?_)
   refine Bl ?_;gi_wp2;refine Qnv ?_;gi_wp2;refine⟨by simp,.inl ⟨_,_,rfl,run_takeDeferred (show W.drew.heap[D]? =_ from HK.o),?_⟩⟩;refine⟨.int .u64 ((max x.v lh:Nat):Int),?_,by rw[←U.o,E0.o],Ud CW.o.drew V (Z2.1 HK.o).1⟩;simp[results,Tryz.results201,go_sem]
theorem Qji{m:Nat}{ad:Int→Nat}{w}{F:Fp}{b:Nat}{f:Jc}(h:Yu m ad w F b f)(u:∀y∈f.all,y.v≤Qq)(c:f.mark≤Qq){x:Jh}(z:x∈f.all):
  Cl 201 #[ptr b,ptr (ad x.id)] w fun e w'=>e=.returned (.int .u64 ((f.start x:Nat):Int))∧Qc Qb w w':=by
 obtain⟨pr,l,k,d,q⟩:=h.view;rw[Qst (k.filter _) x];exact Qjj q d (fun y B=>u y (k.mem_iff.1 B)) c (k.mem_iff.2 z)
end
section
attribute [local go_sem] Qp
theorem Jc.made_wake(f:Jc)(x:Jh)(v:Nat)(r:Xh):((f.made x v).set {{x with v:=v}with run:=r}).set {{{x with v:=v}with run:=r}with aL:=true}=f.made {x with run:=r,aL:=true} v:=by refine(Jc.set_set (f.made x v) (a:={{x with v:=v}with run:=r}) (b:={{{x with v:=v}with run:=r}with aL:=true}) rfl).trans ?_;have e:=f.set_set (a:={x with v:=v}) (b:={{{x with v:=v}with run:=r}with aL:=true}) rfl;unfold Jc.made;show(⟨((f.set {x with v:=v}).set {{{x with v:=v}with run:=r}with aL:=true}).all,max f.mark v⟩:Jc)=_;rw[e]
theorem Qmw{w}{F:Fp}{b:Nat}{f:Jc}(h:J0 w F b f)(hN:∀x∈f.all,x.total≤Xw∧x.run.l.length<549755813888∧x.v≤Qq)(K:f.mark≤Qq)(i:Int):
  Cl 138 #[ptr b,.int .i64 i] w fun e w'=>e=.returned (.tuple #[])∧J0 w' (Qn F w w') b (f.wake i)∧Qc F w w':=by
 obtain⟨m,ad,I⟩:=h.addr;have R:=O (I.at_any i);unfold Jc.wake;unfold Qk3 at R;cases hx:f.at i with
 |none=> have c:=O (I.same (Zg Qb w));rw[hx]at R;dsimp only[atP]at R⊢;unfold ptr at*;clear h I hx hN K;go_enter func138,ntmps138;go_wp2_with fail;refine Zy R ?_;rintro w1 rfl;go_wp2;refine bodyPost_ret (results_none rfl _ _ _) rfl ⟨rfl,c.o.1.is,c.o.2⟩
 |some x=>
  obtain⟨hm,rfl⟩:=Jc.aE hx;obtain⟨U,E,ak⟩:=hN x hm;obtain⟨p,H,hM,_,ah⟩:=I.memB hm;obtain⟨a0,a1,a2,a3⟩:=X9 hM;rw[hx]at R;dsimp only[atP]at R⊢;rcases Bool.eq_false_or_eq_true x.aL with d|d;·rw[if_pos d];rw[d]at a3;have c:=O (I.same (Zg Qb w));unfold ptr at*;clear h I hx hN K hM hm U E ak ah d;go_enter func138,ntmps138;go_wp2_with fail;refine Zy R ?_;rintro w1 rfl;go_wp2;refine bodyPost_ret (results_none rfl _ _ _) rfl ⟨rfl,c.o.1.is,c.o.2⟩
  ·rw[if_neg (by rw[d];decide)];rw[d]at a3;have HS:=O (Qji I (fun y hy=>(hN y hy).2.2) K hm);have aj:f.start x≤Qq:=by unfold Jc.start;have h1:f.most≤Qq:=Qaq _ fun z hz=>(hN z (List.mem_filter.1 hz).1).2.2;have h2:f.least≤Qq:=Cg _;split<;>omega
   generalize f.start x=v at HS aj⊢;have am:Qq=9223372036854775808:=rfl;have hC:=Yz;have Z:=O ((Yu.obj m ad).bd I);have S1:Hi (∀w1,Qc Qb w w1→Yu m ad w1 (Qn F w w1) b f∧Qc F w w1):=O (fun w1 c1=>I.same c1);have M2:=O (Jc.mem_set (a:={x with v:=v}) hm rfl);have an:({x with v:=v}:Jh)∈(f.made x v).all:=M2.o;have al:=O (fun(w)(F:Fp)(p:Nat)(h:Yv w F p x.run)=>Rv h E v x.total (by omega) (by omega));have HM:=O hm;have FE:=O (f.made_wake x v (x.run.start v x.total));unfold ptr at*;clear h I hx hN K hM hm U E ak ah d aj am hC;go_enter func138,ntmps138;go_wp2_with fail;refine Zy R ?_;rintro w1 rfl;go_wp2_with fail;refine Zy HS ?_;intro w1 c1;obtain⟨h1,ae⟩:=S1.o _ c1;have B1:=O ((Yu.obj m ad).bd h1);have C1:=O ae;clear c1 ae a0 a1 a2 a3;go_wp2_with fail;refine Zz (Qb4 h1 HM.o v) ?_;rintro w2⟨h2,c2⟩;have C2:=O (C1.o.ext c2);have ab:Yu m ad w2 (Qn F w w2) b (f.made x v):=((Yu.obj m ad).two h2 Z.o C1.o c2).1;obtain⟨q,G,ag,B,V⟩:=ab.memR an;obtain⟨a0,a1,a2,a3⟩:=X9 ag.drew;have HR:=O (al.o _ _ _ ((runP.aB B (Zg Qb w2).drew (Jl.none G))));have HP:=O V;have BG:=O (runP.bd B);have B2:=O ((Yu.obj m ad).bd ab);clear h1 h2 c2 ab ag B V;unfold ptr at*;go_wp2_with fail;refine Qj [(0,0),(0,1),(0,2),(0,3),(0,4),(0,5),(0,6),(0,7),(0,8),(0,9),(0,10),(0,11),(2,12)] Zq (by kernel_rfl) (fun _ _ _ _ _ h=>h) ?_;simp only[Jk,Zf,Ze,Zd];iterate 12 (refine Jq (by kernel_rfl) (by go_simp;try rfl) ?_)
   clear a0 a1 a2 a3;refine J7 ?_;go_wp2_with fail;refine Zy HR ?_;rintro w3⟨ai,c3⟩;have aa:=c3.undrew;obtain⟨h3,af⟩:=HP.o w3 _ (runP.more ai (fun k hk=>hk.elim .inl (fun hk=>.inr hk)) (BG.o.ext aa)) aa;have J:=((Yu.obj m ad).two h3 Z.o C2.o af);have ac:({{x with v:=v}with run:=x.run.start v x.total}:Jh)∈((f.made x v).set {{x with v:=v}with run:=x.run.start v x.total}).all:=Jc.mem_set (x:={x with v:=v}) M2.o rfl;obtain⟨q3,H3,u,_,_⟩:=J.1.memB ac;obtain⟨a0,a1,a2,a3⟩:=X9 u;have z3:=u.frozen 3;have c:Hi (∀w4,w4=w3.setCell ⟨ad x.id,3,none⟩ (.bool true)→J0 w4 (Qn F w w4) b (f.made {x with run:=x.run.start v x.total,aL:=true} v)∧Qc F w w4):=O (by
    rintro w4 rfl;obtain⟨k1,k2⟩:=J.1.memC' (x':={{{x with v:=v}with run:=x.run.start v x.total}with aL:=true}) ac rfl rfl u ((Zg (fun k=>k=ad x.id) w3).setCell (a:=⟨ad x.id,3,none⟩) (.bool true) (.inl rfl)) (u.set' 3 _ rfl);obtain⟨l1,l2⟩:=(Yu.obj m ad).two k1 Z.o J.2 k2;rw[FE.o]at l1;exact⟨l1.is,l2⟩)
   clear ai c3 aa h3 af J ac u;go_wp2_with fail;refine Jo ?_;go_wp2_with fail;refine bodyPost_end (by simp[*,results,Tryz.results138,go_sem]) rfl ⟨rfl,c.o _ rfl⟩
end
end Go.Proofs.YtnnhmpehkbihnaaGreat
