/- A part of the proof: no condition. -/
import Derived.Test.YtigcnnkagkbflaaGreatUo22
import Derived.Sort.LoopGhostIn
import Derived.ArgAppend
namespace Go.Proofs.YtigcnnkagkbflaaGreat
set_option linter.unusedVariables false
set_option maxRecDepth 100000
set_option maxHeartbeats 4000000
open Go.RowKit
open Go.Proofs.Tryz
attribute [local go_sem] Qp
attribute [local irreducible] Kl J9 Xo
section
variable{A:EAd}{w:World}{F:Fp}{b:Nat}{e:Vi}
theorem V6.lift{cs:Array Value}{c:Fp}(h:V6 cs A w F b e)(q:∀k,F k->c k)(d:Bd c w):V6 cs A w c b e:=(V6.good cs A b e).more h q d
theorem Q1e{s:Qf}{id:Int}(u:J8 s.tree)(q:s.aP id=0):1<=id:=by
 obtain⟨_,d⟩:=Ng q;unfold Qm.aP at d;cases k:s.tree.at id with
 |none=>rw[k]at d;exact absurd d (by simp)
 |some c=>exact(u.pos k).1
theorem Q0c(h:Qxn w F b e){N:Nat}(ok:Xp N e.sched)(c:Yk):ZW 27 #[ptr b,Fb c] w (ZI (e.aO c)) λw'=>Qxn w' (Qn F w w') b (e.add c)/\Qc F w w':=by
 obtain⟨A,h⟩:=h;have k:=(V6.good (Qyg A e) A b e).bd h;obtain⟨W,B⟩:=Zx (w.alloc (.cells (Z4 c.leaf c) 29));have S0:Hi (Xx W w.heap.size c):=O (by rw[B];exact Xx.new w c);have J:Hi (Qc Qb w W):=O (by rw[B];exact(Zg _ _).alloc _);have z:=h.aB J.o;have R:=O (Qyv z.blk.1);have q:Hi (∀w' t,Qxn w' (Qn F W w') b t->Qc F W w'->Qxn w' (Qn F w w') b t/\Qc F w w'):=O (λw' t h1 V=>by
  have u:Qc F w w':=J.o.none.aA V;exact⟨Qxn.obj.more h1 (Ke J.o.size) (k.ext u),u⟩)
 have AT:=O (λw1(d:Qc Qb W w1)=>Zt (z.aB d).blk.1 (Zt (Xx.aB S0.o d).cells d.drew));unfold Vi.aO Vi.add;cases Z:e.stopped with
 |true=> rw[Z]at R;rw[if_pos rfl,if_pos rfl];have E:=O (λw'(u:Qc Qb W w')=>q.o w' e (Qxn.obj.same ⟨A,z⟩ u).1 u.none);unfold Fb ptr at*;clear h z Z k ok;apply WH func27;go_wp2_with fail;rw[<-B];clear B;apply Zo R;rintro r w1⟨rfl,d⟩;have K:=O (E.o w1 d);clear d;exact WD K
 |false=>
  rw[Z]at R;rw[if_neg Bool.false_ne_true,if_neg Bool.false_ne_true];have HS:Hi (∀w1,Qc Qb W w1->ZW 59 #[ptr A.sb,Fb c] w1 (ZI (e.sched.aO c)) λw2=>Qxn w2 (Qn F w w2) b {e with sched:=e.sched.add c}/\Qc F w w2):=O (λw1 d=>by
   obtain⟨G,hS,_,_,I⟩:=(z.aB d).schedOf;refine(Cy hS ok c).mono ?_;rintro r w2⟨rfl,ag,U⟩;obtain⟨m1,m2⟩:=I w2 _ ag U;have u:Qc F W w2:=d.none.aA m2;obtain⟨n1,n2⟩:=q.o w2 {e with sched:=e.sched.add c} ⟨A,m1.lift (Ke d.size) ((k.later J.o).ext u)⟩ u;exact⟨rfl,n1,n2⟩)
  generalize e.sched.aO c=er at HS|-;unfold Fb ptr at*;clear h z Z k ok;apply WH func27;go_wp2_with fail;rw[<-B];clear B;apply Zo R;rintro r w1⟨rfl,d⟩;have C1:=O d.drew;obtain⟨g9,z9,_⟩:=AT.o w1.drew d.drew;have a0:=Av g9;have g0:=z9;clear d;go_wp2_with fail;apply XB 2200000;apply YA 0;clear a0 g0 g9;go_wp2_with fail;refine(HS.o _ C1.o).mono ?_;rintro r w2⟨rfl,V,U⟩;have K:=O (Zt V U);clear V U;go_wp2_with fail;apply YI 0;exact WD K
theorem Q0d(h:Qxn w F b e){N:Nat}(ok:Xp N e.sched)(c:Yk):ZW 33 #[ptr b,Fb c] w (ZI (e.aG c)) λw'=>Qxn w' (Qn F w w') b (e.change c)/\Qc F w w':=by
 obtain⟨A,h⟩:=h;have k:=(V6.good (Qyg A e) A b e).bd h;obtain⟨W,B⟩:=Zx (w.alloc (.cells (Z4 c.leaf c) 29));have S0:Hi (Xx W w.heap.size c):=O (by rw[B];exact Xx.new w c);have J:Hi (Qc Qb w W):=O (by rw[B];exact(Zg _ _).alloc _);have z:=h.aB J.o;have R:=O (Qyv z.blk.1);have q:Hi (∀w' t,Qxn w' (Qn F W w') b t->Qc F W w'->Qxn w' (Qn F w w') b t/\Qc F w w'):=O (λw' t h1 V=>by
  have u:Qc F w w':=J.o.none.aA V;exact⟨Qxn.obj.more h1 (Ke J.o.size) (k.ext u),u⟩)
 have AT:=O (λw1(d:Qc Qb W w1)=>Zt (z.aB d).blk.1 (Zt (Xx.aB S0.o d).cells d.drew));unfold Vi.aG Vi.change;cases Z:e.stopped with
 |true=> rw[Z]at R;rw[if_pos rfl,if_pos rfl];have E:=O (λw'(u:Qc Qb W w')=>q.o w' e (Qxn.obj.same ⟨A,z⟩ u).1 u.none);unfold Fb ptr at*;clear h z Z k ok;apply WH func33;go_wp2_with fail;rw[<-B];clear B;apply Zo R;rintro r w1⟨rfl,d⟩;have K:=O (E.o w1 d);clear d;exact WD K
 |false=>
  rw[Z]at R;rw[if_neg Bool.false_ne_true,if_neg Bool.false_ne_true];have HS:Hi (∀w1,Qc Qb W w1->ZW 66 #[ptr A.sb,Fb c] w1 (ZI (e.sched.aG c)) λw2=>Qxn w2 (Qn F w w2) b {e with sched:=e.sched.change c}/\Qc F w w2):=O (λw1 d=>by
   obtain⟨G,hS,_,_,I⟩:=(z.aB d).schedOf;refine(Qfp hS ok c).mono ?_;rintro r w2⟨rfl,ag,U⟩;obtain⟨m1,m2⟩:=I w2 _ ag U;have u:Qc F W w2:=d.none.aA m2;obtain⟨n1,n2⟩:=q.o w2 {e with sched:=e.sched.change c} ⟨A,m1.lift (Ke d.size) ((k.later J.o).ext u)⟩ u;exact⟨rfl,n1,n2⟩)
  generalize e.sched.aG c=er at HS|-;unfold Fb ptr at*;clear h z Z k ok;apply WH func33;go_wp2_with fail;rw[<-B];clear B;apply Zo R;rintro r w1⟨rfl,d⟩;have C1:=O d.drew;obtain⟨g9,z9,_⟩:=AT.o w1.drew d.drew;have a0:=Av g9;have g0:=z9;clear d;go_wp2_with fail;apply XB 2200000;apply YA 0;clear a0 g0 g9;go_wp2_with fail;refine(HS.o _ C1.o).mono ?_;rintro r w2⟨rfl,V,U⟩;have K:=O (Zt V U);clear V U;go_wp2_with fail;apply YI 0;exact WD K
theorem Q04(h:Qxn w F b e){K:Nat}(ok:V4 K e)(id:Int):ZW 34 #[ptr b,ZI id] w (ZI (e.aP id)) λw'=>Qxn w' (Qn F w w') b (e.drop id)/\Qc F w w':=by
 obtain⟨A,h⟩:=h;obtain⟨N,u,_⟩:=ok.sok;have k:=(V6.good (Qyg A e) A b e).bd h;have I:=O (Qyv h.blk.1);have R:=O (λw'(cc:Qc Qb w w')=>Qxn.obj.same ⟨A,h⟩ cc);unfold Vi.aP Vi.drop;cases hs:e.stopped with
 |true=> rw[hs]at I;rw[if_pos rfl,if_pos rfl];clear h hs k ok u;apply WH func34;go_wp2_with fail;apply Zo I;rintro r w1⟨rfl,c⟩;have K:=O (R.o w1 c);clear c;exact WD K
 |false=>
  rw[hs]at I;rw[if_neg Bool.false_ne_true,if_neg Bool.false_ne_true];have AT:=O (λw1(c:Qc Qb w w1)=>(h.aB c).blk.1);have HS:Hi (∀w1,Qc Qb w w1->ZW 67 #[ptr A.sb,ZI id] w1 (ZI (e.sched.aP id)) λw2=>Qyf A w2 (Qn F w w2) b {e with sched:=e.sched.drop id}/\Qc F w w2):=O (λw1 c=>by
   obtain⟨G,hS,_,_,q⟩:=(h.aB c).schedOf;refine(Qmd hS u id).mono ?_;rintro r w2⟨rfl,E,d⟩;obtain⟨m1,m2⟩:=q w2 _ E d;have cc:Qc F w w2:=c.none.aA m2;exact⟨rfl,m1.lift (Ke c.size) (k.ext cc),cc⟩)
  by_cases z:e.sched.aP id=0
  .rw[z]at HS;rw[if_pos z,z];have HB:Hi (∀w1,Qyf A w1 (Qn F w w1) b {e with sched:=e.sched.drop id}->Qc F w w1->ZW 68 #[ptr A.kb,ZI id] w1 (.tuple #[]) λw2=>Qxn w2 (Qn F w w2) b {e with sched:=e.sched.drop id,book:=e.book.drop id}/\Qc F w w2):=O (λw1 h1 c=>by
    obtain⟨G,hS,_,_,q⟩:=h1.bookOf;refine(Q0s hS ok.book id (Q1e u.tree z)).mono ?_;rintro r w2⟨rfl,E,d⟩;obtain⟨m1,m2⟩:=q w2 _ E d;obtain⟨n1,n2⟩:=Qxn.obj.two (show Qxn w2 _ b {e with sched:=e.sched.drop id,book:=e.book.drop id}from⟨A,m1⟩) k c m2;exact⟨rfl,n1,n2⟩)
   clear h hs k ok u z;apply WH func34;go_wp2_with fail;apply Zo I;rintro r w1⟨rfl,c⟩;have C1:=O c;have U:=Av (AT.o w1 c);clear c;go_wp2_with fail;clear U;refine(HS.o _ C1.o).mono ?_;rintro r w2⟨rfl,B,d⟩;have K:=O (Zt B d);have U:=Av B.blk.1;clear B d;go_wp2_with fail;refine(HB.o _ K.o.1 K.o.2).mono ?_;rintro r w3⟨rfl,h3,c3⟩;have K3:=O (Zt h3 c3);clear h3 c3 U;exact WD K3
  .rw[if_neg z];have J:Hi (∀w1,Qc Qb w w1->ZW 67 #[ptr A.sb,ZI id] w1 (ZI (e.sched.aP id)) λw2=>Qxn w2 (Qn F w w2) b e/\Qc F w w2):=O (λw1 c=>(HS.o w1 c).mono (by
    rintro r w2⟨rfl,B,d⟩;have he:e.sched.drop id=e.sched:=by unfold Qf.drop;rw[if_neg z]
    rw[he]at B;exact⟨rfl,⟨A,B⟩,d⟩))
   obtain⟨er,aa⟩:=Zx (e.sched.aP id);rw[<-aa]at J z|-;have d0:(er==0)=false:=by simpa using z
   clear h hs k ok u aa;apply WH func34;go_wp2_with fail;apply Zo I;rintro r w1⟨rfl,c⟩;have C1:=O c;have U:=Av (AT.o w1 c);clear c;go_wp2_with fail;clear U;refine(J.o _ C1.o).mono ?_;rintro r w2⟨rfl,B,d⟩;have K:=O (Zt B d);clear B d;exact WD K
end
section
variable{cs cs':Array Value}{A:EAd}{w w' W:World}{F:Fp}{b:Nat}{e:Vi}{x:D7}{v:Value}
theorem V6.sentUp(h:V6 cs A w F b e){l:List D7}(u:Qxw w' v l)(B:Qc (λk=>A.ss.ownBlock=some k) w w')(E:v.ownBlock=A.ss.ownBlock\/v.ownBlock=some w.heap.size):
  V6 cs {A with ss:=v} w' (Qn F w w') b {e with sent:=l}/\Qc F w w':=by
 obtain⟨G,d,I,J,z⟩:=h.sentOf;have c:Qc G w w':=B.sub λk e=>d.2.1 k e;refine z w' v l ⟨u,λk q=>?_,d.2.2.ext c⟩ c;rcases E with e|e;·exact .inl (d.2.1 k (e.symm.trans q))
 .rw[e]at q;cases q;exact .inr ⟨Zv _,u.lt _ e⟩
theorem V6.ssNot(h:V6 cs A w F b e):A.ss.ownBlock≠some b:=λk=>by obtain⟨G,c,q,d,u⟩:=h.sentOf;exact d (c.2.1 b k)
theorem V6.gone(h:Qyf A w F b e)(c:Qc Qb w W)(d:Nat)(z:w'=(W.setCell ⟨b,7,none⟩ (.slice none 0 0)).setCell ⟨b,3,none⟩ (ZU d)):
  Qyf {A with us:=.slice none 0 0} w' F b {e with aM:=none,now:=d}/\Qc F w w':=by
 have q:=(V6.good (Qyg A e) A b e).bd h;have E:=h.aB c;have R:Qh w' b (Qyg {A with us:=.slice none 0 0} {e with aM:=none,now:=d}) 87:=by rw[z];exact(E.blk.1.set' 7 _ rfl).set' 3 _ rfl
 have I:Qc (λk=>k=b) W w':=by rw[z];exact((Zg (λk=>k=b) W).setCell (a:=⟨b,7,none⟩) _ (.inl rfl)).setCell (a:=⟨b,3,none⟩) _ (.inl rfl)
 have hz:w'.heap.size=W.heap.size:=by rw[z];simp[World.setCell]
 obtain⟨U,V⟩:=E.cells I R;have B:Qc F w w':=c.none.aA V;obtain⟨G,J,g2,g3,K⟩:=U.underOf;obtain⟨Z,q2⟩:=K w' (.slice none 0 0) none ⟨Own.nil _ _ _ _,nofun,λk u=>u.elim (J.2.2 k) (λh=>h.2)⟩ (Zg _ _);exact⟨Z.lift (λk u=>u.elim (λh=>h.elim id (λh=>by omega)) (λh=>by omega)) (q.later B),B⟩
theorem Q0n(x:D7){g:Nat}(h:Qh w g (Qxe x).toArray 51):Kb Qxe 8 w (some ⟨g,0,none⟩) [x]:=by
 intro i c;have:i=0:=by simpa using c
 subst this;exact⟨g,0,rfl,λj u d=>by rw[show 0+0*8+j=j by omega];exact h.at j (by simpa using d)⟩
def evA(k:Nat)(x:D7):Array Value:=#[.int .u8 k,ZU x.p.id,ZI x.p.cls,ZI x.p.len,ZU x.p.at_,.int .u8 x.rule,ZU x.frm,ZU x.til,ZU x.due]
theorem Qz5(h:Qxn w F b e){K:Nat}(ok:V4 K e)(hK:K<1099511627776)(hx:e.aM=some x)(hg:Ll x.p):ZW 44 #[ptr b] w (.agg (evA 2 x)) λw'=>Qxn w' (Qn F w w') b (e.through x)/\Qc F w w':=by
 obtain⟨A,h⟩:=h;have J:=(V6.good (Qyg A e) A b e).bd h;have Xg:b<w.heap.size:=h.blk.1.lt;obtain⟨W0,R⟩:=Zx (w.alloc (.cells ZH 53));obtain⟨W1,U⟩:=Zx (W0.alloc (.cells ZG 51));have C1:Hi (Qc Qb w W1):=O (by rw[U,R];exact((Zg _ _).alloc _).alloc _);have az:Hi (Qh W1 w.heap.size ZH 53):=O (by rw[U,R];exact(Qh.new' _ _ (by simp)).alloc _);have am:Qh W1 (w.heap.size+1) ZG 51:=by rw[U,R];exact Qh.new' _ _ (by simp)
 obtain⟨g,cap,aw,_,cs,hB,ay⟩:=Qxw.one (by obtain⟨G,hU,_⟩:=h.underOf;rw[hx]at hU;exact hU.1);obtain⟨W3,s3,ae,c3⟩:=Q0 (P:=prog) (vs:=(Qxe x).toArray) am rfl (λv hv=>sentT.one x v (by simpa using hv));have C3:Hi (Qc Qb w W3):=O (C1.o.trans c3 (λk e=>.inr (by omega)));have B3:=O ae;have a9:=O (c3.blk az.o (λe=>by omega));obtain⟨I,aa⟩:=Zx ((W3.setCell ⟨b,7,none⟩ (.slice none 0 0)).setCell ⟨b,3,none⟩ (ZU x.til));have Z:=O (h.gone C3.o x.til aa);have B5:Hi (Qh I (w.heap.size+1) (Qxe x).toArray 51):=O (by rw[aa];exact(ae.other _ (by show b≠w.heap.size+1;omega)).other _ (by show b≠w.heap.size+1;omega));have ba:Hi (Qh I w.heap.size ZH 53):=O (by rw[aa];exact(a9.o.other _ (by show b≠w.heap.size;omega)).other _ (by show b≠w.heap.size;omega));obtain⟨a0,a1,a2,a3,a4,a5,a6,a7,a8⟩:=Av (h.blk.1.alloc (.cells ZH 53));rw[aw]at a7;have bh:(Qxe x).toArray.size=8:=rfl;have HL:Hi ((w.alloc (.cells ZH 53)).rangeAt g 0 (Qxe x)):=O (λj u hu=>by rw[Nat.zero_add];exact(hB.alloc _).at j (ay j u hu));rw[U,R]at s3;have au:Qxw I A.ss e.sent:=by obtain⟨G,g1,_⟩:=Z.o.1.sentOf;exact g1.1
 obtain⟨d,E⟩:=Zx ((I.alloc (.cells (Qxe x).toArray 51)).drew);have C6:Hi (Qc Qb I d):=O (by rw[E];exact((Zg _ _).alloc _).drew);have ap:e.sent.length<1099511627776:=by obtain⟨N,_,h⟩:=ok.sok;omega
 obtain⟨v6,w6,ac,al,c6,ax⟩:=Qy7 sentT (P:=prog) 43 A.ss e.sent (au.aB C6.o (λk hk h=>h)) (some ⟨I.heap.size,0,none⟩) 1 [x] nofun
  (Q0n x (show Qh d I.heap.size (Qxe x).toArray 51 by rw[E];exact(Qh.new _ _ _).drew)) (by simp only[maxLen,List.length_singleton];omega) (by simp only[List.length_singleton];omega)
 obtain⟨z,m6,B,bg⟩:∃ad m c,v6=.slice ad m c:=by obtain⟨a,c,h,_⟩:=Own.row Qws al;exact⟨_,_,_,h⟩
 subst bg;have af:(Builtin.append_ #[43,43] 43 #[A.ss,.slice (some ⟨I.heap.size,0,none⟩) 1 1]).run prog d=.ok (.slice z m6 B) w6:=ac;have ah:Hi (Qc (λk=>A.ss.ownBlock=some k) I w6):=O (C6.o.none.aA c6);have av:w.heap.size+2<=d.heap.size:=Zp (by have:=B5.o.lt;omega) C6.o.size;have UP:Hi (∀q,q=w6.setCell ⟨b,8,none⟩ (.slice z m6 B)->∃V,Qyg V {e with aM:=none,now:=x.til,sent:=e.sent++[x]}=Qyg {A with us:=.slice none 0 0,ss:=.slice z m6 B} {e with now:=x.til}/\Qyf V q (Qn F d q) b {e with aM:=none,now:=x.til,sent:=e.sent++[x]}/\Qc F w q/\(∀k,w.heap.size<=k->k<w.heap.size+2->¬Qn F d q k)/\Qc F d q):=O (by
  rintro q rfl;obtain⟨p1,p2⟩:=(Z.o.1.aB C6.o).sentUp al c6 ax;obtain⟨q1,q2⟩:=p1.cells (cs':=Qyg {A with us:=.slice none 0 0,ss:=.slice z m6 B} {e with aM:=none,now:=x.til,sent:=e.sent++[x]}) ((Zg (λk=>k=b) w6).setCell (a:=⟨b,8,none⟩) (.slice z m6 B) (.inl rfl)) (p1.blk.1.set' 8 (.slice z m6 B) rfl);have cc:=p2.ext q2;have cw:=(Z.o.2.aA C6.o.none).aA cc;exact⟨_,rfl,q1.lift (Qn.trans p2.size q2.size) ((J.later ((Z.o.2.aA C6.o.none))).ext cc),cw,λk h1 h2 h3=>h3.elim (λh=>by have:=J k h;omega) (λh=>by omega),cc⟩)
 have bb:=O (λq(c:Qc F d q)=>Zt (c.blk (C6.o.blk ba.o (λh=>h)) (λh=>by have:=J _ h;omega)) (c.blk (C6.o.blk (show Qh I (w.heap.size+1) (ZM x) 51 from B5.o) (λh=>h)) (λh=>by have:=J _ h;omega)));have an:=O (show∀q V,Qyg V {e with aM:=none,now:=x.til,sent:=e.sent++[x]}=Qyg {A with us:=.slice none 0 0,ss:=.slice z m6 B} {e with now:=x.til}->Qyf V q (Qn F d q) b {e with aM:=none,now:=x.til,sent:=e.sent++[x]}->Qc F w q->(∀k,w.heap.size<=k->k<w.heap.size+2->¬Qn F d q k)->w.heap.size+2<=q.heap.size->
   ZW 81 #[ptr A.kb,.agg (ZL x.p)] q.drew (.tuple #[]) λw8=>(∀w9,Qc (λk=>w.heap.size<=k/\k<w.heap.size+2) w8 w9->Qxn w9 (Qn F w w9) b (e.through x)/\Qc F w w9)/\Qc (λk=>¬(w.heap.size<=k/\k<w.heap.size+2)) q w8 from by
  intro q V hA h7 c7 aq bk;have bf:ptr V.kb=ptr A.kb:=by have:=congrArg (λa:Array Value=>a[6]?) hA;simpa[Qyg]using this
  obtain⟨G,hB,hG,_,ar⟩:=(h7.aB (Zg Qb q).drew).bookOf;rw[<-bf];refine(Qzx hB ok.book x.p hg).mono ?_;rintro r w8⟨rfl,be,c8⟩;obtain⟨m1,m2⟩:=ar w8 _ be c8;have m3:Qc (Qn F d q) q w8:=m2.aT;refine⟨rfl,λw9 c9=>?_,m3.sub λk hk ab=>aq k ab.1 ab.2 hk⟩;have hd:Jl (Qn (Qn F d q) q w8) (λk=>w.heap.size<=k/\k<w.heap.size+2):=λk hk ab=>hk.elim (λh=>aq k ab.1 ab.2 h) (λh=>by omega);have k1:=(V6.good _ V b _).aB (show V6 _ V w8 (Qn (Qn F d q) q w8) b (e.through x)from m1) c9 hd;have cc:Qc F w w9:=((c7.trans m3 λk hk=>hk.elim .inl (λh=>.inr (by omega)))).trans c9 λk hk=>.inr hk.1;exact⟨⟨V,k1.lift (λk hk=>hk.elim (λh=>h.elim .inl (λh=>.inr ⟨by omega,Nat.lt_of_lt_of_le h.2 (Zp m3.size c9.size)⟩)) (λh=>.inr ⟨by omega,Nat.lt_of_lt_of_le h.2 c9.size⟩)) (J.ext cc)⟩,cc⟩)
 have ag:=O (Zt (C3.o.blk h.blk.1 (λh=>h)).frozen (Ja (show Qh W3 (w.heap.size+1) (ZM x) 51 from ae)));have A3:=O (Av (C3.o.blk h.blk.1 (λh=>h)));have q1:¬b=w.heap.size+1:=by omega
 have q2:¬w.heap.size+1=b:=by omega
 have ao:Hi (d=(I.alloc (.cells (ZM x) 51)).drew):=O (E);have ac:=af;have bj:=O U;have bi:=O R;have bc:=O aa;clear h J ok hx E au ap af al c6 ax Xg R U am aw hB ay ae c3 aa;obtain⟨f3,g0,g1,g2,g3,g4,g5,g6,g7⟩:=ag.o;obtain⟨z0,z1,z2,z3,z4,z5,z6,z7,z8⟩:=A3.o;apply WH func44;go_wp2_with (with_reducible refine wpList_load_mid rfl 51 (.tmp 8) rfl g 0 rfl (Qxe x) _ HL.o underlying51 rfl (by kernel_rfl) ?_);rw[<-bc.o];clear f3 g0 g1 g2 g3 g4 g5 g6 g7 z0 z1 z2 z3 z4 z5 z6 z7 z8 s3 a0 a1 a2 a3 a4 a5 a6 a7 a8 bh;generalize(Qxe x).toArray=sa;obtain⟨g0,g1,g2,g3,g4,g5,g6,g7⟩:=Ja (show Qh I.drew (w.heap.size+1) (ZM x) 51 from B5.o.drew);obtain⟨z0,z1,z2,z3,z4,z5,z6,z7,z8⟩:=Av Z.o.1.blk.1.drew;apply XC 30022011111 (λk=>A.ss.ownBlock=some k) I;iterate 4 (refine Qy (h:=?_);try simp only[Act.put,Za,Zc,Zb])
 iterate 1 (apply YK λ_ hv=>Av (hv.blk Z.o.1.blk.1 (λh=>Z.o.1.ssNot h)))
 apply YA 0;go_wp2_with fail;rw[<-ao.o];refine⟨C6.o.none,?_⟩;refine Yb ?_;refine Lib.wpList_append_run _ rfl (.tmp 22) (.tmp 24) 43 43 rfl _ _ rfl rfl _ _ ac ?_;go_wp2_with fail;refine⟨ah.o,?_⟩;clear ac g0 g1 g2 g3 g4 g5 g6 g7 z0 z1 z2 z3 z4 z5 z6 z7 z8;obtain⟨z0,z1,z2,z3,z4,z5,z6,z7,z8⟩:=Av (ah.o.blk Z.o.1.blk.1 (λh=>Z.o.1.ssNot h));have f6:=(ah.o.blk Z.o.1.blk.1 (λh=>Z.o.1.ssNot h)).frozen;apply YI 0;clear z0 z1 z2 z3 z4 z5 z6 z7 z8 f6 ac;obtain⟨W7,ak⟩:=Zx (w6.setCell ⟨b,8,none⟩ (.slice z m6 B));rw[<-ak];obtain⟨V,aj,h7,c7,n7,ai⟩:=UP.o W7 ak;have EV:=O (bb.o W7 ai);have HC:=O (an.o W7 V aj h7 c7 n7 (Zp av ai.size));obtain⟨z0,z1,z2,z3,z4,z5,z6,z7,z8⟩:=Av (show Qh W7.drew b (Qyg {A with us:=.slice none 0 0,ss:=.slice z m6 B} {e with now:=x.til}) 87 from aj▸h7.blk.1.drew);obtain⟨g0,g1,g2,g3,g4,g5,g6,g7⟩:=Ja EV.o.2.drew;clear ak h7 c7 n7 ai aj;go_wp2_with fail;apply XB 2000000;apply YA 0;clear z0 z1 z2 z3 z4 z5 z6 z7 z8 g0 g1 g2 g3 g4 g5 g6 g7;go_wp2_with fail;apply Zo HC;rintro r w8⟨rfl,k8,c8⟩;have K8:=O k8;have E8:=O (c8.blk EV.o.1 (λh=>h ⟨Zv _,by omega⟩));have S8:=O (c8.blk EV.o.2 (λh=>h ⟨by omega,by omega⟩));clear k8 c8;go_wp2_with fail;refine Jo ?_;obtain⟨g0,g1,g2,g3,g4,g5,g6,g7⟩:=Ja S8.o;obtain⟨z0,z1,z2,z3,z4,z5,z6,z7,z8⟩:=Av E8.o;have f8:=E8.o.frozen;have bd:Hi (∀k,k=w.heap.size->w.heap.size<=k/\k<w.heap.size+2):=O (λk e=>by omega);go_wp2_with fail;refine bodyPost_ret (v:=.agg (evA 2 x)) (by unfold evA;rw[Lv (p:=2) (ty:=53) (by kernel_rfl)];go_simp;try rfl) rfl ⟨rfl,K8.o _ ?_⟩;iterate 9 (with_reducible refine Qc.setCell ?_ _ (Or.inl (bd.o _ rfl)))
 exact Zg _ _
end
section
theorem Q1z(o:Option ChM):∀v∈(Bq o).toList,v.oneCell'=true:=by
 cases o with
 |none=>exact Iy _ _ _
 |some c=>exact Iy _ _ _
theorem Q1u(o:Option ChM):(Bq o).size=6:=by cases o<;>rfl
attribute [local go_sem] Q1u
def evO:Option EvM->Array Value
 |none=>#[.int .u8 0,ZU 0,ZI 0,ZI 0,ZU 0,.int .u8 0,ZU 0,ZU 0,ZU 0]
 |some c=>evA c.kind c.x
theorem Q1m(l:V2)(now:Nat)(h:1<=l.rate):l.from_ now<=now*l.rate:=by
 unfold V2.from_;split;·rename_i c;rw[Zw,decide_eq_true_eq]at c;rw[c.2];unfold V2.aU;have d:=Nat.div_add_mod (l.taken+l.rate-1) l.rate;have k:=Nat.mod_lt (l.taken+l.rate-1) (show l.rate>0 from h);rw[Nat.mul_comm]at d;omega
 .exact Zv _
section
variable{A:EAd}{w w' W V:World}{F F1:Fp}{b:Nat}{e:Vi}{x:D7}
theorem V6.last{cs:Array Value}{n:Nat}(h:V6 cs A V F1 b e)(z:cs=Qyg A e)(B:¬F1 n)(c:∀k,F1 k->F k\/(w.heap.size<=k/\k<V.heap.size))(u:Bd F w)(I:w.heap.size<=n)(cV:Qc F w V)(q:Qc (λk=>k=n) V w'):
  Qxn w' (Qn F w w') b e/\Qc F w w':=by
 subst z;have E:Qc F w w':=cV.trans q λk d=>.inr (by omega);exact⟨⟨A,((V6.good _ A b e).aB h q (λk d e=>B (e▸d))).lift (λk d=>(c k d).elim .inl λh=>.inr ⟨h.1,Nat.lt_of_lt_of_le h.2 q.size⟩) (u.ext E)⟩,E⟩
theorem Qxw.fresh(x:D7)(c:Qh w b (Qxe x).toArray 51):Qxw w (.slice (some ⟨b,0,none⟩) 1 1) [x]:=
 ⟨rfl,.inr ⟨b,1,(Qxe x).toArray,rfl,Nat.zero_le _,c,Zv _,by simp[maxLen],rfl,by simp[Jm,Qxe]⟩⟩
theorem V6.came(h:Qyf A w F b e)(x:D7)(u:w'=(w.alloc (.cells (Qxe x).toArray 51)).setCell ⟨b,7,none⟩ (.slice (some ⟨w.heap.size,0,none⟩) 1 1)):
  Qyf {A with us:=.slice (some ⟨w.heap.size,0,none⟩) 1 1} w' (Qn F w w') b {e with aM:=some x}/\Qc F w w':=by
 obtain⟨G,J,Z,g3,K⟩:=h.underOf;have c:Qc Qb w (w.alloc (.cells (Qxe x).toArray 51)):=(Zg _ _).alloc _;have q:Qh (w.alloc (.cells (Qxe x).toArray 51)) w.heap.size (Qxe x).toArray 51:=Qh.new _ _ _;generalize w.alloc (.cells (Qxe x).toArray 51)=w1 at*;obtain⟨z,B⟩:=K w1 (.slice (some ⟨w.heap.size,0,none⟩) 1 1) (some x) ⟨Qxw.fresh x q,λk R=>by cases R;exact .inr ⟨Zv _,q.lt⟩,J.2.2.ext c⟩ c.none;have I:Qc (λk=>k=b) w1 w':=by rw[u];exact(Zg (λk=>k=b) w1).setCell (a:=⟨b,7,none⟩) _ (.inl rfl)
 obtain⟨U,E⟩:=z.cells (cs':=Qyg {A with us:=.slice (some ⟨w.heap.size,0,none⟩) 1 1} {e with aM:=some x}) I (by rw[u];exact z.blk.1.set' 7 _ rfl);have d:=B.ext E;exact⟨U.lift (Qn.trans B.size E.size) (((V6.good _ A b e).bd h).ext d),d⟩
theorem Qzi(h:Qxn w F b e){K:Nat}(ok:V4 K e)(hK:K<549755813000)(hu:e.aM=none):ZW 46 #[ptr b] w (.tuple #[.agg (evO e.choose.1),.bool e.choose.1.isSome]) λw'=>Qxn w' (Qn F w w') b e.choose.2/\Qc F w w':=by
 obtain⟨A,h⟩:=h;obtain⟨N,bq,hN⟩:=ok.sok;have av:=(V6.good (Qyg A e) A b e).bd h;obtain⟨B,af⟩:=Zx (w.alloc (.cells ZH 53));have C0:Hi (Qc Qb w B):=O (by rw[af];exact(Zg _ _).alloc _);have a9:Hi (Qh B w.heap.size ZH 53):=O (by rw[af];exact Qh.new _ _ _);have h0:=h.aB C0.o;have bi:B.heap.size=w.heap.size+1:=by rw[af];simp
 have HB:=O h0.blk.1;obtain⟨G,ai⟩:∃G:Fp,G=λk=>F k/\k≠b:=⟨_,rfl⟩;have bj:¬G b:=by rw[ai];exact λh=>h.2 rfl
 have hG:∀k,G k->F k:=by rw[ai];exact λk h=>h.1
 have aq:Hi (∀w',Qc Qb B w'->ZW 25 #[ptr A.sb,ZU e.now] w' (.tuple #[.agg (Bq (e.sched.next e.now).1),.bool (e.sched.next e.now).1.isSome]) λaz=>Qyf A az (Qn F w' az) b {e with sched:=(e.sched.next e.now).2}/\Qc G w' az):=O (λw' cc=>by
  obtain⟨G',hS,bz,bk,U⟩:=(h0.aB cc).schedOf;refine(Pg hS bq (by omega) e.now).mono ?_;rintro r w2⟨rfl,h2,c2⟩;obtain⟨m1,m2⟩:=U w2 _ h2 c2;exact⟨rfl,m1,c2.sub λk d=>by rw[ai];exact⟨bz k d,λe=>bk (e▸d)⟩⟩)
 have NG:Hi (∀k,w.heap.size<=k->¬F k):=O (λk d b0=>by have:=av _ b0;omega);have J:=O hG;have bb:=O av;have ar:=O bi;have CH:=O (ok.choose hu);have RT:=O (Zt (show Qy9 e.link from⟨by rw[ok.lrate];exact ok.rate,ok.taken⟩) (Zt (Zp ok.now ok.hor.2) (Zt (show e.link.from_ e.now<=1152921504606846976 from Zp (Q1m _ _ (by rw[ok.lrate];exact ok.rate.1)) (by rw[ok.lrate];exact Zp (Nat.mul_le_mul (Zp ok.now ok.hor.2) ok.rate.2) (by decide))) ok.book)));obtain⟨o,ho⟩:=Zx ((e.sched.next e.now).1);obtain⟨s1,ax⟩:=Zx ((e.sched.next e.now).2);rw[<-ho,<-ax]at aq;have HO:=O (Zt ho ax);have bu:=O af;clear ho ax bi;have a0:=Av h0.blk.1;have ab:=O (λ(w')(c:Qc G B w')=>Av (c.blk HB.o bj));clear h h0 bj hG ai av bq hN ok af hu;apply WH func46;go_wp2_with fail;rw[<-bu.o];go_cut [4,5] (λs4 s5 wz=>(∃r F1,s4=ZP r/\Qh wz r (Bq o) 70/\Qyf A wz F1 b {e with sched:=s1}/\¬F1 r/\¬F1 w.heap.size/\(∀k,F1 k->F k\/(w.heap.size<=k/\k<wz.heap.size))/\w.heap.size<r)/\s5=.bool o.isSome/\
  Qh wz w.heap.size ZH 53/\Qc F w wz)
 case first=>
  refine Ui (.lookp 0 (.lookp 1 (.lookp 2 (.lookp 3 (.lookp 4 (.lookp 5 (.lookp 6 (.lookp 7 (.fork 8 (.lookp 9 (.lookp 10 (.lookp 11 (.walk 12 (.walk 13 (.walk 14 .nil)))))) 12 (.walk 8 (.look 9 (.look 10 (.lookp 11 (.walk 13 (.walk 14 .nil))))))))))))))) (λz=>Qc (G) (B) z) Zq (by kernel_rfl) (λ_ _ _ _ _ h=>h) Z0 ?_;simp only[O0,Zf,Ze,Zd];iterate 3 (first|refine Vd (h:=?_)|refine Xi (h:=?_);try simp only[Act.put,Za,Zc,Zb])
  iterate 1 (apply YL λz E=>ab.o z E)
  iterate 3 (first|refine Vd (h:=?_)|refine Xi (h:=?_);try simp only[Act.put,Za,Zc,Zb])
  iterate 1 (apply YL λz E=>ab.o z E)
  clear a0;refine Gn ?_ ?_
  .go_wp2_with fail;refine(aq.o _ (Zg Qb B).drew).mono ?_;rintro r w2⟨rfl,h2,c2⟩;have C2:Hi (Qc G B w2):=O ((Zg G B).drew.aA c2);have H2:=O h2;clear h2 c2;go_wp2_with fail;refine⟨C2.o,?_⟩;iterate 3 (first|refine Vd (h:=?_)|refine Xi (h:=?_);try simp only[Act.put,Za,Zc,Zb])
   refine Xt ?_;go_wp2_with fail;refine⟨C2.o.alloc _,?_⟩;obtain⟨W3,s3,ae,C3⟩:=Q0 (P:=prog) (vs:=Bq o) (Qh.new w2 ZK 70) (Q1u o) (Q1z _);have D3:Hi (Qc G B W3):=O ((C2.o.alloc _).trans C3 (λk e=>.inr (by have:=C2.o.size;omega)));have N3:Hi (Qc Qb w2 W3):=O (((Zg Qb w2).alloc _).trans C3 (λk e=>.inr (by omega)));have an:=O ae;clear ae C3;refine Xt ?_;go_wp2_with fail;refine⟨D3.o,?_⟩;refine Xt ?_;go_wp2_with fail;refine⟨D3.o,?_⟩;refine U9 ?_;clear s3;go_wp2_with fail;go_meet;have cF:=C0.o.none.aA (D3.o.sub J.o);have I:=C2.o.size;have z2:=ar.o;have z3:=N3.o.size;exact⟨⟨_,Qn F B.drew w2,rfl,an.o,H2.o.aB N3.o,λd=>d.elim (λd=>NG.o _ (by omega) d) (λd=>by omega),λd=>d.elim (λd=>NG.o _ (Zv _) d) (λd=>by have:=d.1;simp only[World.size_drew]at this;omega),λk d=>d.elim .inl (λd=>.inr ⟨by have:=d.1;simp only[World.size_drew]at this;omega,by omega⟩),by omega⟩,rfl,D3.o.blk a9.o (λd=>NG.o _ (Zv _) (J.o _ d)),cF⟩
  .go_wp2_with fail;have CA:=O ((Zg Qb B).drew.alloc (.cells ZK 70));have BA:Hi (Qh (B.drew.alloc (.cells ZK 70)) B.heap.size ZK 70):=O (Qh.new B.drew _ _);refine⟨CA.o.mono (λk h=>h.elim),?_⟩;refine Xt ?_;go_wp2_with fail;refine(aq.o _ CA.o).mono ?_;rintro r w2⟨rfl,h2,c2⟩;have C2:Hi (Qc G B w2):=O ((CA.o.none (F:=G)).aA c2);have H2:=O h2;obtain⟨W3,s3,ae,C3⟩:=Q0 (P:=prog) (vs:=Bq o) (c2.blk BA.o (λd=>NG.o _ (by have:=ar.o;omega) (J.o _ d))) (Q1u o) (Q1z _);have an:=O ae;have N3:Hi (Qc (λk=>k=B.heap.size) w2 W3):=O (C3);have D3:Hi (Qc G B W3):=O (C2.o.trans C3 (λk e=>.inr (by omega)));clear h2 c2 ae C3;go_wp2_with fail;refine⟨C2.o,?_⟩;iterate 3 (first|refine Vd (h:=?_)|refine Xi (h:=?_);try simp only[Act.put,Za,Zc,Zb])
   refine Xt ?_;go_wp2_with fail;refine⟨D3.o,?_⟩;refine Xt ?_;go_wp2_with fail;refine⟨D3.o,?_⟩;refine U9 ?_;clear s3;go_wp2_with fail;go_meet;have cF:=C0.o.none.aA (D3.o.sub J.o);have I:=CA.o.size;have z2:=N3.o.size;have z3:=ar.o;have z4:=BA.o.lt;obtain⟨ba,be⟩:=Zx (B.drew.alloc (.cells ZK 70));have bc:=H2.o;rw[<-be]at bc I z4;have nr:¬Qn F ba w2 B.heap.size:=λd=>d.elim (λd=>NG.o _ (by omega) d) (λd=>by omega);exact⟨⟨_,Qn F ba w2,rfl,an.o,(V6.good _ A b _).aB bc N3.o (λk d e=>nr (e▸d)),nr,λd=>d.elim (λd=>NG.o _ (Zv _) d) (λd=>by omega),λk d=>d.elim .inl (λd=>.inr ⟨by omega,by omega⟩),by omega⟩,rfl,D3.o.blk a9.o (λd=>NG.o _ (Zv _) (J.o _ d)),cF⟩
 case rest=>
  obtain⟨⟨r,F1,rfl,hR,hA,nr,nE,Z,hr⟩,rfl,hE,cW⟩:=hcut;obtain⟨V,hV⟩:=Zx wc;rw[<-hV]at hR hA hE cW Z|-;clear hV a0;have HA:=O hA;have CW:=O cW;have NN:=O (Zt nr (Zt nE (Zt Z hr)));cases o with
  |none=>
   obtain⟨bd,ag⟩:e.choose=(none,e)/\({e with sched:=s1}:Vi)=e:=by
    obtain⟨h1,h2⟩:=HO.o;rcases CH.o with⟨hc,_⟩|⟨c,s,hc,_⟩
    .refine⟨hc,?_⟩;have h3:e.choose=(none,{e with sched:=s1}):=by
      have hp:e.sched.next e.now=(none,s1):=by rw[h1,h2]
      unfold Vi.choose;rw[hp]
     exact(Prod.mk.inj (h3.symm.trans hc)).2
    .rw[hc]at h1;cases h1
   rw[ag]at hA;have ao:=O bd;have ap:=O (λw'(c9:Qc (λk=>k=w.heap.size) V w')=>hA.last (w':=w') rfl nE Z bb.o (Zv _) cW c9);have z0:=Av hE;have fE:=hE.frozen;clear hR hA hE cW Z nr nE hr bd ag;go_wp2_with fail;rw[ao.o];refine bodyPost_ret (v:=.tuple #[.agg (evO none),.bool false]) (by unfold evO;rw[results_cell_tmp (p:=2) (u:=3) (ty:=53) (by kernel_rfl)];go_simp;try rfl) rfl ⟨rfl,ap.o _ ?_⟩;iterate 9 (with_reducible refine Qc.setCell ?_ _ (Or.inl rfl))
   exact Zg _ _
  |some c=>
   obtain⟨b1,ak,bf,bg,bh⟩:e.sched.next e.now=(some c,s1)/\e.choose=(some ⟨1,e.chosen c⟩,{e with sched:=s1,link:=e.link.send e.now c.p.len,aM:=some (e.chosen c),book:=e.book.tell c.p.cls (Qwn c.p c.rule)})/\e.link.sendE e.now c.p.len=0/\Ll c.p/\(c.rule=1\/c.rule=2):=by
    obtain⟨h1,h2⟩:=HO.o;have hp:e.sched.next e.now=(some c,s1):=by rw[h1,h2]
    rcases CH.o with⟨hc,_⟩|⟨c',s,hc,ak,_,_,hs,hg,hr,_⟩
    .have h3:e.choose=(some ⟨1,e.chosen c⟩,{e with sched:=s1,link:=e.link.send e.now c.p.len,aM:=some (e.chosen c),book:=e.book.tell c.p.cls (Qwn c.p c.rule)}):=by unfold Vi.choose;rw[hp]
     rw[h3]at hc;cases hc
    .rw[hp]at hc;cases hc;exact⟨hp,ak,hs,hg,hr⟩
   obtain⟨bl,bm,bo,bp⟩:=RT.o;have ao:=O ak;obtain⟨tl,ay⟩:=Zx (e.link.til e.now c.p.len);have bw:Hi (e.chosen c=⟨c.p,c.rule,e.now,tl,c.due⟩):=O (by unfold Vi.chosen;rw[ay]);have au:Hi (∀w1,Qc Qb V w1->ZW 83 #[ptr A.lb,ZU e.now,ZI c.p.len] w1 (.tuple #[ZU tl,ZI 0]) λw2=>Qyf A w2 (Qn F1 w1 w2) b {e with sched:=s1,link:=e.link.send e.now c.p.len}/\Qc F1 w1 w2):=O (λw1 c1=>by
    obtain⟨G,hL,_,_,U⟩:=(hA.aB c1).linkOf;rw[ay];refine(Q0x hL bl bf bm bo).mono ?_;rintro r w2⟨rfl,h2,c2⟩;obtain⟨m1,m2⟩:=U w2 _ h2 c2;exact⟨rfl,m1,m2⟩)
   have DR:=(Zg Qb V).drew;have z0:=Av (DR.blk hA.blk.1 (λh=>h));have r0:=Lf (show Qh V.drew r #[ZU c.p.id,ZI c.p.cls,ZI c.p.len,ZU c.p.at_,.int .u8 c.rule,ZU c.due] _ from DR.blk hR (λh=>h));have b2:=O ((V6.good _ A b _).bd hA);have ah:=O (Zt hR hE);have ac:=O (Zt bg (Zt bh bp));clear hR hA hE cW Z nr nE hr b1 ak bf bg bh bl bm bo bp ay DR;go_wp2_with fail;apply XC 32100200000000000 (λ_=>True) V;apply YA 0;clear z0 r0;go_wp2_with fail;refine(au.o _ (Zg Qb V).drew).mono ?_;rintro rr q⟨rfl,h4,c4⟩;have H4:=O (show Qyf A q (Qn F1 V q) b _ from h4);have C4:=O c4.aT;clear h4 c4;go_wp2_with fail;refine⟨C4.o.sub λ_ _=>trivial,?_⟩;apply YA 0;go_wp2_with fail;refine⟨C4.o.sub λ_ _=>trivial,?_⟩;apply YI 0;have R4:=O (C4.o.blk ah.o.1 NN.o.1);have E4:=O (C4.o.blk ah.o.2 NN.o.2.1);obtain⟨z0,I,z2,z3,z4,z5,z6,z7,z8⟩:=Av H4.o.blk.1;obtain⟨r0,r1,r2,r3,r4,r5⟩:=Lf (show Qh q r #[ZU c.p.id,ZI c.p.cls,ZI c.p.len,ZU c.p.at_,.int .u8 c.rule,ZU c.due] _ from R4.o);have aa:=O (λ(z)(E:Qc Qb q z)=>Zt (Av (E.blk H4.o.blk.1 (λh=>h))) (Lf (show Qh z r #[ZU c.p.id,ZI c.p.cls,ZI c.p.len,ZU c.p.at_,.int .u8 c.rule,ZU c.due] _ from E.blk R4.o (λh=>h))));go_wp2_with fail;apply XC 32111111111111 Qb q
   (refine Qy (h:=?_);try simp only[Act.put,Za,Zc,Zb]);iterate 1 (refine Qy (by kernel_rfl) (λz E=>by(obtain⟨⟨z0,I,z2,z3,z4,z5,z6,z7,z8⟩,r0,r1,r2,r3,r4,r5⟩:=aa.o z E);go_simp;try rfl) ?_;try simp only[Act.put,Za,Zc,Zb])
   (refine Qy (h:=?_);try simp only[Act.put,Za,Zc,Zb]);iterate 1 (refine Qy (by kernel_rfl) (λz E=>by(obtain⟨⟨z0,I,z2,z3,z4,z5,z6,z7,z8⟩,r0,r1,r2,r3,r4,r5⟩:=aa.o z E);go_simp;try rfl) ?_;try simp only[Act.put,Za,Zc,Zb])
   iterate 3 (refine Qy (h:=?_);try simp only[Act.put,Za,Zc,Zb])
   iterate 1 (refine Qy (by kernel_rfl) (λz E=>by(obtain⟨⟨z0,I,z2,z3,z4,z5,z6,z7,z8⟩,r0,r1,r2,r3,r4,r5⟩:=aa.o z E);go_simp;try rfl) ?_;try simp only[Act.put,Za,Zc,Zb])
   iterate 2 (refine Qy (h:=?_);try simp only[Act.put,Za,Zc,Zb])
   iterate 1 (refine Qy (by kernel_rfl) (λz E=>by(obtain⟨⟨z0,I,z2,z3,z4,z5,z6,z7,z8⟩,r0,r1,r2,r3,r4,r5⟩:=aa.o z E);go_simp;try rfl) ?_;try simp only[Act.put,Za,Zc,Zb])
   apply YA 0;clear z0 I z2 z3 z4 z5 z6 z7 z8 r0 r1 r2 r3 r4 r5;go_wp2_with fail;refine⟨(Zg Qb q).drew.alloc _,?_⟩;apply YI 0;obtain⟨W6,aj⟩:=Zx ((q.alloc (.cells #[ZU c.p.id,ZI c.p.cls,ZI c.p.len,ZU c.p.at_,.int .u8 c.rule,ZU e.now,ZU tl,ZU c.due] 51)).drew);rw[<-aj];have C6:Hi (Qc Qb q W6):=O (by rw[aj];exact((Zg _ _).alloc _).drew);have S6:Hi (Qh W6 q.heap.size #[ZU c.p.id,ZI c.p.cls,ZI c.p.len,ZU c.p.at_,.int .u8 c.rule,ZU e.now,ZU tl,ZU c.due] 51):=O (by rw[aj];exact(Qh.new _ _ _).drew);have H6:=O (H4.o.aB C6.o);have SZ:Hi (q.heap.size+1<=W6.heap.size):=O (S6.o.lt);obtain⟨W7,aw⟩:=Zx ((W6.alloc (.cells #[ZU c.p.id,ZI c.p.cls,ZI c.p.len,ZU c.p.at_,.int .u8 c.rule,ZU e.now,ZU tl,ZU c.due] 51)).setCell ⟨b,7,none⟩ (.slice (some ⟨W6.heap.size,0,none⟩) 1 1));have bv:=O aw;have H7:=O (H6.o.came ⟨c.p,c.rule,e.now,tl,c.due⟩ (w':=W7) aw);have br:Hi (∀k,Qn F1 V q k->k<q.heap.size):=O ((V6.good _ A b _).bd H4.o);have N7:Hi ((∀k,k<W6.heap.size->¬Qn F1 V q k->¬Qn (Qn F1 V q) W6 W7 k)):=O (λk h1 h2 h3=>h3.elim h2 (λh=>by omega));have R:Hi (r<V.heap.size/\w.heap.size<V.heap.size/\V.heap.size<=q.heap.size):=O (⟨ah.o.1.lt,ah.o.2.lt,C4.o.size⟩);have M4:Hi (¬Qn F1 V q r/\¬Qn F1 V q w.heap.size/\¬Qn F1 V q q.heap.size):=O (⟨λh=>h.elim NN.o.1 (λh=>by have:=R.o.1;omega),λh=>h.elim NN.o.2.1 (λh=>by have:=R.o.2.1;omega),λh=>by have:=br.o _ h;omega⟩);have M7:Hi (¬Qn (Qn F1 V q) W6 W7 r/\¬Qn (Qn F1 V q) W6 W7 w.heap.size/\¬Qn (Qn F1 V q) W6 W7 q.heap.size):=O (by
    have h1:=R.o;have h2:=SZ.o;exact⟨N7.o _ (by omega) M4.o.1,N7.o _ (by omega) M4.o.2.1,N7.o _ (by omega) M4.o.2.2⟩)
   have R7:=O (H7.o.2.blk (C6.o.blk R4.o (λh=>h)) M4.o.1);have E7:=O (H7.o.2.blk (C6.o.blk E4.o (λh=>h)) M4.o.2.1);have S7:=O (H7.o.2.blk S6.o M4.o.2.2);have bt:Hi (ZW 84 #[ptr A.kb,.agg (ZL c.p),.int .u8 c.rule] W7.drew (.tuple #[]) λw8=>Qyf {A with us:=(.slice (some ⟨W6.heap.size,0,none⟩) 1 1)} w8 (Qn (Qn (Qn F1 V q) W6 W7) W7 w8) b {e with sched:=s1,link:=e.link.send e.now c.p.len,aM:=some ⟨c.p,c.rule,e.now,tl,c.due⟩,book:=e.book.tell c.p.cls (Qwn c.p c.rule)}/\Qc (Qn (Qn F1 V q) W6 W7) W7 w8):=O (by
    obtain⟨G,hB,_,_,U⟩:=(H7.o.1.aB (Zg Qb W7).drew).bookOf;refine(Qz3 hB ac.o.2.2 c.p ac.o.1 c.rule ac.o.2.1).mono ?_;rintro r w8⟨rfl,h8,c8⟩;obtain⟨m1,m2⟩:=U w8 _ h8 c8;exact⟨rfl,m1,m2.aT⟩)
   have t0:=Ja S6.o;have z0:=Av (H6.o.blk.1.alloc (.cells #[ZU c.p.id,ZI c.p.cls,ZI c.p.len,ZU c.p.at_,.int .u8 c.rule,ZU e.now,ZU tl,ZU c.due] 51));have fb:=(H6.o.blk.1.alloc (.cells #[ZU c.p.id,ZI c.p.cls,ZI c.p.len,ZU c.p.at_,.int .u8 c.rule,ZU e.now,ZU tl,ZU c.due] 51)).frozen;clear aj aw;go_wp2_with fail;rw[<-bv.o];clear t0 z0 fb;have z0:=Av H7.o.1.blk.1.drew;have r0:=Lf (show Qh W7.drew r #[ZU c.p.id,ZI c.p.cls,ZI c.p.len,ZU c.p.at_,.int .u8 c.rule,ZU c.due] _ from R7.o.drew);apply XB 200000000;apply YA 0;clear z0 r0;go_wp2_with fail;apply Zo bt;rintro rr w8⟨rfl,h8,c8⟩;have S8:=O (c8.blk S7.o M7.o.2.2);have E8:=O (c8.blk E7.o M7.o.2.1);have al:Hi (∀k,Qn F1 V q k->F k\/(w.heap.size<=k/\k<q.heap.size)):=O (λk h=>h.elim (λh=>(NN.o.2.2.1 k h).elim .inl (λh=>.inr ⟨h.1,by have:=R.o;omega⟩)) (λh=>.inr ⟨by have:=R.o;omega,h.2⟩));have am:Hi (∀k,Qn (Qn F1 V q) W6 W7 k->F k\/(w.heap.size<=k/\k<W7.heap.size)):=O (λk h=>h.elim (λh=>(al.o k h).elim .inl (λh=>.inr ⟨h.1,by have:=SZ.o;have:=H7.o.2.size;omega⟩)) (λh=>.inr ⟨by have:=R.o;have:=SZ.o;omega,h.2⟩));have bs:Hi (Qc F w w8):=O (((((CW.o.trans C4.o (λk h=>(NN.o.2.2.1 k h).elim .inl (λh=>.inr h.1))).trans C6.o (λk h=>h.elim)).trans H7.o.2 (λk h=>(al.o k h).elim .inl (λh=>.inr h.1))).trans c8 (λk h=>(am.o k h).elim .inl (λh=>.inr h.1))));have ap:=O (λw'(c9:Qc (λk=>k=w.heap.size) w8 w')=>h8.last (w:=w) (F:=F) (w':=w') rfl (λh=>h.elim M7.o.2.1 (λh=>by have:=R.o;have:=SZ.o;have:=H7.o.2.size;omega)) (λk h=>h.elim (λh=>(am.o k h).elim .inl (λh=>.inr ⟨h.1,Nat.lt_of_lt_of_le h.2 c8.size⟩)) (λh=>.inr ⟨by have:=R.o;have:=SZ.o;have:=H7.o.2.size;omega,h.2⟩)) bb.o (Zv _) bs.o c9);clear h8 c8;go_wp2_with fail;refine Jo ?_;have t0:=Ja S8.o;have z0:=Av E8.o;have f8:=E8.o.frozen;go_wp2_with fail;rw[ao.o,bw.o];refine bodyPost_ret (v:=.tuple #[.agg (evO (some ⟨1,⟨c.p,c.rule,e.now,tl,c.due⟩⟩)),.bool true]) (by unfold evO evA;rw[results_cell_tmp (p:=2) (u:=3) (ty:=53) (by kernel_rfl)];go_simp;try rfl) rfl ⟨rfl,ap.o _ ?_⟩;iterate 9 (with_reducible refine Qc.setCell ?_ _ (Or.inl rfl))
   exact Zg _ _
end
end
section
variable{A:EAd}{w w' W V:World}{F F1:Fp}{b:Nat}{e:Vi}{x:D7}
theorem Qxn.last{n:Nat}(h:Qxn V F1 b e)(q:¬F1 n)(c:∀k,F1 k->F k\/(w.heap.size<=k/\k<V.heap.size))(d:Bd F w)(z:w.heap.size<=n)(cV:Qc F w V)(u:Qc (λk=>k=n) V w'):
  Qxn w' (Qn F w w') b e/\Qc F w w':=by
 obtain⟨A,h⟩:=h;exact h.last rfl q c d z cV u
theorem Qxn.last'{n:Nat}(h:Qxn V (Qn F W V) b e)(c:Qc F W V)(d:Bd F w)(B:w.heap.size<=n)(E:n<W.heap.size)(u:Qc F w W)(z:Qc (λk=>k=n) V w'):
  Qxn w' (Qn F w w') b e/\Qc F w w':=by
 refine h.last (n:=n) (λq=>q.elim (λh=>by have:=d _ h;omega) (λh=>by omega)) (λk q=>q.elim .inl λh=>.inr ⟨Zp u.size h.1,h.2⟩) d B (u.aA c) z
theorem Qyf.later(h:Qyf A w F b e)(t:Nat):Qyf A (w.setCell ⟨b,3,none⟩ (ZU t)) (Qn F w (w.setCell ⟨b,3,none⟩ (ZU t))) b {e with now:=t}/\Qc F w (w.setCell ⟨b,3,none⟩ (ZU t)):=by obtain⟨c,d⟩:=V6.cells (cs':=Qyg A {e with now:=t}) h ((Zg (λk=>k=b) w).setCell (a:=⟨b,3,none⟩) _ (.inl rfl)) (h.blk.1.set' 3 _ rfl);exact⟨c,d⟩
theorem Qz0(h:Qxn w F b e){K:Nat}(ok:V4 K e)(hK:K<549755813000)(hg:∀x,e.aM=some x->Ll x.p)(til:Nat):ZW 18 #[ptr b,ZU til] w (.tuple #[.agg (evO (e.step til).1),.bool (e.step til).1.isSome]) λw'=>Qxn w' (Qn F w w') b (e.step til).2/\Qc F w w':=by
 obtain⟨A,h⟩:=h;have ay:=(V6.good (Qyg A e) A b e).bd h;obtain⟨W0,ak⟩:=Zx (w.alloc (.cells ZH 53));have C0:Hi (Qc Qb w W0):=O (by rw[ak];exact(Zg _ _).alloc _);have an:Hi (Qh W0 w.heap.size ZH 53):=O (by rw[ak];exact Qh.new _ _ _);have H0:=O (h.aB C0.o);have HN:=O (Qyv H0.o.blk.1);have d:=O ay;have ax:=O ak;have OK:=O ok;clear h ay ak ok;cases hs:e.stopped with
 |true=>
  have ba:e.step til=(none,e):=by unfold Vi.step;rw[if_pos hs]
  rw[ba];rw[hs]at HN;clear hs ba;apply WH func18;go_wp2_with fail;rw[<-ax.o];apply Zo HN;rintro r w1⟨rfl,c1⟩;have z0:=Av (c1.blk an.o (λh=>h));have fE:=(c1.blk an.o (λh=>h)).frozen;have z:=O (λw'(c9:Qc (λk=>k=w.heap.size) w1 w')=>V6.last (w:=w) (w':=w') (H0.o.aB c1) rfl (λh=>by have:=d.o _ h;omega) (λk h=>.inl h) d.o (Zv _) (C0.o.none.aA c1.none) c9);clear c1;go_wp2_with fail;refine bodyPost_ret (v:=.tuple #[.agg (evO none),.bool false]) (by unfold evO;rw[results_cell_tmp (p:=4) (u:=5) (ty:=53) (by kernel_rfl)];go_simp;try rfl) rfl ⟨rfl,z.o _ ?_⟩;iterate 9 (with_reducible refine Qc.setCell ?_ _ (Or.inl rfl))
  exact Zg _ _
 |false=>
  rw[hs]at HN;have E1:min (max (til:Int) (e.now:Int)) (e.hor:Int)=((e.clip til:Nat):Int):=by unfold Vi.clip;omega
  have HS:=O hs;clear hs;obtain⟨B,aq⟩:=Zx (e.clip til);rw[<-aq]at E1;have R:=O aq;clear aq;apply WH func18;go_wp2_with fail;rw[<-ax.o];apply Zo HN;rintro r w1⟨rfl,c1⟩;have C1:=O c1;have a0:=Av (H0.o.aB c1).blk.1.drew;clear c1;go_wp2_with fail;apply XB 2000000000000;apply YA 0;clear a0;go_wp2_with fail;refine Jo ?_;obtain⟨U,ap⟩:=Zx (w1.drew);have I:Hi (Qc Qb W0 U):=O (by rw[ap];exact C1.o.drew);rw[<-ap];clear ap E1;have H1:=O (H0.o.aB I.o);have J:=O (I.o.blk an.o (λh=>h));obtain⟨a0,a1,a2,a3,a4,a5,a6,a7,a8⟩:=Av H1.o.blk.1;cases hu:e.aM with
  |some x=>
   obtain⟨g,cap,ag,_,cs,hB,au⟩:=Qxw.one (by obtain⟨G,hU,_⟩:=H1.o.underOf;rw[hu]at hU;exact hU.1);rw[ag]at a7;have g6:U.cell? ⟨g,6,none⟩=some (ZU x.til):=hB.at 6 (au 6 _ rfl);by_cases hx:x.til<=B
   .have d1:decide ((x.til:Int)<=(B:Int))=true:=by simp;omega
    have d2:decide (x.til<=B)=true:=by simp;omega
    have E:Hi (e.step til=(some ⟨2,x⟩,e.through x)):=O (by unfold Vi.step;rw[if_neg (by rw[HS.o];exact Bool.false_ne_true),hu];dsimp only;rw[if_pos (by rw[<-R.o];exact hx)]);have bd:=O (Qz5 ⟨A,H1.o⟩ OK.o (by omega) hu (hg x hu));unfold evA ptr at*;clear hu ag hB au hx;go_wp2_with fail;apply Zo bd;rintro r w2⟨rfl,h2,c2⟩;have z:=O (λw'(c9:Qc (λk=>k=w.heap.size) w2 w')=>h2.last' (w':=w') c2 d.o (Zv _) J.o.lt (C0.o.aA I.o).none c9);have aa:=c2.blk J.o (λh=>by have:=d.o _ h;omega);have z0:=Av aa;have fE:=aa.frozen;clear h2 c2 aa a0 a1 a2 a3 a4 a5 a6 a7 a8 g6;go_wp2_with fail;rw[E.o];refine bodyPost_ret (v:=.tuple #[.agg (evO (some ⟨2,x⟩)),.bool true]) (by unfold evO evA;rw[results_cell_tmp (p:=4) (u:=5) (ty:=53) (by kernel_rfl)];go_simp;try rfl) rfl ⟨rfl,z.o _ ?_⟩;iterate 9 (with_reducible refine Qc.setCell ?_ _ (Or.inl rfl))
    exact Zg _ _
   .have d1:decide ((x.til:Int)<=(B:Int))=false:=by simp;omega
    have d2:decide (x.til<=B)=false:=by simp;omega
    have E:Hi (e.step til=(none,{e with now:=B})):=O (by unfold Vi.step;rw[if_neg (by rw[HS.o];exact Bool.false_ne_true),hu];dsimp only;rw[if_neg (by rw[<-R.o];exact hx),<-R.o]);obtain⟨h2,c2⟩:=Qyf.later H1.o B;have z:=O (λw'(c9:Qc (λk=>k=w.heap.size) (U.setCell ⟨b,3,none⟩ (ZU B)) w')=>Qxn.last' (w':=w') ⟨A,h2⟩ c2 d.o (Zv _) J.o.lt (C0.o.aA I.o).none c9);have aa:=c2.blk J.o (λh=>by have:=d.o _ h;omega);have z0:=Av aa;have fE:=aa.frozen;have fb:=H1.o.blk.1.frozen;clear h2 c2 aa hu ag hB au hx;go_wp2_with fail;rw[E.o];refine bodyPost_ret (v:=.tuple #[.agg (evO none),.bool false]) (by unfold evO;rw[results_cell_tmp (p:=4) (u:=5) (ty:=53) (by kernel_rfl)];go_simp;try rfl) rfl ⟨rfl,z.o _ ?_⟩;iterate 9 (with_reducible refine Qc.setCell ?_ _ (Or.inl rfl))
    exact Zg _ _
  |none=>
   have HU:=O hu;obtain⟨ad,cap,ag,_⟩:=Own.row Qws (show Qxw U A.us e.aM.toList from by obtain⟨G,hU,_⟩:=H1.o.underOf;exact hU.1);rw[ag,hu]at a7;obtain⟨N,bb,_⟩:=OK.o.sok;have aw:Hi (∀w',Qc Qb U w'->ZW 17 #[ptr A.sb] w' (ZU ((e.sched.tick:Nat):Int)) λbe=>Qc Qb w' be):=O (λw' c=>by
    obtain⟨G,⟨AS,hS⟩,_⟩:=(H1.o.aB c).schedOf;exact Qbo hS bb)
   obtain⟨tk,am⟩:=Zx (e.sched.tick);obtain⟨Z,al⟩:=Zx (max e.now tk);rw[<-am]at aw;have E2:max (e.now:Int) (tk:Int)=(Z:Int):=by rw[al];omega
   have E3:min (Z:Int) (B:Int)=((min Z B:Nat):Int):=by omega
   have af:=O (show Z=max e.now e.sched.tick by rw[al,am]);have av:=O (λ(wv)(hv:Qc Qb U wv)=>Av (H1.o.aB hv).blk.1);have HT:=O (Zt am al);clear am al ag hu bb;go_wp2_with fail;apply XC 30200001111 Qb U;iterate 3 (refine Qy (h:=?_);try simp only[Act.put,Za,Zc,Zb])
   iterate 1 (apply YK λwv hv=>av.o wv hv)
   apply YA 0;clear a0 a1 a2 a3 a4 a5 a6 a7 a8;go_wp2_with fail;refine(aw.o _ (Zg Qb U).drew).mono ?_;rintro r w2⟨rfl,c2⟩;have C2:Hi (Qc Qb U w2):=O (c2.aT);clear c2;go_wp2_with fail;refine⟨C2.o,?_⟩;apply YI 0;obtain⟨W2,az⟩:=Zx w2;rw[<-az]at C2|-;clear az E2;have H2:=O (H1.o.aB C2.o);have z0:=Av H2.o.blk.1;by_cases ht:e.now<tk
   .have d1:decide ((e.now:Int)<(Z:Int))=true:=by have q:=HT.o;simp;omega
    have d2:decide (e.now<Z)=true:=by have q:=HT.o;simp;omega
    have ao:Hi (e.idle B={e with link:=e.link.idle e.now,now:=min Z B}):=O (by unfold Vi.idle;rw[if_pos (by rw[<-HT.o.1];exact ht),<-af.o]);have bc:Hi (ZW 45 #[ptr A.lb,ZU e.now] W2.drew (.tuple #[]) λw3=>Qyf A w3 (Qn F U w3) b {e with link:=e.link.idle e.now}/\Qc F U w3):=O (by
     obtain⟨G,hL,_,_,a9⟩:=(H2.o.aB (Zg Qb W2).drew).linkOf;refine(Q0w hL ⟨by rw[OK.o.lrate];exact OK.o.rate,OK.o.taken⟩ e.now).mono ?_;rintro r w3⟨rfl,h3,c3⟩;obtain⟨m1,m2⟩:=a9 w3 _ h3 c3;have cc:Qc F U w3:=C2.o.none.aA m2.aT;exact⟨rfl,m1.lift (Ke C2.o.size) ((d.o.later (C0.o.aA I.o)).ext cc),cc⟩)
    have x0:=Av H2.o.blk.1.drew;clear ht;go_wp2_with fail;apply XB 200000000;apply YA 0;clear x0 z0;go_wp2_with fail;apply Zo bc;rintro r wv⟨rfl,h3,c3⟩;have HV:=O (Zt h3 c3);clear h3 c3;go_wp2_with fail;refine Jo ?_;have z0:=Av HV.o.1.blk.1;have fb:=HV.o.1.blk.1.frozen;obtain⟨W5,ae⟩:=Zx (wv.setCell ⟨b,3,none⟩ (ZU ((min Z B:Nat):Int)));have ac:=O ae;have H5:Hi (Qxn W5 (Qn F U W5) b (e.idle B)/\Qc F U W5):=O (by
     obtain⟨h2,c2⟩:=Qyf.later HV.o.1 (min Z B);rw[<-ae]at h2 c2;have cc:=HV.o.2.ext c2;rw[ao.o];exact⟨⟨A,h2.lift (Qn.trans HV.o.2.size c2.size) ((d.o.later (C0.o.aA I.o)).ext cc)⟩,cc⟩)
    have ah:=O (H5.o.2.blk J.o (λh=>by have:=d.o _ h;omega));clear ae;by_cases hx:B<Z
    .have d3:=ZT (show B<Z by omega);have E:Hi (e.step til=(none,e.idle B)):=O (by unfold Vi.step;rw[if_neg (by rw[HS.o];exact Bool.false_ne_true),HU.o];dsimp only;rw[<-R.o,<-af.o,if_pos hx]);have z:=O (λw'(c9:Qc (λk=>k=w.heap.size) W5 w')=>H5.o.1.last' (w':=w') H5.o.2 d.o (Zv _) J.o.lt (C0.o.aA I.o).none c9);obtain⟨y0,y1,y2,y3,y4,y5,y6,y7,y8⟩:=Av ah.o;have fE:=ah.o.frozen;rw[ac.o]at y0 y1 y2 y3 y4 y5 y6 y7 y8 fE;rw[ac.o]at z;clear hx;go_wp2_with fail;rw[E.o];refine bodyPost_ret (v:=.tuple #[.agg (evO none),.bool false]) (by unfold evO;rw[results_cell_tmp (p:=4) (u:=5) (ty:=53) (by kernel_rfl)];go_simp;try rfl) rfl ⟨rfl,z.o _ ?_⟩;iterate 9 (with_reducible refine Qc.setCell ?_ _ (Or.inl rfl))
     exact Zg _ _
    .have d3:=ZN (show¬B<Z by omega);have E:Hi (e.step til=(e.idle B).choose):=O (by unfold Vi.step;rw[if_neg (by rw[HS.o];exact Bool.false_ne_true),HU.o];dsimp only;rw[<-R.o,<-af.o,if_neg hx]);have ai:=O (Qzi H5.o.1 (OK.o.idle HU.o (by rw[R.o];exact(Qwo OK.o til).1) (by rw[R.o];exact(Qwo OK.o til).2)) hK HU.o);obtain⟨ch,aj⟩:=Zx ((e.idle B).choose);rw[<-aj]at E ai;obtain⟨o,e'⟩:=ch;clear hx aj;go_wp2_with fail;rw[<-ac.o];clear z0 fb;apply Zo ai;rintro r w6⟨rfl,h6,c6⟩;have C6:=O (H5.o.2.ext c6);have H6:Hi (Qxn w6 (Qn F U w6) b e'):=O (Qxn.obj.more h6 (Qn.trans H5.o.2.size c6.size) ((d.o.later (C0.o.aA I.o)).ext C6.o));have z:=O (λw'(c9:Qc (λk=>k=w.heap.size) w6 w')=>H6.o.last' (w':=w') C6.o d.o (Zv _) J.o.lt (C0.o.aA I.o).none c9);have ab:=C6.o.blk J.o (λh=>by have:=d.o _ h;omega);have y0:=Av ab;have fE:=ab.frozen;clear h6 c6 ab;cases o with
     |none=>
      unfold evO;go_wp2_with fail;rw[E.o];refine bodyPost_ret (v:=.tuple #[.agg (evO none),.bool false]) (by unfold evO;rw[results_cell_tmp (p:=4) (u:=5) (ty:=53) (by kernel_rfl)];go_simp;try rfl) rfl ⟨rfl,z.o _ ?_⟩;iterate 9 (with_reducible refine Qc.setCell ?_ _ (Or.inl rfl))
      exact Zg _ _
     |some ev=>
      unfold evO evA;go_wp2_with fail;rw[E.o];refine bodyPost_ret (v:=.tuple #[.agg (evO (some ev)),.bool true]) (by unfold evO evA;rw[results_cell_tmp (p:=4) (u:=5) (ty:=53) (by kernel_rfl)];go_simp;try rfl) rfl ⟨rfl,z.o _ ?_⟩;iterate 9 (with_reducible refine Qc.setCell ?_ _ (Or.inl rfl))
      exact Zg _ _
   .have d1:decide ((e.now:Int)<(Z:Int))=false:=by have q:=HT.o;simp;omega
    have d2:decide (e.now<Z)=false:=by have q:=HT.o;simp;omega
    have ao:Hi (e.idle B={e with now:=min Z B}):=O (by unfold Vi.idle;rw[if_neg (by rw[<-HT.o.1];exact ht),<-af.o]);obtain⟨wv,ar⟩:=Zx W2;have HV:Hi (Qyf A wv (Qn F U wv) b e/\Qc F U wv):=O (by rw[ar];exact⟨H2.o.lift (λk h=>.inl h) ((d.o.later (C0.o.aA I.o)).ext C2.o),C2.o.none⟩);rw[<-ar];clear ht z0 ar;have z0:=Av HV.o.1.blk.1;have fb:=HV.o.1.blk.1.frozen;obtain⟨W5,ae⟩:=Zx (wv.setCell ⟨b,3,none⟩ (ZU ((min Z B:Nat):Int)));have ac:=O ae;have H5:Hi (Qxn W5 (Qn F U W5) b (e.idle B)/\Qc F U W5):=O (by
     obtain⟨h2,c2⟩:=Qyf.later HV.o.1 (min Z B);rw[<-ae]at h2 c2;have cc:=HV.o.2.ext c2;rw[ao.o];exact⟨⟨A,h2.lift (Qn.trans HV.o.2.size c2.size) ((d.o.later (C0.o.aA I.o)).ext cc)⟩,cc⟩)
    have ah:=O (H5.o.2.blk J.o (λh=>by have:=d.o _ h;omega));clear ae;by_cases hx:B<Z
    .have d3:=ZT (show B<Z by omega);have E:Hi (e.step til=(none,e.idle B)):=O (by unfold Vi.step;rw[if_neg (by rw[HS.o];exact Bool.false_ne_true),HU.o];dsimp only;rw[<-R.o,<-af.o,if_pos hx]);have z:=O (λw'(c9:Qc (λk=>k=w.heap.size) W5 w')=>H5.o.1.last' (w':=w') H5.o.2 d.o (Zv _) J.o.lt (C0.o.aA I.o).none c9);obtain⟨y0,y1,y2,y3,y4,y5,y6,y7,y8⟩:=Av ah.o;have fE:=ah.o.frozen;rw[ac.o]at y0 y1 y2 y3 y4 y5 y6 y7 y8 fE;rw[ac.o]at z;clear hx;go_wp2_with fail;rw[E.o];refine bodyPost_ret (v:=.tuple #[.agg (evO none),.bool false]) (by unfold evO;rw[results_cell_tmp (p:=4) (u:=5) (ty:=53) (by kernel_rfl)];go_simp;try rfl) rfl ⟨rfl,z.o _ ?_⟩;iterate 9 (with_reducible refine Qc.setCell ?_ _ (Or.inl rfl))
     exact Zg _ _
    .have d3:=ZN (show¬B<Z by omega);have E:Hi (e.step til=(e.idle B).choose):=O (by unfold Vi.step;rw[if_neg (by rw[HS.o];exact Bool.false_ne_true),HU.o];dsimp only;rw[<-R.o,<-af.o,if_neg hx]);have ai:=O (Qzi H5.o.1 (OK.o.idle HU.o (by rw[R.o];exact(Qwo OK.o til).1) (by rw[R.o];exact(Qwo OK.o til).2)) hK HU.o);obtain⟨ch,aj⟩:=Zx ((e.idle B).choose);rw[<-aj]at E ai;obtain⟨o,e'⟩:=ch;clear hx aj;go_wp2_with fail;rw[<-ac.o];clear z0 fb;apply Zo ai;rintro r w6⟨rfl,h6,c6⟩;have C6:=O (H5.o.2.ext c6);have H6:Hi (Qxn w6 (Qn F U w6) b e'):=O (Qxn.obj.more h6 (Qn.trans H5.o.2.size c6.size) ((d.o.later (C0.o.aA I.o)).ext C6.o));have z:=O (λw'(c9:Qc (λk=>k=w.heap.size) w6 w')=>H6.o.last' (w':=w') C6.o d.o (Zv _) J.o.lt (C0.o.aA I.o).none c9);have ab:=C6.o.blk J.o (λh=>by have:=d.o _ h;omega);have y0:=Av ab;have fE:=ab.frozen;clear h6 c6 ab;cases o with
     |none=>
      unfold evO;go_wp2_with fail;rw[E.o];refine bodyPost_ret (v:=.tuple #[.agg (evO none),.bool false]) (by unfold evO;rw[results_cell_tmp (p:=4) (u:=5) (ty:=53) (by kernel_rfl)];go_simp;try rfl) rfl ⟨rfl,z.o _ ?_⟩;iterate 9 (with_reducible refine Qc.setCell ?_ _ (Or.inl rfl))
      exact Zg _ _
     |some ev=>
      unfold evO evA;go_wp2_with fail;rw[E.o];refine bodyPost_ret (v:=.tuple #[.agg (evO (some ev)),.bool true]) (by unfold evO evA;rw[results_cell_tmp (p:=4) (u:=5) (ty:=53) (by kernel_rfl)];go_simp;try rfl) rfl ⟨rfl,z.o _ ?_⟩;iterate 9 (with_reducible refine Qc.setCell ?_ _ (Or.inl rfl))
      exact Zg _ _
end
section
open Go.Shelf
section
variable{A:EAd}{w w' W V:World}{F F1:Fp}{b:Nat}{e:Vi}{x:D7}
def evE(x:EvM):Array Value:=#[.agg (evA x.kind x.x)]
theorem Q1g(n l s Be Bt b til:Nat)(hn:1<=n){K:Nat}(hK:K<549755813000)(U:Fp)(J:World->Prop)(hF:∀k,F k->k<s)(hU:∀k,U k->k<s/\¬F k)
  (hJ:∀A B,J A->Qc (λk=>¬U k/\k≠s/\k≠s+1) A B->J B)
  (hY:∀x A,J A->YieldAt Fence.wide (n-1) prog l (evE x) A λr B=>r=.returned (.bool true)/\J B/\Qc (λk=>U k\/k=s+1) A B)
  (W:World) (hW:s+2<=W.heap.size) (am:Qh W Be #[ptr b] 36) (an:Qh W Bt #[ZU til] 22) (h1:Be<s/\¬F Be/\¬U Be) (Z:Bt<s/\¬F Bt/\¬U Bt)
  (h:Qxn W F b e) (ok:V4 K e) (u:Fr e) (h0:J W):
  CallsIn Fence.wide n prog 123 #[.func (.yield l) #[] #[],ZP Be,ZP Bt] W λr W'=>(∃v,r=.returned v)/\J W'/\Qxn W' (Qn F W W') b (e.run til)/\Qc (λk=>F k\/U k\/k=s+1) W W':=by
 have ae:=Qxn.obj.bd h;have aq:Hi (∀wr d,V4 K d->Fr d->Qxn wr (Qn F W wr) b d->Qc (λk=>F k\/U k\/k=s+1) W wr->J wr->d.run til=e.run til->ZW 18 #[ptr b,ZU til] wr (.tuple #[.agg (evO (d.step til).1),.bool (d.step til).1.isSome]) λw2=>Qxn w2 (Qn F W w2) b (d.step til).2/\Qc (Qn F W wr) wr w2):=O (λwr d z u1 h1 c1 j1 hr=>by
  refine(Qz0 h1 z hK u1 til).mono ?_;rintro r w2⟨rfl,Z,R⟩;exact⟨rfl,Qxn.obj.more Z (Qn.trans c1.size R.size) (λk E=>E.elim (λh=>Nat.lt_of_lt_of_le (ae k h) (Zp c1.size R.size)) (λh=>h.2)),R⟩)
 have HJ:=O hJ;have HY:=O hY;have ah:=O (Zt hF (Zt hU (Zt h1 (Zt Z hW))));have ak:=O (Zt am an);have q:Hi (Qxn W (Qn F W W) b e/\Fr e/\V4 K e/\J W):=O (⟨Qxn.obj.more h (λk h=>.inl h) (ae.ext (Zg Qb W)),u,ok,h0⟩);have al:=O ae;clear hJ hY hF hU h1 Z hW am an h ok u h0 ae;refine callsIn_of_wp func123 rfl trivial ?_ rfl;simp only[ntmps123,List.size_toArray,Zm,List.length_nil,Nat.reduceAdd,Nat.reduceSub,Array.replicate_succ,Array.replicate_zero,List.push_toArray,List.append_toArray,List.nil_append,List.cons_append];gi_wp2;gi_loopg [4] (e.left) (λk _ wr=>∃d:Vi,k=d.left/\V4 K d/\Fr d/\Qxn wr (Qn F W wr) b d/\Qc (λk=>F k\/U k\/k=s+1) W wr/\J wr/\d.run til=e.run til);case atStart=>exact⟨e,rfl,q.o.2.2.1,q.o.2.1,q.o.1,Zg _ _,q.o.2.2.2,rfl⟩
 case round=>
  obtain⟨d,rfl,z,u1,h1,c1,j1,hr⟩:=hrel;have I:=O (aq.o wr d z u1 h1 c1 j1 hr);obtain⟨hF,hU,af,ag,aj⟩:=ah.o;have y1:=Jf (c1.blk ak.o.1 (λh=>h.elim af.2.1 (λh=>h.elim af.2.2 (λh=>by omega))));have y2:=Jf (c1.blk ak.o.2 (λh=>h.elim ag.2.1 (λh=>h.elim ag.2.2 (λh=>by omega))));have SX:=z.step til;have ab:=G9 (e:=d) (til:=til);have ac:=λx=>P6 (e:=d) (til:=til) (x:=x) z;have ux:=u1.step z til;obtain⟨st,ai⟩:=Zx (d.step til);rw[<-ai]at I SX ab ac ux;obtain⟨o,e2⟩:=st;dsimp only at I SX ab ac ux;have aa:Hi (∀w2 wz,Qxn w2 (Qn F W w2) b e2->Qc (Qn F W wr) wr w2->Qc Qb w2 wz->J wz/\Qxn wz (Qn F W wz) b e2/\Qc (λk=>F k\/U k\/k=s+1) W wz):=O (by
   intro w2 wz Z R cz;have c3:Qc (Qn F W wr) wr wz:=R.trans cz λk h=>h.elim;obtain⟨p1,p2⟩:=Qxn.obj.same Z cz;refine⟨HJ.o wr wz j1 (c3.mono λk E=>.inl ?_),Qxn.obj.more p1 (Qn.trans (Zp c1.size R.size) cz.size) (λk E=>(al.o.ext ((c1.trans c3 (λk E=>E.elim (λh=>.inl (.inl h)) (λh=>.inr h.1))):Qc (λk=>F k\/U k\/k=s+1) W wz)) k E),c1.trans c3 λk E=>E.elim (λh=>.inl (.inl h)) (λh=>.inr h.1)⟩;exact E.elim (λh=>⟨λhu=>(hU k hu).2 h,by have:=hF k h;omega,by have:=hF k h;omega⟩) (λh=>⟨λhu=>by have:=(hU k hu).1;omega,by omega,by omega⟩))
  cases o with
  |none=> have HR:Hi (e2=e.run til):=O (by rw[<-hr];exact(ab rfl).symm);unfold evO at I;clear ai ab ac SX ux z u1 h1 c1 j1 hr hF hU af ag aj;gi_wp2_with (refine⟨trivial,?_⟩;gi_at_call 18;refine(callsIn_wide.2 I.o).mono ?_;rintro r w2⟨rfl,Z,R⟩);have ap:=O (aa.o w2 _ Z R ((Zg Qb w2).alloc (.cells ZH 53)));clear Z R;refine⟨λ_ h=>(by cases h),?_⟩;gi_wp2;refine WA rfl rfl ?_;rw[<-HR.o];exact⟨⟨_,rfl⟩,ap.o⟩
  |some c=>
   have HR:Hi (V4 K e2/\Fr e2/\e2.run til=e.run til/\e2.left<d.left):=O (⟨SX.1,ux,by rw[<-hr];exact(ac c rfl).symm,by have:=SX.2.1 c rfl;omega⟩);unfold evO evA at I;clear ai ab ac SX ux z u1 h1 c1 j1 hr hF hU af ag aj;gi_wp2_with (refine⟨trivial,?_⟩;gi_at_call 18;refine(callsIn_wide.2 I.o).mono ?_;rintro r w2⟨rfl,Z,R⟩;obtain⟨fn,au,ao,ar,hy,hR⟩:=HY.o c _ (aa.o w2 _ Z R ((Zg Qb w2).alloc (.cells #[.int .u8 c.kind,ZU c.x.p.id,ZI c.x.p.cls,ZI c.x.p.len,ZU c.x.p.at_,.int .u8 c.x.rule,ZU c.x.frm,ZU c.x.til,ZU c.x.due] 53))).1;have HB:=O hR;clear hR;unfold evE evA at hy);have N2:=O (aa.o w2 _ Z R ((Zg Qb w2).alloc (.cells #[.int .u8 c.kind,ZU c.x.p.id,ZI c.x.p.cls,ZI c.x.p.len,ZU c.x.p.at_,.int .u8 c.x.rule,ZU c.x.frm,ZU c.x.til,ZU c.x.due] 53)));clear Z R hy;refine HB.o.mono ?_;rintro r W3⟨rfl,j3,c3⟩;have C3:=O (N2.o.2.2.trans c3 λk E=>.inl (.inr E));have H3:Hi (Qxn W3 (Qn F W W3) b e2):=O (by
    obtain⟨_,hU,_,_,aj⟩:=ah.o;exact Qxn.obj.more (Qxn.obj.aB N2.o.2.1 c3 (λk E hu=>E.elim (λh=>hu.elim (λhu=>(hU k hu).2 h) (λe=>by have:=ah.o.1 k h;omega)) (λh=>hu.elim (λhu=>by have:=(hU k hu).1;omega) (λe=>by omega)))) (λk E=>E.elim .inl (λh=>.inr ⟨h.1,Nat.lt_of_lt_of_le h.2 c3.size⟩)) (al.o.ext C3.o))
   have J3:=O j3;clear j3 c3;gi_wp2;gi_roundg (e2.left);case measure=>exact HR.o.2.2.2
   case rel=>exact⟨e2,rfl,HR.o.1,HR.o.2.1,H3.o,C3.o,J3.o,HR.o.2.2.1⟩
end
end
section
open Go.Shelf
attribute [local go_sem] Oper.semAt_some
section
variable{A:EAd}{w w' W V:World}{F F1:Fp}{b:Nat}{e:Vi}{x:D7}
theorem Q05(b til:Nat)(w):ZW 69 #[ptr b,ZU til] w (.func (.func 123) #[] #[ZP w.heap.size,ZP (w.heap.size+1)]) λw'=>w'=(w.alloc (.cells #[ptr b] 36)).alloc (.cells #[ZU til] 22):=by have k:∀(d:Fn)(c cap:Array Value)(w),(Instr.makeFunc d c cap).run prog w=.ok (.func d c cap) w:=λ_ _ _ _=>rfl;unfold ptr;apply WH func69;exact WE
theorem Qzm(h:Qxn w F b e){K:Nat}(ok:V4 K e)(hK:K<549755813000)(u:Fr e)(til:Nat):ZW 37 #[ptr b,ZU til] w (.tuple #[]) λw'=>Qxn w' (Qn F w w') b (e.run til)/\Qc F w w':=by
 have ab:=Qxn.obj.bd h;have HU:=O (Q05 b til);obtain⟨s,U⟩:=Zx (w.heap.size);obtain⟨d,E⟩:=Zx (((w.alloc (.cells #[ZI 0] 3)).alloc (.cells #[ptr b] 36)).alloc (.cells #[ZU til] 22));have C0:Hi (Qc Qb w d):=O (by rw[E];exact(((Zg _ _).alloc _).alloc _).alloc _);have ae:d.heap.size=s+3:=by rw[E,U];simp
 have B2:Hi (Qh d s #[ZI 0] 3):=O (by rw[E,U];exact((Qh.new' _ _ (by simp)).alloc _).alloc _);have B3:Hi (Qh d (s+1) #[ptr b] 36):=O (by rw[E,U];exact(Qh.new' _ _ (by simp)).alloc _);have B4:Hi (Qh d (s+1+1) #[ZU til] 22):=O (by rw[E,U];exact Qh.new' _ _ (by simp));have H0:=O (Qxn.obj.aB h C0.o (Jl.none F));have HF:Hi (∀k,F k->k<s):=O (λk I=>by rw[U];exact ab k I);have ac:=O ab;have OK:=O (Zt ok u);refine callsIn_wide (n:=9).1 ?_;unfold ptr at HU|-;clear h ok u ab;refine callsIn_of_wp_marks func37 rfl trivial ?_;simp only[ntmps37,List.size_toArray,Zm,List.length_nil,Nat.reduceAdd,Nat.reduceSub,Array.replicate_succ,Array.replicate_zero,List.push_toArray,List.append_toArray,List.nil_append,List.cons_append];gi_wp2_with (refine⟨trivial,?_⟩;gi_at_call 69;refine(callsIn_wide.2 (HU.o _)).mono ?_;rintro e w1⟨rfl,rfl⟩);unfold ptr at E;rw[<-U,<-E];have HS:=O U;have aa:=O ae;clear E U ae;refine Qz9 (by decide) (gf:=123) (lb:=#[ZP (s+1),ZP (s+1+1)]) rfl (enters_of func123 (by kernel_rfl) rfl) evE (λ_=>rfl)
  (λk=>k=s) (λk I=>by have:=aa.o;omega) (λA=>∃i:Int,Qh A s #[ZI i] 3)
  (λW'=>Qxn W' (λk=>F k\/(d.heap.size+2<=k/\k<W'.heap.size)) b (e.run til)/\Qc (λk=>F k\/k=s\/k=d.heap.size+1) d W') ⟨0,B2.o⟩ (λA B⟨i,h⟩c=>⟨i,c.blk h (λh=>h rfl)⟩) ?hseq ?hbody ?hdone
 case hseq=>
  intro l J W cW hW hJ hY hj;have z:=aa.o;have bd:Bd F d:=ac.o.later C0.o;refine(Q1g (n:=9-1) (l:=l) (s:=d.heap.size) (Be:=s+1) (Bt:=s+1+1) (b:=b) (til:=til) (by decide) hK (λk=>k=s) J (λk I=>bd k I) (λk I=>⟨by omega,λh=>by have:=HF.o k h;omega⟩) hJ hY W hW
   (cW.blk B3.o (λh=>h)) (cW.blk B4.o (λh=>h)) ⟨by omega,λh=>(by have:=HF.o _ h;omega),by omega⟩ ⟨by omega,λh=>(by have:=HF.o _ h;omega),by omega⟩ (Qxn.obj.aB H0.o cW (Jl.none F)) OK.o.1 OK.o.2 hj).mono ?_
  rintro r W'⟨hv,ag,h',c'⟩;have cc:Qc (λk=>F k\/k=s\/k=d.heap.size+1) d W':=cW.none.aA c';exact⟨hv,ag,Qxn.obj.more h' (λk I=>I.elim .inl λh=>.inr ⟨by omega,h.2⟩) (λk I=>I.elim (λh=>Nat.lt_of_lt_of_le (bd k h) cc.size) (λh=>h.2)),cc⟩
 case hbody=> rintro l x A⟨i,hB⟩;have y0:=Jf hB;have yf:=hB.frozen 0;have Z:Hi (∀v:Int,(∃i:Int,Qh (A.setCell ⟨s,0,none⟩ (ZI v)) s #[ZI i] 3)/\Qc (λk=>k=s) A (A.setCell ⟨s,0,none⟩ (ZI v))):=O (λv=>⟨⟨v,hB.set' 0 _ rfl⟩,(Zg _ _).setCell _ (.inl rfl)⟩);clear hB;dsimp only[evE];gi_wp2;exact Z.o _
 case hdone=>
  rintro W' R⟨h1,c1⟩⟨i,hB⟩c2 hD;have z:=aa.o;have q:w.heap.size=s:=HS.o.symm;have hd:=O hD;have cc:Qc F w R:=(C0.o.none.trans c1 (λk I=>I.elim .inl (λh=>.inr (by omega)))).trans c2 (λk I=>.inr (by omega));have Z:Hi (Qxn (R.putObj d.heap.size (.deferred none)) (Qn F w (R.putObj d.heap.size (.deferred none))) b (e.run til)/\Qc F w (R.putObj d.heap.size (.deferred none))):=O (by
   have c3:=Ud cc (D:=d.heap.size) (by omega) (Z2.1 hD).1;have hz:Qc (λk=>k=d.heap.size+1\/k=d.heap.size) W' (R.putObj d.heap.size (.deferred none)):=(c2.sub (λk h=>.inl h)).grown (grownBy_putObj' R _ _) λk e=>.inl (.inr (by cases e;rfl));have h3:=Qxn.obj.aB h1 hz (λk I e=>I.elim (λh=>by have:=HF.o k h;omega) (λh=>by omega));exact⟨Qxn.obj.more h3 (λk I=>I.elim .inl (λh=>.inr ⟨by omega,Nat.lt_of_lt_of_le h.2 hz.size⟩)) (ac.o.ext c3),c3⟩)
  have af:=O (run_takeDeferred (P:=prog) hD);clear h1 c1 hB c2 cc hD z q;gi_wp2;refine⟨by simp,.inl ⟨_,_,rfl,af.o,?_⟩⟩;exact⟨.tuple #[],by simp[results,Tryz.results37,go_sem],rfl,Z.o⟩
end
end
section
variable{A:EAd}{w w' W V:World}{F F1:Fp}{b:Nat}{e:Vi}{x:D7}
theorem Qyy(h:Qxn w F b e){K:Nat}(U:V4 K e)(hK:K<549755813000)(u:Fr e)(c:Nat):ZW 12 #[ptr b,ZU c] w (ZI (e.advE c)) λw'=>Qxn w' (Qn F w w') b (e.adv c)/\Qc F w w':=by
 obtain⟨A,h⟩:=h;have k:=(V6.good (Qyg A e) A b e).bd h;have z:=O (Qyv h.blk.1);have q:=O (λw'(I:Qc Qb w w')=>Qxn.obj.same ⟨A,h⟩ I);have Z:=O (λw1(d:Qc Qb w w1)=>Av (h.aB d).blk.1);have HA:Hi (∀w1,Qc Qb w w1->ZW 37 #[ptr b,ZU c] w1 (.tuple #[]) λw2=>Qxn w2 (Qn F w w2) b (e.run c)/\Qc F w w2):=O (λw1 d=>by
  refine(Qzm ⟨A,h.aB d⟩ U hK u c).mono ?_;rintro r w2⟨rfl,J,E⟩;have I:Qc F w w2:=d.none.aA E;exact⟨rfl,Qxn.obj.more J (Ke d.size) (k.ext I),I⟩)
 unfold Vi.adv Vi.advE;cases B:e.stopped with
 |true=> rw[B]at z;rw[if_pos rfl,if_neg (by decide)];clear h B k U u;apply WH func12;go_wp2_with fail;apply Zo z;rintro r w1⟨rfl,d⟩;have K:=O (q.o w1 d);clear d;exact WD K
 |false=>
  rw[B]at z;rw[if_neg Bool.false_ne_true];by_cases R:c<e.now;·rw[if_pos R,if_neg (by decide)];have d1:=ZT (show c<e.now by omega);clear h B k U u R;apply WH func12;go_wp2_with fail;apply Zo z;rintro r w1⟨rfl,d⟩;have a0:=Z.o w1 d;have K:=O (q.o w1 d);clear d;exact WD K
  .rw[if_neg R,if_pos rfl];have d1:=ZN (show¬c<e.now by omega);clear h B k U u R;apply WH func12;go_wp2_with fail;apply Zo z;rintro r w1⟨rfl,d⟩;have a0:=Z.o w1 d;have C1:=O d;clear d;go_wp2_with fail;refine(HA.o _ C1.o).mono ?_;rintro r w2⟨rfl,J,E⟩;have K:=O (Zt J E);clear J E;exact WD K
end
section
variable{A:EAd}{w w' W V:World}{F F1:Fp}{b:Nat}{e:Vi}{x:D7}
theorem Q09{s:Qf}{p:Jr}(h:s.aQ p=0):Ll p:=by obtain⟨_,_,_,_,c,_⟩:=Mk h;exact⟨c.1,by omega⟩
theorem Fr.came(u:Fr e)(q:Jr):Fr (e.came q):=u
theorem Qzn(h:Qxn w F b e){K:Nat}(ok:V4 K e)(hK:K+33<549755813000)(u:Fr e)(p:Jr):ZW 28 #[ptr b,.agg (ZL p)] w (ZI (e.arrE p)) λw'=>Qxn w' (Qn F w w') b (e.arr p)/\Qc F w w':=by
 obtain⟨A,h⟩:=h;have ar:=(V6.good (Qyg A e) A b e).bd h;obtain⟨W0,ae⟩:=Zx (w.alloc (.cells (ZL p) 31));have C0:Hi (Qc Qb w W0):=O (by rw[ae];exact(Zg _ _).alloc _);have ai:Hi (Qh W0 w.heap.size (ZL p) 31):=O (by rw[ae];exact Qh.new _ _ _);have H0:=O (h.aB C0.o);have HN:=O (Qyv H0.o.blk.1);have ab:=O ar;have ap:=O ae;have OK:=O (Zt ok u);rw[Qwb];unfold Vi.arrE;clear h ar ae ok u;cases hs:e.stopped with
 |true=> rw[hs]at HN;rw[if_pos rfl,if_pos rfl];have aq:=O (λw'(I:Qc Qb W0 w')=>(show Qxn w' (Qn F w w') b e/\Qc F w w' from⟨⟨A,(H0.o.aB I).lift (λk h=>.inl h) (ab.o.ext (C0.o.aA I))⟩,(C0.o.aA I).none⟩));clear hs;go_enter func28,ntmps28;go_wp2_with fail;rw[<-ap.o];refine Zo HN ?_;rintro r w1⟨rfl,c1⟩;have K:=O (aq.o w1 c1);clear c1;go_wp2;go_ret;exact⟨rfl,K.o⟩
 |false=>
  rw[hs]at HN;rw[if_neg Bool.false_ne_true,if_neg Bool.false_ne_true];clear hs;obtain⟨d,aa⟩:=Zx (e.run e.now);obtain⟨q,hq⟩:=Zx (e.arrP p);have HQ:Hi (q=⟨p.id,p.cls,p.len,(d.now:Int)⟩):=O (by rw[hq,aa];rfl);have J:Hi (V4 K d/\Fr d):=O (by rw[aa];exact⟨OK.o.1.run _,OK.o.2.run OK.o.1 _⟩);have HA:Hi (∀w1,Qc Qb W0 w1->ZW 37 #[ptr b,ZU e.now] w1 (.tuple #[]) λw2=>Qxn w2 (Qn F w1 w2) b d/\Qc F w1 w2):=O (λw1 c1=>by rw[aa];exact Qzm ⟨A,H0.o.aB c1⟩ OK.o.1 (by omega) OK.o.2 e.now);have AT:=O (λw1(c1:Qc Qb W0 w1)=>Av (H0.o.aB c1).blk.1);rw[<-aa,<-hq];obtain⟨er,ak⟩:=Zx (d.sched.aQ q);rw[<-ak];have ac:=O ak;clear aa hq ak;go_enter func28,ntmps28;go_wp2_with fail;rw[<-ap.o];refine Zo HN ?_;rintro r w1⟨rfl,c1⟩;have C1:=O c1;obtain⟨Z,a1,a2,U,a4,a5,a6,a7,a8⟩:=AT.o w1 c1;clear c1;go_wp2_with fail;clear Z a1 a2 U a4 a5 a6 a7 a8;refine(HA.o _ C1.o).mono ?_;rintro r w2⟨rfl,⟨R,h2⟩,c2⟩;have C2:=O c2;have H2:=O h2;have aj:=O (c2.blk (C1.o.blk ai.o (λh=>h)) (λh=>by have:=ab.o _ h;omega));clear h2 c2;obtain⟨z,af⟩:=Zx (w2.setCell ⟨w.heap.size,3,none⟩ (ZU d.now));have au:=O af;have NF:Hi (¬Qn F w1 w2 w.heap.size):=O (λh=>h.elim (λh=>by have:=ab.o _ h;omega) (λh=>by have:=ai.o.lt;have:=C1.o.size;omega));have C3:Hi (Qc (λk=>k=w.heap.size) w2 z):=O (by rw[af];exact(Zg (λk=>k=w.heap.size) w2).setCell (a:=⟨w.heap.size,3,none⟩) _ (.inl rfl));have H3:=O ((V6.good (Qyg R d) R b d).aB H2.o C3.o (λk hk e=>NF.o (e▸hk)));have al:Hi (Qh z w.heap.size #[ZU p.id,ZI p.cls,ZI p.len,ZU d.now] 31):=O (by rw[af];exact aj.o.set' 3 _ rfl);obtain⟨Z,a1,a2,U,a4,a5,a6,a7,a8⟩:=Av H2.o.blk.1;obtain⟨g0,g1,g2,g3⟩:=X9 aj.o;have fg:=aj.o.frozen;clear af;go_wp2_with fail;rw[<-au.o];clear Z a1 a2 U a4 a5 a6 a7 a8 g0 g1 g2 g3 fg;have ao:Hi (∀k,Qn F w1 w2 k->F k\/(w.heap.size<=k/\k<z.heap.size)):=O (λk h=>h.elim .inl (λh=>.inr ⟨by have:=ai.o.lt;have:=C1.o.size;omega,Nat.lt_of_lt_of_le h.2 C3.o.size⟩));have an:Hi (Qc F w z):=O (((C0.o.none.aA C1.o.none).aA C2.o).trans C3.o (λk e=>.inr (by omega)));have ag:Hi (∀w' e',Qxn w' (Qn (Qn F w1 w2) z w') b e'->Qc (Qn F w1 w2) z w'->Qxn w' (Qn F w w') b e'/\Qc F w w'):=O (λw' e' h c=>by
   have I:Qc F w w':=an.o.trans c λk h=>(ao.o k h).elim .inl (λh=>.inr h.1);exact⟨Qxn.obj.more h (λk hk=>hk.elim (λh=>(ao.o k h).elim .inl (λh=>.inr ⟨h.1,Nat.lt_of_lt_of_le h.2 c.size⟩)) (λh=>.inr ⟨by have:=an.o.size;omega,h.2⟩)) (ab.o.ext I),I⟩)
  have ah:=O ((V6.good (Qyg R d) R b d).bd H3.o);obtain⟨N,hN⟩:∃N,Xp N d.sched/\N<549755813000:=by obtain⟨N,h1,h2⟩:=J.o.1.sok;exact⟨N,h1,by omega⟩
  have av:Hi (d.now<18446744073709551616):=O (Nat.lt_of_le_of_lt (Zp J.o.1.now J.o.1.hor.2) (by decide));have HP:Hi (ZW 60 #[ptr R.sb,.agg #[ZU p.id,ZI p.cls,ZI p.len,ZU d.now],ZU d.now] z.drew (ZI (d.sched.aQ q)) λw4=>Qyf R w4 (Qn (Qn F w1 w2) z w4) b {d with sched:=d.sched.push q d.now}/\Qc (Qn F w1 w2) z w4):=O (by
   obtain⟨G,hS,_,_,B⟩:=(H3.o.aB (Zg Qb z).drew).schedOf;rw[HQ.o];refine(Qbn hS hN.1 hN.2 ⟨p.id,p.cls,p.len,(d.now:Int)⟩ d.now av.o).mono ?_;rintro r w4⟨rfl,h4,c4⟩;obtain⟨m1,m2⟩:=B w4 _ h4 c4;exact⟨rfl,m1,m2.aT⟩)
  obtain⟨Z,a1,a2,U,a4,a5,a6,a7,a8⟩:=Av H3.o.blk.1.drew;obtain⟨g0,g1,g2,g3⟩:=X9 al.o.drew;rw[<-ac.o]at HP;clear hN;refine ZB [0,1,2,3,4,5,6,7,8,209,210] ?_;simp only[Z8,Zf,Ze,Zd];iterate 9 (refine Jq (h:=?_))
  clear Z a1 a2 U a4 a5 a6 a7 a8 g0 g1 g2 g3;refine J7 ?_;go_wp2_with fail;refine Zo HP ?_;rintro r w4⟨rfl,h4,c4⟩;have H4:=O h4;have C4:=O c4;have am:=O (c4.blk al.o NF.o);clear h4 c4;go_wp2_with fail;refine J7 ?_;go_wp2_with fail;refine Jo ?_;by_cases h0:er=0
  .have HG:=O (Q09 (s:=d.sched) (p:=q) (by rw[<-ac.o];exact h0));have aw:Hi (V4 (K+33) (d.came q)):=O (J.o.1.came (by rw[<-ac.o];exact h0));have HC:Hi (ZW 62 #[ptr R.kb,.agg #[ZU p.id,ZI p.cls,ZI p.len,ZU d.now]] w4.drew (.tuple #[]) λE=>Qyf R E (Qn (Qn F w1 w2) z E) b (d.came q)/\Qc (Qn F w1 w2) z E):=O (by
    obtain⟨G,hB,_,_,B⟩:=(H4.o.aB (Zg Qb w4).drew).bookOf;have hg:=HG.o;rw[HQ.o]at hg;refine(Q0r hB J.o.1.book ⟨p.id,p.cls,p.len,(d.now:Int)⟩ hg).mono ?_;rintro r E⟨rfl,h5,c5⟩;rw[<-HQ.o]at h5;obtain⟨m1,m2⟩:=B E _ h5 c5;have I:Qc (Qn F w1 w2) z E:=C4.o.ext m2.aT;exact⟨rfl,V6.lift (e:=d.came q) m1 (Qn.trans C4.o.size m2.size) (ah.o.ext I),I⟩)
   obtain⟨Z,a1,a2,U,a4,a5,a6,a7,a8⟩:=Av H4.o.blk.1.drew;obtain⟨g0,g1,g2,g3⟩:=X9 am.o.drew;subst h0;go_wp2_with fail;refine ZB [0,1,2,3,4,205] ?_;simp only[Z8,Zf,Ze,Zd];iterate 5 (refine Jq (h:=?_))
   clear Z a1 a2 U a4 a5 a6 a7 a8 g0 g1 g2 g3;refine J7 ?_;go_wp2_with fail;refine Zo HC ?_;rintro r E⟨rfl,h5,c5⟩;have H5:=O h5;have C5:=O c5;clear h5 c5;obtain⟨Z,a1,a2,U,a4,a5,a6,a7,a8⟩:=Av H5.o.blk.1;have ax:E.cell? ⟨b,3,none⟩=some (ZU d.now):=U;clear U;go_wp2_with fail;refine Jo ?_;go_wp2_with fail;refine(Qzm ⟨R,H5.o⟩ aw.o (by omega) (J.o.2.came q) d.now).mono ?_;rintro r w6⟨rfl,h6,c6⟩;have I:Qc (Qn F w1 w2) z w6:=C5.o.ext c6;have K6:=O (ag.o w6 _ (Qxn.obj.more h6 (Qn.trans C5.o.size c6.size) (ah.o.ext I)) I);clear h6 c6 I Z a1 a2 ax a4 a5 a6 a7 a8;go_wp2;go_ret;exact⟨rfl,K6.o⟩
  .have HE:=O h0;have d0:(er==0)=false:=by simpa using h0
   have HR:Hi (ZW 61 #[ptr R.kb,ZI p.cls] w4.drew (.tuple #[]) λE=>Qyf R E (Qn (Qn F w1 w2) z E) b (d.refused q)/\Qc (Qn F w1 w2) z E):=O (by
    obtain⟨G,hB,_,_,B⟩:=(H4.o.aB (Zg Qb w4).drew).bookOf;refine(Qzw hB J.o.1.book p.cls).mono ?_;rintro r E⟨rfl,h5,c5⟩;obtain⟨m1,m2⟩:=B E _ h5 c5;have I:Qc (Qn F w1 w2) z E:=C4.o.ext m2.aT;have hs:({d with sched:=d.sched.push q d.now,book:=d.book.tell p.cls Qwx}:Vi)=d.refused q:=by unfold Vi.refused;rw[Qnm (by rw[<-ac.o];exact h0),HQ.o]
    have m3:=V6.lift m1 (Qn.trans C4.o.size m2.size) (ah.o.ext I);exact⟨rfl,hs▸m3,I⟩)
   obtain⟨Z,a1,a2,U,a4,a5,a6,a7,a8⟩:=Av H4.o.blk.1.drew;obtain⟨g0,g1,g2,g3⟩:=X9 am.o.drew;clear h0;go_wp2_with fail;refine ZB [0,1,2,3,4,5,206] ?_;simp only[Z8,Zf,Ze,Zd];iterate 6 (refine Jq (h:=?_))
   clear Z a1 a2 U a4 a5 a6 a7 a8 g0 g1 g2 g3;refine J7 ?_;go_wp2_with fail;refine Zo HR ?_;rintro r E⟨rfl,h5,c5⟩;have K5:=O (ag.o E _ ⟨R,h5⟩ c5);clear h5 c5;go_wp2_with fail;refine Jo ?_;go_wp2;go_ret;exact⟨rfl,K5.o⟩
end
section
variable{K:Nat}{e:Vi}
theorem Fr.new(d:Nat)(c:Int)(k:Nat):Fr (Vi.new d c k):=nofun
theorem Fr.add(u:Fr e)(s:Yk):Fr (e.add s):=by unfold Vi.add;split<;>exact u
theorem Fr.change(u:Fr e)(s:Yk):Fr (e.change s):=by unfold Vi.change;split<;>exact u
theorem Fr.drop(u:Fr e)(i:Int):Fr (e.drop i):=by
 unfold Vi.drop;split;·exact u
 .split<;>exact u
theorem Fr.adv(u:Fr e)(d:V4 K e)(c:Nat):Fr (e.adv c):=by
 unfold Vi.adv;split;·exact u.run d c
 .exact u
theorem Fr.arr(u:Fr e)(c:V4 K e)(p:Jr):Fr (e.arr p):=by
 rw[Qwb];split;·exact u
 .have k:=c.run e.now;have u1:=u.run c e.now;split;·rename_i d;exact Fr.run (e:=(e.run e.now).came (e.arrP p)) u1 (k.came d) _
  .exact u1
theorem Fr.does(u:Fr e)(d:V4 K e)(k:Nat)(s:Yk)(p:Jr)(c:Nat):Fr (e.does k s p c):=by
 unfold Vi.does;split;·exact u.add s
 split;·exact u.change s
 split;·exact u.drop s.id
 split;·exact u.arr d p
 split;·exact u.adv d _
 .exact u.step d _
end
def Uh(v:Value)(L:List Jr):Ya:=λw F=>Bd F w/\((v=.slice none 0 0/\L=[])\/∃b o cap c,v=.slice (some ⟨b,o,none⟩) L.length cap/\F b/\L.length<=cap/\cap<=maxLen/\Qh w b c 31/\o+cap*4<=c.size/\∀(j:Nat)(u:Value),(Jm Jr.cells L)[j]? =some u->c[o+j]? =some u)
theorem Nk(v:Value)(L:List Jr):Uy (Uh v L) where
 bd:=λh=>h.1
 aB:=λ⟨z,h⟩B K=>⟨z.later B,h.imp id λ⟨b,o,cap,c,k,d,q,E,I,J⟩=>⟨b,o,cap,c,k,d,q,E,B.blk I (K b d),J⟩⟩
 more:=λ⟨z,h⟩R u=>⟨u,h.imp id λ⟨b,o,cap,c,k,d,q⟩=>⟨b,o,cap,c,k,R b d,q⟩⟩
theorem Nj(L:List Jr):(Jm Jr.cells L).length=L.length*4:=by
 unfold Jm;induction L with
 |nil=>rfl
 |cons x t c=> simp only[List.flatMap_cons,List.length_append,c,Zm,Jr.aF];omega
theorem Qc7(L:List Jr)(p:Jr):Jm Jr.cells (L++[p])=Jm Jr.cells L++p.cells:=by unfold Jm;simp
section
variable{w w1:World}{F:Fp}{v:Value}{L:List Jr}
theorem Uh.nil{w}{F:Fp}(h:Bd F w):Uh (.slice none 0 0) [] w F:=⟨h,.inl ⟨rfl,rfl⟩⟩
theorem Uh.row(h:Uh v L w F):∃a cap,v=.slice a L.length cap/\L.length<=cap/\cap<=maxLen/\(L≠[]->∃b o c,a=some ⟨b,o,none⟩/\F b/\Qh w b c 31/\∀(j:Nat)(u:Value),(Jm Jr.cells L)[j]? =some u->w.cell? ⟨b,o+j,none⟩=some u):=by
 obtain⟨J,⟨rfl,rfl⟩|⟨b,o,cap,c,rfl,k,q,z,d,I,B⟩⟩:=h;·exact⟨none,0,rfl,Zv _,by simp[maxLen],λh=>absurd rfl h⟩
 .exact⟨_,cap,rfl,q,z,λ_=>⟨b,o,c,rfl,k,d,λj u E=>by rw[d.cell];exact B j u E⟩⟩
theorem Uh.ofOwn{w'}{L':List Jr}{I:Value}(B:Bd F w)(E:Qc F w w')(h:w'.ownsRow w.heap.size 31 4 I L'.length (Jm Jr.cells L')):Uh I L' w' (Qn F w w'):=by
 obtain⟨U,⟨k,q⟩|⟨g,cap,d,k,q,z,J,K,V,R⟩⟩:=h;·exact⟨B.ext E,.inl ⟨k,List.eq_nil_of_length_eq_zero q⟩⟩
 .refine⟨B.ext E,.inr ⟨g,0,cap,d,k,.inr ⟨q,(Z2.1 z).1⟩,J,K,z,by omega,λj u c=>?_⟩⟩;rw[<-R,List.getElem?_take]at c;split at c;·rw[Nat.zero_add,<-Array.getElem?_toList];exact c
  .cases c
theorem Uh.append(h:Uh v L w F)(hn:L.length+1<=4096)(p:Jr)(w1)(B:Qc Qb w w1){a:Addr}{c:Nat}(d:∀(j:Nat)(u:Value),p.cells[j]? =some u->w1.cell? (a.add j)=some u)(ty:TypeId):
  ∃q w',(Builtin.append_ #[58,58] ty #[v,.slice (some a) 1 c]).run prog w1=.ok q w'/\Uh q (L++[p]) w' (Qn F w w')/\Qc F w w':=by
 obtain⟨i,z,hi,hz,Z,U,aa⟩:=pktT.hi;have ab:∀u∈p.cells,u.oneCell'=true:=pktT.one p;obtain⟨hb,hv⟩:=h;have V:(L++[p]).length=L.length+1:=by simp
 have own:∀q w',w'.ownsRow w1.heap.size 31 4 q (L.length+1) (Jm Jr.cells L++p.cells)->w1.grownBy w' none->Uh q (L++[p]) w' (Qn F w w')/\Qc F w w':=by intro q w' h1 h2;have R:Qc F w1 w':=(Zg F w1).grown h2 (λk e=>by cases e);have h3:=Uh.ofOwn (F:=F) (w:=w1) (L':=L++[p]) (hb.later B) R (by rw[V,Qc7];exact h1);have c3:Qc F w w':=B.none.aA R;exact⟨(Nk q _).more h3 (Ke B.size) (hb.ext c3),c3⟩
 rcases hv with⟨rfl,rfl⟩|⟨b,o,cap,ae,rfl,h2,h3,h4,h5,h6,h7⟩;·obtain⟨q,w',K,ho,hg,_,_⟩:=run_append_own_at (P:=prog) w1 w1.heap.size 58 ty 31 i z 4 32 pktT.ht hi hz Z U (by rw[aa];rfl) (by omega) (.slice none 0 0) 0 [] (World.ownsRow_nil w1 _ _ _) a 1 c p.cells rfl d ab (by simp[maxLen]) (by omega) (Zv _);exact⟨q,w',K,own q w' ho hg⟩
 .have E:=B.blk h5 (λh=>h);by_cases J:L.length+1<=cap
  .have K:=run_append_room_cells (P:=prog) w1 58 ty 31 i pktT.ht hi b o L.length cap a 1 c p.cells (by rw[Z];rfl) d ab J
    (λj hj=>by rw[E.cell];simp only[Jr.aF]at hj;rw[Z];simp;omega) (λj hj=>E.frozen _)
   rw[Z]at K;obtain⟨ac,k1,k2,k3,k4⟩:=Vc (t:=31) p.cells (o+L.length*4) w1 ae E (by simp only[Jr.aF];omega);have R:Qc F w (w1.setCells b (o+L.length*4) p.cells):=B.none.aA (k4.sub λk e=>e▸h2);refine⟨_,_,K,⟨hb.ext R,.inr ⟨b,o,cap,ac,by rw[V],.inl h2,by omega,h4,k1,by omega,λj u I=>?_⟩⟩,R⟩;rw[Qc7]at I;rw[k3];have pl:=Jr.aF p;by_cases hj:j<L.length*4;·rw[if_neg (by omega)];rw[List.getElem?_append_left (by rw[Nj];exact hj)]at I;exact h7 j u I
   .rw[List.getElem?_append_right (by rw[Nj];omega),Nj]at I;have af:j-L.length*4<4:=(Z1.1 I).1;rw[if_pos (by omega)];rw[show o+j-(o+L.length*4)=j-L.length*4 from by omega];exact I
  .obtain⟨q,w',K,ho,hg⟩:=run_append_arg_grows (P:=prog) w1 58 ty 31 i z 4 32 pktT.ht hi hz Z U (by rw[aa];rfl) (by omega) ⟨b,o,none⟩ L.length cap (Jm Jr.cells L) (Nj L) (λj u I=>by
    rw[Addr.add_lit,E.cell];exact h7 j u I) a 1 c p.cells rfl d (by omega) (by simp[maxLen];omega) (by omega)
   exact⟨q,w',K,own q w' ho hg⟩
theorem Uh.head{x:Jr}{t:List Jr}(h:Uh v (x::t) w F):∃b o cap c,v=.slice (some ⟨b,o,none⟩) (t.length+1) cap/\t.length+1<=cap/\cap<=maxLen/\F b/\Qh w b c 31/\c[o]? =some (ZU x.id)/\c[o+1]? =some (ZI x.cls)/\c[o+2]? =some (ZI x.len)/\c[o+3]? =some (ZU x.at_)/\
  Uh (.slice (some ⟨b,o+4,none⟩) t.length (cap-1)) t w F/\(t=[]->Uh (.slice (some ⟨b,o,none⟩) 0 (cap-1)) t w F):=by
 obtain⟨E,⟨_,I⟩|⟨b,o,cap,c,rfl,k,B,J,q,K,d⟩⟩:=h;·cases I
 .simp only[Zm]at B;refine⟨b,o,cap,c,rfl,B,J,k,q,d 0 _ rfl,d 1 _ rfl,d 2 _ rfl,d 3 _ rfl,⟨E,.inr ⟨b,o+4,cap-1,c,rfl,k,by omega,by omega,q,by omega,λj u z=>?_⟩⟩,λe=>⟨E,.inr ⟨b,o,cap-1,c,by rw[e];rfl,k,by rw[e];exact Nat.zero_le _,by omega,q,by omega,λj u z=>by subst e;cases z⟩⟩⟩;have:=d (4+j) u (by
   show((Jr.cells x)++Jm Jr.cells t)[4+j]? =some u;rw[List.getElem?_append_right (by simp[Jr.aF])];rw[Jr.aF,show 4+j-4=j from by omega];exact z)
  rw[show o+4+j=o+(4+j)from by omega];exact this
end
def upd{X:Type}(f:Nat->X)(c:Nat)(x:X):Nat->X:=λk=>if k=c then x else f k
theorem Qbz{X:Type}(f:Nat->X)(c:Nat)(x:X):upd f c x c=x:=if_pos rfl
theorem Qb0{X:Type}(f:Nat->X){c k:Nat}(x:X)(h:k≠c):upd f c x k=f k:=if_neg h
theorem Qed{X:Type}(f:Nat->X)(n c:Nat)(x:X):((List.range n).map f).set c x=(List.range n).map (upd f c x):=by
 refine List.ext_getElem? λk=>?_;rw[List.getElem?_set];simp only[List.getElem?_map,List.length_map,List.length_range];by_cases d:k<n
 .rw[List.getElem?_range d];by_cases e:c=k;·subst e;simp[upd,d]
  .rw[if_neg e];simp only[upd,Zn];rw[if_neg (λh=>e h.symm)]
 .rw[List.getElem?_eq_none (by simp;omega)];split;·rw[if_neg (by omega)];rfl
  .rfl
section
variable{sb b now:Nat}{us vs:Nat->Value}{w w1:World}{F:Fp}{s:Qf}{fine:Bool}{ps:Nat->List Jr}
end
section
attribute [local go_sem ↓] X8 Yd
structure Yy where
 kind:Int
 s:Yk
 p:Jr
 after:Nat
def Yy.cells(a:Yy):List Value:=[.int .u8 a.kind,ZI a.s.id,ZI a.s.par,.bool a.s.leaf,ZU a.s.real.f,ZU a.s.real.l,ZU a.s.real.r,ZU a.s.share.f,ZU a.s.share.l,ZU a.s.share.r,ZU a.s.aN.f,ZU a.s.aN.l,ZU a.s.aN.r,ZI a.s.pk,ZI a.s.bt,ZU a.p.id,ZI a.p.cls,ZI a.p.len,ZU a.p.at_,ZU a.after]
def Yy.wf(a:Yy):Prop:=0<=a.kind/\a.kind<256/\a.after<18446744073709551616
theorem Q0j(n:Nat)(a:Option Addr)(cap:Nat)(w):ZW 8 #[.slice a n cap] w (.bool (decide (200<n))) λw'=>w=w':=by
 apply WH func8;go_wp2;go_ret;refine⟨?_,rfl⟩;congr 2;by_cases h:200<n;·simp[h];omega
 .simp[h];omega
theorem Qz6(now c:Nat)(w)(u:now<=1099511627776):ZW 35 #[ZU now,ZU c] w (ZU (P4 now c:Int)) λw'=>w=w':=by
 have k:(c:Int).tmod 1048576=((c%1048576:Nat):Int):=by rw[Int.tmod_eq_emod_of_nonneg (by omega)];omega
 obtain⟨q,d⟩:=Zx (c%1048576);have Xg:q<1048576:=by omega
 have z:min ((now:Int)+(q:Int)) 1099511627781=(P4 now c:Int):=by unfold P4;rw[<-d];omega
 rw[<-d]at k;have B:IntKind.u64.wrap ((now:Int)+(q:Int))=(now:Int)+(q:Int):=by rw[IntWalk.u64_in _ (by omega)]
 have E:IntKind.u64.wrap (q:Int)=(q:Int):=by rw[IntWalk.u64_in _ (by omega)]
 clear d Xg u;apply WH func35;exact WE
abbrev Q1d(d:Nat)(c:Int)(k:Nat):Array Value:=#[ZU d,ZI c,ZU k]
theorem Yy.at20{w}{r:Nat}{a:Yy}{t:TypeId}(h:Qh w r a.cells.toArray t):w.cell? ⟨r,0,none⟩=some (.int .u8 a.kind)/\w.cell? ⟨r,1,none⟩=some (ZI a.s.id)/\w.cell? ⟨r,2,none⟩=some (ZI a.s.par)/\w.cell? ⟨r,3,none⟩=some (.bool a.s.leaf)/\w.cell? ⟨r,4,none⟩=some (ZU a.s.real.f)/\w.cell? ⟨r,5,none⟩=some (ZU a.s.real.l)/\w.cell? ⟨r,6,none⟩=some (ZU a.s.real.r)/\w.cell? ⟨r,7,none⟩=some (ZU a.s.share.f)/\w.cell? ⟨r,8,none⟩=some (ZU a.s.share.l)/\w.cell? ⟨r,9,none⟩=some (ZU a.s.share.r)/\w.cell? ⟨r,10,none⟩=some (ZU a.s.aN.f)/\w.cell? ⟨r,11,none⟩=some (ZU a.s.aN.l)/\w.cell? ⟨r,12,none⟩=some (ZU a.s.aN.r)/\w.cell? ⟨r,13,none⟩=some (ZI a.s.pk)/\w.cell? ⟨r,14,none⟩=some (ZI a.s.bt)/\w.cell? ⟨r,15,none⟩=some (ZU a.p.id)/\w.cell? ⟨r,16,none⟩=some (ZI a.p.cls)/\w.cell? ⟨r,17,none⟩=some (ZI a.p.len)/\w.cell? ⟨r,18,none⟩=some (ZU a.p.at_)/\w.cell? ⟨r,19,none⟩=some (ZU a.after):=
 ⟨h.at 0 rfl,h.at 1 rfl,h.at 2 rfl,h.at 3 rfl,h.at 4 rfl,h.at 5 rfl,h.at 6 rfl,h.at 7 rfl,h.at 8 rfl,h.at 9 rfl,h.at 10 rfl,h.at 11 rfl,h.at 12 rfl,h.at 13 rfl,h.at 14 rfl,h.at 15 rfl,h.at 16 rfl,h.at 17 rfl,h.at 18 rfl,h.at 19 rfl⟩
section
variable{w:World}{F:Fp}{b:Nat}{e:Vi}{K:Nat}
theorem Qxn.lifted{W w'}(h:Qxn w F b e)(c:Qc Qb w W){q:Vi}(h':Qxn w' (Qn F W w') b q)(u:Qc F W w'):Qxn w' (Qn F w w') b q/\Qc F w w':=by have d:Qc F w w':=c.none.aA u;exact⟨Qxn.obj.more h' (λk z=>z.elim .inl (λh=>.inr ⟨Zp c.size h.1,h.2⟩)) ((Qxn.obj.bd h).ext d),d⟩
theorem Q0i(h:Qxn w F b e)(J:V4 K e)(hK:K+33<549755813000)(u:Fr e)(a:Yy)(hw:a.wf):
  ZW 11 #[ptr b,.agg a.cells.toArray] w (ZI (e.aY a.kind.toNat a.s a.p a.after)) λw'=>Qxn w' (Qn F w w') b (e.does a.kind.toNat a.s a.p a.after)/\Qc F w w':=by
 have aa:=hw.1;obtain⟨W,Z⟩:=Zx (w.alloc (.cells a.cells.toArray 33));have c0:Qc Qb w W:=by rw[Z];exact(Zg _ _).alloc _
 have B0:Hi (Qh W w.heap.size a.cells.toArray 33):=O (by rw[Z];exact Qh.new _ _ _);have B:Qxn W F b e:=Qxn.obj.aB h c0 (Jl.none F);have d:=O (Zt h c0);obtain⟨N,U,_⟩:=J.sok;have al:=O (Q0c B U a.s);have am:=O (Q0d B U a.s);have an:=O (Q04 B J a.s.id);have ao:=O (Qzn B J hK u a.p);have ap:=O (λk(c:Qc Qb W k)=>Qyy (Qxn.obj.aB B c (Jl.none F)) J (by omega) u (P4 e.now a.after));have aq:=O (λk(c:Qc Qb W k)=>Qz0 (Qxn.obj.aB B c (Jl.none F)) J (by omega) u (P4 e.now a.after));have HL:=O (λk=>Qz6 e.now a.after k (Zp J.now J.hor.2));have HN:=O (λk(c:Qc Qb W k)=>by obtain⟨A,hA⟩:=Qxn.obj.aB B c (Jl.none F);exact Qzo hA.blk.1);have HX:=O (λk(c:Qc Qb W k)=>(show k.cell? ⟨w.heap.size,19,none⟩=some (ZU a.after)from(c.blk B0.o (λh=>h)).at 19 rfl));have X:=O (Yy.at20 B0.o);have e3:a.kind.tmod 7=a.kind%7:=Int.tmod_eq_emod_of_nonneg aa;have R:a.kind.toNat%7=(a.kind%7).toNat:=by omega
 have h7:a.kind%7=0\/a.kind%7=1\/a.kind%7=2\/a.kind%7=3\/a.kind%7=4\/a.kind%7=5\/a.kind%7=6:=by omega
 unfold Vi.aY Vi.does;unfold Fb at*;unfold Yy.cells at Z;unfold Yy.cells;clear h B c0 U J u hw aa;rcases h7 with I|I|I|I|I|I|I;all_goals
  rw[I]at e3 R;simp only[R];obtain⟨x0,x1,x2,x3,x4,x5,x6,x7,x8,x9,ab,ac,ae,af,ag,ah,ai,aj,ak,q⟩:=X.o;clear I R;go_enter func11,ntmps11;go_wp2_with fail;rw[<-Z];clear Z;go_wp2_with fail
 all_goals try((first|refine Zo al ?_|refine Zo am ?_|refine Zo an ?_|refine Zo ao ?_);rintro r w1⟨rfl,E,z⟩;have K:=O (d.o.1.lifted d.o.2 E z);clear E z;go_wp2;go_ret;exact⟨rfl,K.o⟩)
 .refine ZC [100,1,103,104,202,205,306,307] (λV=>Qc (Qb) (W) V) ?_;simp only[Z8,Zf,Ze,Zd];(refine Qy (h:=?_);try simp only[Act.put,Za,Zc,Zb]);refine Xe (h:=?_);(refine Qy (h:=?_);try simp only[Act.put,Za,Zc,Zb]);iterate 1 (refine Qy (by kernel_rfl) (λV hv=>by(have q:=HX.o V hv);go_simp;try rfl) ?_;try simp only[Act.put,Za,Zc,Zb])
  clear x0 x1 x2 x3 x4 x5 x6 x7 x8 x9 ab ac ae af ag ah ai aj ak q;refine Yb ?_;go_wp2_with fail;refine(HN.o _ (Zg Qb W).drew).mono ?_;rintro r w1⟨rfl,rfl⟩;go_wp2_with fail;refine⟨(Zg Qb W).drew,?_⟩;refine Yb ?_;go_wp2_with fail;refine(HL.o _).mono ?_;rintro r w1⟨rfl,rfl⟩;go_wp2_with fail;refine⟨(Zg Qb W).drew,?_⟩;refine Km ?_;go_wp2_with fail;refine(ap.o _ (Zg Qb W).drew).mono ?_;rintro r w1⟨rfl,E,z⟩;have K:=O (d.o.1.lifted (d.o.2.aA (Zg Qb W).drew) E z);clear E z;go_wp2_with fail;refine Km ?_;go_wp2_with fail;refine Ky ?_;go_wp2;go_ret;exact⟨rfl,K.o⟩
 all_goals
  refine ZC [100,1,103,104,202,205,306] (λV=>Qc (Qb) (W) V) ?_;simp only[Z8,Zf,Ze,Zd];(refine Qy (h:=?_);try simp only[Act.put,Za,Zc,Zb]);refine Xe (h:=?_);(refine Qy (h:=?_);try simp only[Act.put,Za,Zc,Zb]);iterate 1 (refine Qy (by kernel_rfl) (λV hv=>by(have q:=HX.o V hv);go_simp;try rfl) ?_;try simp only[Act.put,Za,Zc,Zb])
  clear x0 x1 x2 x3 x4 x5 x6 x7 x8 x9 ab ac ae af ag ah ai aj ak q;refine Yb ?_;go_wp2_with fail;refine(HN.o _ (Zg Qb W).drew).mono ?_;rintro r w1⟨rfl,rfl⟩;go_wp2_with fail;refine⟨(Zg Qb W).drew,?_⟩;refine Yb ?_;go_wp2_with fail;refine(HL.o _).mono ?_;rintro r w1⟨rfl,rfl⟩;go_wp2_with fail;refine⟨(Zg Qb W).drew,?_⟩;refine Km ?_;go_wp2_with fail;refine(aq.o _ (Zg Qb W).drew).mono ?_;rintro r w1⟨rfl,E,z⟩;have K:=O (d.o.1.lifted (d.o.2.aA (Zg Qb W).drew) E z);clear E z;go_wp2_with fail;refine Ky ?_;go_wp2;go_ret;exact⟨rfl,K.o⟩
end
end
section
variable{w wz W1 W2 W3:World}{A:EAd}{e:Vi}{b:Nat}
theorem Qyf.made(c:Nat->Nat){F q u F3 F4 z:Fp}(hB:Qh wz b (Qyg A e) 87)(hs:Qt wz q A.sb e.sched)(hl:P3 wz u A.lb e.link)(E:Qau wz F3 A.kb e.book)(hu:Qwq A.us e.aM.toList wz F4)(Z:Qwq A.ss e.sent wz z)
  (c0:c b=0) (I:∀k,q k->c k=1) (J:∀k,u k->c k=2) (K:∀k,F3 k->c k=3) (R:∀k,F4 k->c k=4) (U:∀k,z k->c k=5) (V:F b) (f1:∀k,q k->F k) (f2:∀k,u k->F k) (f3:∀k,F3 k->F k) (f4:∀k,F4 k->F k) (f5:∀k,z k->F k) (B:Bd F wz):Qyf A wz F b e:=by
 have d:∀i,Bd (λk=>F k/\i<c k) wz:=λi k E=>B k E.1;refine Q7 (G:=λk=>k=b) (H:=λk=>F k/\0<c k) ⟨hB,rfl,λk e=>e▸B b V⟩ ?_ (λk e h=>by subst e;omega) (λk e=>e▸V) (λk h=>h.1) B;refine Q7 (H:=λk=>F k/\1<c k) hs ?_ (λk e h=>by have:=I k e;omega) (λk e=>⟨f1 k e,by have:=I k e;omega⟩) (λk h=>⟨h.1,by omega⟩) (d 0);refine Q7 (H:=λk=>F k/\2<c k) hl ?_ (λk e h=>by have:=J k e;omega) (λk e=>⟨f2 k e,by have:=J k e;omega⟩) (λk h=>⟨h.1,by omega⟩) (d 1);refine Q7 (H:=λk=>F k/\3<c k) E ?_ (λk e h=>by have:=K k e;omega) (λk e=>⟨f3 k e,by have:=K k e;omega⟩) (λk h=>⟨h.1,by omega⟩) (d 2);exact Q7 hu (Y6 Z Z.2.2) (λk e h=>by have:=R k e;have:=U k h;omega) (λk e=>⟨f4 k e,by have:=R k e;omega⟩) (λk e=>⟨f5 k e,by have:=U k e;omega⟩) (d 3)
theorem Qwq.none(w):Qwq (.slice none 0 0) [] w (λ_=>False):=⟨Own.nil _ _ _ _,nofun,nofun⟩
theorem Q0z(d:Nat)(c:Int)(k:Nat)(w)(h:Qxy d c k≠0):ZW 9 #[.agg #[ZU d,ZI c,ZU k]] w (.tuple #[.pointer none,ZI (Qxy d c k)]) λw'=>Qc Qb w w':=by
 obtain⟨W0,B⟩:=Zx (w.alloc (.cells #[ZU d,ZI c,ZU k] 24));have C0:Hi (Qc Qb w W0):=O (by rw[B];exact(Zg _ _).alloc _);have K:Hi (Qh W0 w.heap.size #[ZU d,ZI c,ZU k] 24):=O (by rw[B];exact Qh.new _ _ _);have z:=O B;unfold Qxy at h|-;clear B;by_cases hr:d<1\/1048576<d;·rw[if_pos hr];have HL:=O (Q1h d W0 hr);clear h hr;have R:=L6 (show Qh (w.alloc (.cells #[ZU d,ZI c,ZU k] 24)) w.heap.size #[ZU d,ZI c,ZU k] 24 from Qh.new _ _ _);apply WH func9;go_wp2_with fail;rw[<-z.o];apply Zo HL;rintro r w1⟨rfl,q⟩;have I:=O (C0.o.aA q);clear q;exact WD I
 .rw[if_neg hr]at h|-;have J:1<=d/\d<=1048576:=by omega
  have HL:=O (Qz1 d W0 J.1 J.2);have Z:c<1\/65536<=c\/k<1\/1099511627776<k:=by
   by_cases Z:c<1\/65536<=c\/k<1\/1099511627776<k;·exact Z
   .rw[if_neg Z]at h;exact absurd rfl h
  rw[if_pos Z];clear h hr J;by_cases hm:c<1\/65536<=c;·have HS:=O (λw1=>Qiz c w1 hm);clear Z hm;have R:=L6 (show Qh (w.alloc (.cells #[ZU d,ZI c,ZU k] 24)) w.heap.size #[ZU d,ZI c,ZU k] 24 from Qh.new _ _ _);apply WH func9;go_wp2_with fail;rw[<-z.o];apply Zo HL;rintro r w1⟨lb,rfl,E,q⟩;have I:=O (C0.o.aA q);have L1:=O (Zt E q);have b0:=L6 (q.blk K.o (λh=>h));clear q E R;go_wp2_with fail;refine(HS.o _).mono ?_;rintro r w2⟨rfl,u⟩;have C2:=O (I.o.aA u);have b0:=L6 (u.blk (L1.o.2.blk K.o (λh=>h)) (λh=>h));clear u;exact WD C2
  .have HS:=O (λw1=>Qeb c (show 1<=c by omega) (show c<65536 by omega) w1);have h3:k<1\/1099511627776<k:=by omega
   clear Z hm;by_cases h4:k<1
   .have d1:decide ((k:Int)<1)=true:=by simp;omega
    have aa:decide (k<1)=true:=by simp;omega
    clear h3 h4;have R:=L6 (show Qh (w.alloc (.cells #[ZU d,ZI c,ZU k] 24)) w.heap.size #[ZU d,ZI c,ZU k] 24 from Qh.new _ _ _);apply WH func9;go_wp2_with fail;rw[<-z.o];apply Zo HL;rintro r w1⟨lb,rfl,E,q⟩;have I:=O (C0.o.aA q);have L1:=O (Zt E q);have b0:=L6 (q.blk K.o (λh=>h));clear q E R;go_wp2_with fail;refine(HS.o _).mono ?_;rintro r w2⟨sb,rfl,hs,u⟩;have C2:=O (I.o.aA u);have b0:=L6 (u.blk (L1.o.2.blk K.o (λh=>h)) (λh=>h));clear u hs;exact WD C2
   .have d1:decide ((k:Int)<1)=false:=by simp;omega
    have aa:decide (k<1)=false:=by simp;omega
    have d2:decide ((1099511627776:Int)<(k:Int))=true:=by simp;omega
    have ab:decide (1099511627776<k)=true:=by simp;omega
    clear h3 h4;have R:=L6 (show Qh (w.alloc (.cells #[ZU d,ZI c,ZU k] 24)) w.heap.size #[ZU d,ZI c,ZU k] 24 from Qh.new _ _ _);apply WH func9;go_wp2_with fail;rw[<-z.o];apply Zo HL;rintro r w1⟨lb,rfl,E,q⟩;have I:=O (C0.o.aA q);have L1:=O (Zt E q);have b0:=L6 (q.blk K.o (λh=>h));clear q E R;go_wp2_with fail;refine(HS.o _).mono ?_;rintro r w2⟨sb,rfl,hs,u⟩;have C2:=O (I.o.aA u);have b0:=L6 (u.blk (L1.o.2.blk K.o (λh=>h)) (λh=>h));clear u hs;exact WD C2
end
theorem Q0e(d:Nat)(c:Int)(q:Nat)(w)(h:Qxy d c q=0):Cl 9 #[.agg #[ZU d,ZI c,ZU q]] w λr w'=>∃b,r=.returned (.tuple #[ptr b,ZI 0])/\Qxn w' (Qn Qb w w') b (.new d c q)/\Qc Qb w w':=by
 obtain⟨W0,z⟩:=Zx (w.alloc (.cells #[ZU d,ZI c,ZU q] 24));have C0:Hi (Qc Qb w W0):=O (by rw[z];exact(Zg _ _).alloc _);have U:Hi (Qh W0 w.heap.size #[ZU d,ZI c,ZU q] 24):=O (by rw[z];exact Qh.new _ _ _);have Z:=O z;have hh:(1<=d/\d<=1048576)/\(1<=c/\c<65536)/\1<=q/\q<=1099511627776:=by
  unfold Qxy at h;split at h;·exact absurd h (by decide)
  split at h;·exact absurd h (by decide)
  omega
 obtain⟨⟨r1,r2⟩,⟨m1,m2⟩,p1,p2⟩:=hh;have HL:=O (Qz1 d W0 r1 r2);have HS:=O (λw1=>Qeb c m1 m2 w1);have HK:=O Q01;have d1:decide ((q:Int)<1)=false:=by simp;omega
 have aa:decide (q<1)=false:=by simp;omega
 have d2:decide ((1099511627776:Int)<(q:Int))=false:=by simp;omega
 have ab:decide (1099511627776<q)=false:=by simp;omega
 clear h r1 r2 m1 m2 p1 p2 z;have a0:=L6 (show Qh (w.alloc (.cells #[ZU d,ZI c,ZU q] 24)) w.heap.size #[ZU d,ZI c,ZU q] 24 from Qh.new _ _ _);apply WH func9;go_wp2_with fail;rw[<-Z.o];apply Zo HL;rintro r w1⟨lb,rfl,hl,J⟩;have C1:=O (C0.o.aA J);have L1:=O (Zt hl J);have b0:=L6 (J.blk U.o (λh=>h));clear J hl a0;go_wp2_with fail;refine(HS.o _).mono ?_;rintro r w2⟨sb,rfl,hs,K⟩;have C2:=O (C1.o.aA K);have S2:=O (Zt hs K);have I:=O (K.blk (L1.o.2.blk U.o (λh=>h)) (λh=>h));have b0:=L6 I.o;clear K hs;go_wp2_with fail;apply XC 33302111 Qb w2;iterate 1 (apply YK λ_ hv=>L6 (hv.blk I.o (λh=>h)))
 apply YA 0;go_wp2_with fail;refine(HK.o _).mono ?_;rintro r w3⟨kb,rfl,u,c3⟩;have E:=O (Zt u ((Zg Qb w2).drew.aA c3));clear u c3;go_wp2_with fail;refine⟨E.o.2,?_⟩;apply YA 0;go_wp2_with fail;refine Km ?_;go_wp2_with fail;apply YI 0;have V:Hi (∀B,B=w3.alloc (.cells #[ZU d,ZI c,ZU q,ZU 0,ptr sb,ptr lb,ptr kb,.slice none 0 0,.slice none 0 0] 87)->Qxn B (Qn Qb w B) w3.heap.size (.new d c q)/\Qc Qb w B):=O (by
  intro B hz;have R:Qc Qb w3 B:=by rw[hz];exact(Zg _ _).alloc _
  have hB:Qh B w3.heap.size #[ZU d,ZI c,ZU q,ZU 0,ptr sb,ptr lb,ptr kb,.slice none 0 0,.slice none 0 0] 87:=by rw[hz];exact Qh.new _ _ _
  have z0:=U.o.lt;have z1:=L1.o.2.size;have z2:=S2.o.2.size;have z3:=E.o.2.size;have z4:=hB.lt;have hd:w2.drew.heap.size=w2.heap.size:=rfl;have hm:Qyf ⟨sb,lb,kb,.slice none 0 0,.slice none 0 0⟩ B (Qn Qb w B) w3.heap.size (.new d c q):=Qyf.made
   (λk=>if k<w1.heap.size then 2 else if k<w2.heap.size then 1 else if k<w3.heap.size then 3 else 0) hB (Qt.obj.aB S2.o.1 (E.o.2.aA R) (Jl.none _)) (P3.obj.aB L1.o.1 ((S2.o.2.aA E.o.2).aA R) (Jl.none _)) (Qau.obj.aB E.o.1 R (Jl.none _)) (Qwq.none _) (Qwq.none _)
   (by(try dsimp only);rw[if_neg (by omega),if_neg (by omega),if_neg (by omega)])
   (λk u=>u.elim (λh=>h.elim) (λh=>by(try dsimp only);rw[if_neg (by omega),if_pos (by omega)]))
   (λk u=>u.elim (λh=>h.elim) (λh=>by(try dsimp only);rw[if_pos (by omega)]))
   (λk u=>u.elim (λh=>h.elim) (λh=>by(try dsimp only);rw[if_neg (by omega),if_neg (by omega),if_pos (by omega)]))
   (λk u=>u.elim) (λk u=>u.elim) (.inr ⟨by omega,by omega⟩)
   (λk u=>u.elim (λh=>h.elim) (λh=>.inr ⟨by omega,by omega⟩)) (λk u=>u.elim (λh=>h.elim) (λh=>.inr ⟨by omega,by omega⟩)) (λk u=>u.elim (λh=>h.elim) (λh=>.inr ⟨by omega,by omega⟩)) (λk u=>u.elim) (λk u=>u.elim)
   (λk u=>u.elim (λh=>h.elim) (λh=>h.2))
  exact⟨⟨_,hm⟩,(C2.o.aA E.o.2).aA R⟩)
 go_wp2;go_ret2;exact⟨_,rfl,V.o _ rfl⟩
section
theorem Qzy(c d k q u z B E:Int)(w):(binOp .eql 46 (.agg #[ZU c,ZU d,ZU k,ZU q,ZU u,ZU z,ZU B,ZU E]) (.agg #[ZU c,ZU d,ZU k,ZU q,ZU u,ZU z,ZU B,ZU E])).run prog w=.ok (.bool true) w:=by go_simp
end
structure GE(W w:World)(G:Fp)(b:Nat)(e:Vi):Prop where
 is:Qxn w G b e
 lo:∀k,G k->W.heap.size<=k
 chg:Qc Qb W w
section
variable{W w w':World}{G:Fp}{b r:Nat}{e e':Vi}{cs:Array Value}{t:TypeId}
theorem GE.step(h:GE W w G b e)(d:Qxn w' (Qn G w w') b e')(q:Qc G w w'):GE W w' (Qn G w w') b e':=
 ⟨d,λk c=>c.elim (h.lo k) (λe=>Zp h.chg.size e.1),h.chg.trans q λk c=>.inr (h.lo k c)⟩
theorem GE.aB(h:GE W w G b e)(c:Qc Qb w w'):GE W w' G b e:=⟨Qxn.obj.aB h.is c (Jl.none _),h.lo,h.chg.aA c⟩
theorem GE.new(h:Qxn w (Qn Qb W w) b e)(c:Qc Qb W w):GE W w (Qn Qb W w) b e:=⟨h,λk d=>d.elim (λh=>h.elim) (λh=>h.1),c⟩
def Qy2(w:World)(G:Fp)(r:Nat)(cs:Array Value)(t:TypeId):Prop:=Qh w r cs t/\¬G r
theorem Qy2.step(h:Qy2 w G r cs t)(c:Qc G w w'):Qy2 w' (Qn G w w') r cs t:=
 ⟨c.blk h.1 h.2,λd=>d.elim h.2 (λe=>by have:=h.1.lt;omega)⟩
theorem Qy2.aB(h:Qy2 w G r cs t)(c:Qc Qb w w'):Qy2 w' G r cs t:=⟨c.blk h.1 (λh=>h),h.2⟩
theorem Q1b(o:Option D7):∀v∈(Qyz o).toList,v.oneCell'=true:=by
 cases o with
 |none=>intro v c;simp[Qyz]at c;rcases c with rfl|rfl|rfl|rfl|rfl<;>rfl
 |some x=>intro v c;simp[Qyz]at c;rcases c with rfl|rfl|rfl|rfl|rfl|rfl|rfl|rfl<;>rfl
theorem Q0a(h:GE W w G b e)(o:Option D7):
  ∃w',(storeCells ⟨w.heap.size,0,none⟩ (Qyz o).toList 0).run prog (w.alloc (.cells ZG 51))=.ok () w'/\GE W w' G b e/\Qy2 w' G w.heap.size (Qyz o) 51/\Qc Qb w w':=by
 have d:(Qyz o).size=8:=by cases o<;>rfl
 obtain⟨w',s3,c,q⟩:=Q0 (P:=prog) (vs:=Qyz o) (Qh.new w ZG 51) d (Q1b o);have N3:Qc Qb w w':=((Zg Qb w).alloc _).trans q (λk e=>.inr (by omega));refine⟨w',s3,h.aB N3,⟨c,λu=>?_⟩,N3⟩;have:=Qxn.obj.bd h.is _ u;omega
end
section
attribute [local go_sem ↓] Qzy
theorem Qzs(W):ZW 7 #[] W (.bool true) λw'=>Qc Qb W w':=by
 have u0:Fr ew0:=Fr.new _ _ _;have u1:Fr ew1:=u0.add ewC;have u2:Fr ew2:=u1.adv ew_ok1 5;have u3:Fr ew3:=u2.arr ew_ok2 ewP;have u4:Fr ew4:=u3.arr ew_ok3 ewQ;have u5:Fr ew5:=u4.adv ew_ok4 4;have u6:Fr ew6:=u5.adv ew_ok5 99;have u7:Fr ew7:=u6.adv ew_ok6 200;have UN:Hi (∀w b G,Qxn w G b ew3->ZW 21 #[ZP b] w (.tuple #[.agg (Qyz (some ewX)),.bool true]) λw'=>Qc Qb w w'):=O (λw b G h=>by
  obtain⟨A,hA⟩:=h;have:=Qzq hA;rw[Qyt]at this;exact this)
 have SE:Hi (∀w b G,Qxn w G b ew6->Cl 14 #[ZP b] w λe w'=>∃g cap,e=.returned (.slice (some ⟨g,0,none⟩) 1 cap)/\(∃cs,Qy2 w' G g cs 51/\∀(j:Nat)(u:Value),(Qxe ewX)[j]? =some u->cs[j]? =some u)/\Qc Qb w w'):=O (λw b G h=>by
  have aj:=Qxn.obj.bd h;obtain⟨A,hA⟩:=h;have:=Qzz hA (by rw[Qyr];decide);rw[Qyr]at this;refine this.mono ?_;rintro r w'⟨v',rfl,h1,c1,h2⟩;obtain⟨g,cap,rfl,ho,cs,hB,hx⟩:=Qxw.one h1;exact⟨g,cap,rfl,⟨cs,⟨hB,λhk=>by have:=aj _ hk;have:=h2 g ho;omega⟩,hx⟩,c1⟩)
 have SA:Hi (∀w b G,Qxn w G b ew7->ZW 15 #[ZP b,ZI 0] w (.agg #[ZU 1,ZU 1,ZU 1,ZU 10,ZU 0,ZU 10,ZU 0,ZU 0]) λw'=>Qc Qb w w'):=O (λw b G h=>by
  obtain⟨A,hA⟩:=h;have:=Q0v hA ew_ok7.book 0;rw[Qyp]at this;exact this)
 obtain⟨N0,ag,_⟩:=ew_ok0.sok;have e7:ew7.adv 100=ew7:=by unfold Vi.adv;rw[if_neg (by rw[Qyo];decide)]
 have U:=O (Zt u1 (Zt u2 (Zt u3 (Zt u4 (Zt u5 (Zt u6 (Zt u7 (Zt e7 ag))))))));clear u0 u1 u2 u3 u4 u5 u6 u7 e7 ag;apply WH func7;go_wp2_with fail;refine(Q0e 256 1500 100 W Qyb).mono ?_;rintro e w1⟨b,rfl,h1,c1⟩;have S1:=O (show GE W _ _ b ew0 from GE.new h1 c1);unfold ptr;clear h1 c1;generalize Qn Qb W w1=G1 at S1;go_wp2_with fail;apply Zz (Q0z 256 1500 0 _ (by rw[Qyq];decide));intro w2 c2;rw[Qyq];have S2:=O (S1.o.aB c2);clear c2;go_wp2_with fail;apply Zz (Q0c S2.o.is U.o.2.2.2.2.2.2.2.2 ewC);rintro w3⟨h3,c3⟩;rw[Qyh];have S3:=O (show GE W _ _ b ew1 from S2.o.step h3 c3);clear h3 c3;generalize Qn G1 w2 w3=G3 at S3;go_wp2_with fail;apply Zz (Qyy S3.o.is ew_ok1 (by decide) U.o.1 5);rintro w4⟨h4,c4⟩;rw[Qyi];have S4:=O (show GE W _ _ b ew2 from S3.o.step h4 c4);clear h4 c4;generalize Qn G3 w3 w4=G4 at S4;go_wp2_with fail;apply Zz (Qzn S4.o.is ew_ok2 (by decide) U.o.2.1 ewP);rintro w5⟨h5,c5⟩;rw[Qyj];have S5:=O (show GE W _ _ b ew3 from S4.o.step h5 c5);clear h5 c5;generalize Qn G4 w4 w5=G5 at S5;go_wp2_with fail;apply Zz (UN.o _ _ _ S5.o.is);intro w6 c6;obtain⟨W6,s6,g6,a6,n6⟩:=Q0a (S5.o.aB c6) (some ewX);have S6:=O g6;have B6:=O a6;clear c6 g6 a6 n6;go_wp2_with fail;clear s6;apply Zz (Qzn S6.o.is ew_ok3 (by decide) U.o.2.2.1 ewQ);rintro w7⟨h7,c7⟩;rw[Qyk];have S7:=O (show GE W _ _ b ew4 from S6.o.step h7 c7);have B7:=O (B6.o.step c7);clear h7 c7;generalize Qn G5 W6 w7=G7 at S7 B7;go_wp2_with fail;apply Zz (Qyy S7.o.is ew_ok4 (by decide) U.o.2.2.2.1 4);rintro w8⟨h8,c8⟩;rw[Qyl];have S8:=O (show GE W _ _ b ew5 from S7.o.step h8 c8);have B8:=O (B7.o.step c8);clear h8 c8;generalize Qn G7 w7 w8=G8 at S8 B8;go_wp2_with fail;apply Zz (Qyy S8.o.is ew_ok5 (by decide) U.o.2.2.2.2.1 99);rintro w9⟨h9,c9⟩;rw[Qym];have S9:=O (show GE W _ _ b ew6 from S8.o.step h9 c9);have B9:=O (B8.o.step c9);clear h9 c9;generalize Qn G8 w8 w9=G9 at S9 B9;go_wp2_with fail;refine(SE.o _ _ _ S9.o.is).mono ?_;rintro e ak⟨g,cap,rfl,⟨cs,ae,hx⟩,E⟩;have V:=O (S9.o.aB E);have ah:=O (B9.o.aB E);have K:=O (Zt ae hx);clear ae hx E;go_wp2_with fail;apply Zz (Qyy V.o.is ew_ok6 (by decide) U.o.2.2.2.2.2.1 200);rintro c⟨af,d⟩;rw[Qyn];have z:=O (show GE W _ _ b ew7 from V.o.step af d);have J:=O (ah.o.step d);have R:=O (K.o.1.step d);clear af d;generalize Qn G9 ak c=an at z J R;have x0:=Ja (show Qh c w6.heap.size #[ZU 7,ZI 1,ZI 10,ZU 5,.int .u8 2,ZU 5,ZU 15,ZU 0] _ from J.o.1);have y0:=(show c.cell? ⟨g,0,none⟩=some (ZU 7)/\c.cell? ⟨g,1,none⟩=some (ZI 1)/\c.cell? ⟨g,2,none⟩=some (ZI 10)/\c.cell? ⟨g,3,none⟩=some (ZU 5)/\c.cell? ⟨g,4,none⟩=some (.int .u8 2)/\c.cell? ⟨g,5,none⟩=some (ZU 5)/\c.cell? ⟨g,6,none⟩=some (ZU 15)/\c.cell? ⟨g,7,none⟩=some (ZU 0)from Q11 R.o.1 K.o.2);go_wp2_with fail;clear x0 y0;obtain⟨al,k⟩:=z.o.is;apply Zz (Qzd k.blk.1);intro ao aa;rw[Qys.2];clear k;have B:=O (z.o.aB aa);clear aa;go_wp2_with fail;obtain⟨am,q⟩:=B.o.is;apply Zz (Qzo q.blk.1);rintro ap rfl;rw[Qys.1];clear q;go_wp2_with fail;apply Zz (Qyy B.o.is ew_ok7 (by decide) U.o.2.2.2.2.2.2.1 100);rintro aq⟨I,ab⟩;rw[Qyo];rw[U.o.2.2.2.2.2.2.2.1]at I;have Z:=O (B.o.step I ab);clear I ab;go_wp2_with fail;apply Z9 (SA.o _ _ _ Z.o.is) (λ_ ac=>(Z.o.aB ac).chg);intro ar ai;exact WD ai
end
def Vi.alls(e:Vi):List D7:=e.sent++e.aM.toList
def ofC(c:Int)(l:List D7):List Jr:=(l.filter λx=>decide (x.p.cls=c)).map D7.p
theorem Qx1(c:Int)(l m:List D7):ofC c (l++m)=ofC c l++ofC c m:=by unfold ofC;rw[List.filter_append,List.map_append]
theorem Qx2(c:Int)(x:D7):ofC c [x]=if x.p.cls=c then[x.p]else[]:=by grind [ofC]
structure Qx7(rate:Nat)(x:D7):Prop where
 cls:0<=x.p.cls/\x.p.cls<64
 len:Ll x.p
 at_:0<=x.p.at_/\x.p.at_<=x.frm
 til:x.frm<=x.til
 pace:x.p.len.toNat*256+x.frm*rate<(x.til+1)*rate
 far:x.til<=1152921504623624192+1048576
 slow:x.til*rate<=x.frm*rate+x.p.len.toNat*256+rate
structure D6(e:Vi)(put:Int->List Jr):Prop where
 put:∀c,0<=c->c<64->put c=ofC c e.alls++e.sched.qOf c
 none:∀c,¬(0<=c/\c<64)->e.sched.qOf c=[]
 at_:∀c,∀p∈e.sched.qOf c,0<=p.at_/\p.at_<=e.now
 ok:∀x∈e.alls,Qx7 e.rate x
 chain:e.alls.Pairwise λx y=>x.til<=y.frm
 last:∀x∈e.sent,x.til<=e.now
section
variable{K:Nat}{e:Vi}{put:Int->List Jr}
theorem D6.new(k:Nat)(d:Int)(q:Nat):D6 (Vi.new k d q) λ_=>[]:=
 ⟨λ_ _ _=>rfl,λ_ _=>rfl,λc p z=>(by cases z),λx u=>(by cases u),List.Pairwise.nil,λx u=>(by cases u)⟩
theorem D6.sched(h:D6 e put){s:Qf}(d:∀i,s.qOf i=e.sched.qOf i)(b:V1):D6 {e with sched:=s,book:=b} put:=
 ⟨λc k q=>by show put c=ofC c e.alls++s.qOf c;rw[d];exact h.put c k q,λc u=>(d c).trans (h.none c u),λc p z=>h.at_ c p (by rw[<-d c];exact z),h.ok,h.chain,h.last⟩
theorem D6.time(h:D6 e put)(l:V2){t:Nat}(k:e.now<=t):D6 {e with link:=l,now:=t} put:=
 ⟨h.put,h.none,λc p d=>⟨(h.at_ c p d).1,by have:=(h.at_ c p d).2;show p.at_<=(t:Int);omega⟩,h.ok,h.chain,λx q=>Zp (h.last x q) k⟩
theorem D6.through(h:D6 e put)(I:V4 K e){x:D7}(z:e.aM=some x):D6 (e.through x) put:=by
 have d:(e.through x).alls=e.alls:=by unfold Vi.alls Vi.through;rw[z];simp
 have q:=(I.und x z).2;refine⟨λc k B=>?_,h.none,λc p u=>⟨(h.at_ c p u).1,by have:=(h.at_ c p u).2;show p.at_<=(x.til:Int);omega⟩,?_,?_,λy E=>?_⟩;·rw[d];exact h.put c k B
 .rw[d];exact h.ok
 .rw[d];exact h.chain
 .show y.til<=x.til;rcases Zl.1 (show y∈e.sent++[x]from E)with k|k;·exact Zp (h.last y k) q
  .rw[List.mem_singleton.1 k];exact Zv _
theorem Q1y(l:V2)(now:Nat)(c:Int)(q:1<=l.rate):l.til now c*l.rate<=now*l.rate+c.toNat*256+l.rate:=by
 unfold V2.til;split
 .rename_i h;have u:l.send now c=⟨l.rate,l.from_ now+c.toNat*256,false⟩:=by unfold V2.send;rw[if_pos h]
  have B:l.from_ now<=now*l.rate:=by
   unfold V2.from_;split;·rename_i d;simp only[Zw,decide_eq_true_eq]at d;have k:=Qwh l.taken l.rate q;have:(l.taken+l.rate-1)/l.rate=now:=d.2.symm;rw[this]at k;exact k.1
   .exact Zv _
  have z:(l.send now c).aU=(l.from_ now+c.toNat*256+l.rate-1)/l.rate:=by rw[u];rfl
  rw[z];have:=(Qwh (l.from_ now+c.toNat*256) l.rate q).2;omega
 .omega
theorem D6.choose(h:D6 e put)(ok:V4 K e)(hu:e.aM=Option.none):D6 e.choose.2 put:=by
 rcases ok.choose hu with⟨I,_⟩|⟨c,s,_,d,B,_,_,hg,hr,hq,ho,ht,af,ac⟩;·rw[I];exact h
 .have J:e.alls=e.sent:=by unfold Vi.alls;rw[hu];simp
  have q:e.choose.2.alls=e.sent++[e.chosen c]:=by rw[d];rfl
  have hp:c.p∈e.sched.qOf c.p.cls:=by rw[hq];exact List.mem_cons_self ..
  have V:0<=c.p.cls/\c.p.cls<64:=Classical.byContradiction λhn=>by rw[h.none _ hn]at hp;cases hp
  have Z:(e.chosen c).til<=1152921504623624192+1048576:=by
   have ag:=(B.und (e.chosen c) (by rw[d])).1;have aj:=B.taken;have R:=B.rate;have u:=B.lrate;rw[d]at R u;rw[ag];have ah:=Qwh e.choose.2.link.taken e.choose.2.link.rate (by rw[d];dsimp only at u|-;rw[u];exact R.1);show(e.choose.2.link.taken+e.choose.2.link.rate-1)/e.choose.2.link.rate<=_;have ai:e.choose.2.link.rate<=1048576:=by rw[d];dsimp only at u|-;rw[u];exact R.2
   exact Zp (Nat.div_le_self _ _) (by omega)
  have U:∀i,i≠c.p.cls->e.choose.2.sched.qOf i=e.sched.qOf i:=by rw[d];exact ho
  have E:e.sched.qOf c.p.cls=c.p::e.choose.2.sched.qOf c.p.cls:=by rw[d];exact hq
  refine⟨λk I h2=>?_,λk hk=>?_,λk p ab=>?_,?_,?_,λy hy=>?_⟩
  .rw[q,Qx1,Qx2];have:=h.put k I h2;rw[J]at this;rw[this];by_cases z:c.p.cls=k;·rw[if_pos (show(e.chosen c).p.cls=k from z),List.append_assoc,<-z,E];rfl
   .rw[if_neg (show¬(e.chosen c).p.cls=k from z),List.append_nil,U k (λh=>z h.symm)]
  .rw[U k (λz=>hk (by rw[z];exact V))];exact h.none k hk
  .have aa:e.choose.2.now=e.now:=by rw[d]
   rw[aa];by_cases z:k=c.p.cls;·exact h.at_ c.p.cls p (by rw[E];exact Zr _ (by rw[<-z];exact ab))
   .exact h.at_ k p (by rw[<-U k z];exact ab)
  .have ae:e.choose.2.rate=e.rate:=by rw[d]
   rw[q,ae];intro x hx;rcases Zl.1 hx with I|I;·exact h.ok x (by rw[J];exact I)
   .rw[List.mem_singleton.1 I];exact⟨V,hg,h.at_ _ _ hp,af,ac,Z,by have:=Q1y e.link e.now c.p.len (by rw[ok.lrate];exact ok.rate.1);rwa[ok.lrate]at this⟩
  .rw[q];refine List.pairwise_append.2 ⟨by have:=h.chain;rwa[J]at this,List.pairwise_singleton ..,λx hx y hy=>?_⟩;rw[List.mem_singleton.1 hy];exact h.last x hx
  .have:e.choose.2.sent=e.sent/\e.choose.2.now=e.now:=by rw[d];exact⟨rfl,rfl⟩
   rw[this.2];rw[this.1]at hy;exact h.last y hy
theorem D6.step(h:D6 e put)(c:V4 K e)(til:Nat):D6 (e.step til).2 put:=by
 obtain⟨d,q⟩:=Qwo c til;unfold Vi.step;split;·exact h
 .split
  .rename_i x u;split;·exact h.through c u
   .exact h.time e.link d
  .rename_i k;split;·exact h.time _ (show e.now<=min (max e.now e.sched.tick) (e.clip til) by omega)
   .exact(h.time _ (show e.now<=min (max e.now e.sched.tick) (e.clip til) by omega)).choose (c.idle k d q) k
theorem D6.all(c:Nat):∀(n:Nat){e:Vi},D6 e put->V4 K e->D6 (Vi.all c n e) put
 |0,_,h,_=>h
 |n+1,e,h,ok=>by
  rw[Vi.all];split;·exact h.step ok c
  .exact D6.all c n (h.step ok c) (ok.step c).1
theorem D6.run(h:D6 e put)(c:V4 K e)(til:Nat):D6 (e.run til) put:=h.all til _ c
def Qxs(put:Int->List Jr)(q:Jr):Int->List Jr:=λc=>if c=q.cls then put c++[q]else put c
theorem Qxt(c:V4 K e):(e.run e.now).now=e.now:=by grind [Vi.run,Vi.stopped,G9,V3,Qxc]
theorem D6.came(h:D6 e put)(Z:V4 K e){q:Jr}(I:e.sched.aQ q=0)(R:0<=q.cls/\q.cls<64)(z:q.at_=(e.now:Int)):D6 (e.came q) (Qxs put q):=by
 obtain⟨N,J,_⟩:=Z.sok;have B:=Qsg J e.now I;refine⟨λc U V=>?_,λc E=>?_,λc p k=>?_,h.ok,h.chain,h.last⟩
 .show Qxs put q c=ofC c e.alls++(e.sched.push q e.now).qOf c;rw[B];unfold Qxs;have:=h.put c U V;by_cases d:c=q.cls;·rw[if_pos d,if_pos d,this,d,List.append_assoc]
  .rw[if_neg d,if_neg d,this]
 .show(e.sched.push q e.now).qOf c=[];rw[B,if_neg (λd=>E (by rw[d];exact R))];exact h.none c E
 .rw[show(e.came q).sched.qOf c=(e.sched.push q e.now).qOf c from rfl,B]at k;show 0<=p.at_/\p.at_<=(e.now:Int);split at k
  .rcases Zl.1 k with u|u;·exact h.at_ _ p u
   .rw[List.mem_singleton.1 u,z];omega
  .exact h.at_ _ p k
theorem D6.arr(h:D6 e put)(d:V4 K e)(p:Jr)(B:0<=p.cls/\p.cls<64):D6 (e.arr p) (if e.arrE p=0 then Qxs put {p with at_:=(e.now:Int)}else put):=by
 have u:=Qxt d;have q:e.arrP p={p with at_:=(e.now:Int)}:=by unfold Vi.arrP;rw[u]
 rw[Qwb];unfold Vi.arrE;cases E:e.stopped with
 |true=> simp only[if_true];rw[if_neg (by decide)];exact h
 |false=>
  simp only[Bool.false_eq_true,if_false];have k:=h.run d e.now;have z:=d.run e.now;by_cases c:(e.run e.now).sched.aQ (e.arrP p)=0;·rw[if_pos c,if_pos c,<-q];exact(k.came z c B (by rw[q,u])).run (z.came c) _
  .rw[if_neg c,if_neg c];exact k.sched (λ_=>rfl) _
theorem D6.does(h:D6 e put)(z:V4 K e)(k:Nat)(s:Yk)(p:Jr)(d:Nat)(U:0<=p.cls/\p.cls<64):
  D6 (e.does k s p d) (if k%7=3/\e.aY k s p d=0 then Qxs put {p with at_:=(e.now:Int)}else put):=by
 unfold Vi.does Vi.aY;obtain⟨N,R,_⟩:=z.sok;by_cases E:k%7=0
 .rw[if_pos E,if_neg (by omega)];unfold Vi.add;split;·exact h
  .exact h.sched (Qt8 R s) _
 rw[if_neg E];by_cases I:k%7=1
 .rw[if_pos I,if_neg (by omega)];unfold Vi.change;split;·exact h
  .exact h.sched (Qbb s) _
 rw[if_neg I];by_cases J:k%7=2
 .rw[if_pos J,if_neg (by omega)];unfold Vi.drop;split;·exact h
  .split;·exact h.sched (Qsf R s.id) _
   .exact h
 rw[if_neg J];by_cases q:k%7=3
 .rw[if_pos q,if_neg E,if_neg I,if_neg J,if_pos q];have:=h.arr z p U;by_cases u:e.arrE p=0;·rw[if_pos u]at this;rw[if_pos ⟨q,u⟩];exact this
  .rw[if_neg u]at this;rw[if_neg (λB=>u B.2)];exact this
 rw[if_neg q];rw[if_neg (c:=k%7=3/\_) (λB=>q B.1)];split
 .unfold Vi.adv;split;·exact h.run z _
  .exact h
 .exact h.step z _
theorem Qw3(ok:V4 K e){i:Int}(q:e.aP i=0):(e.drop i).sched.many i=0:=by
 unfold Vi.aP at q;unfold Vi.drop;cases J:e.stopped with
 |true=>rw[J]at q;simp only[if_true]at q;exact absurd q (by decide)
 |false=>
  rw[J]at q;simp only[Bool.false_eq_true,if_false]at q|-;rw[if_pos q];obtain⟨N,B,_⟩:=ok.sok;have U:=B.drop q;show(e.sched.drop i).many i=0;obtain⟨z,V⟩:=Ng q;have u:(e.sched.drop i).tree.at i=Option.none:=by unfold Qf.drop;rw[if_pos q];show(e.sched.tree.drop i).at i=Option.none;unfold Qm.drop;rw[if_pos V];unfold Qm.at;rw[List.find?_eq_none];intro c I;have:=(List.mem_filter.1 I).2;simpa using this
  have Z:i≠0:=by intro R;unfold Qf.aP at q;rw[R,B.tree.zero (by decide)]at q;simp at q
  have hl:(e.sched.drop i).tree.aI i=[]:=by
   unfold Qm.aI;rw[List.map_eq_nil_iff,List.filter_eq_nil_iff];intro c I E;simp only[Zw]at E;have k:=E.2;unfold Qm.below at k;simp only[Bool.or_eq_true,decide_eq_true_eq]at k;rcases k with k|k;·exact Z k
   .have:=List.contains_iff_mem.1 k;obtain⟨_,d,z⟩:=Qhi U.tree this;rw[u]at z;cases z
  unfold Qf.many;rw[hl];rfl
end
def Qy5(us:Nat->Value):Array Value:=((List.range 64).map us).toArray
def Qzj(us:Nat->Value)(ps:Nat->List Jr):List Ya:=(List.range 64).map λc=>Uh (us c) (ps c)
theorem Qzc(us:Nat->Value)(ps:Nat->List Jr):∀P∈Qzj us ps,Uy P:=by intro P d;obtain⟨c,_,rfl⟩:=Z3.1 d;exact Nk _ _
theorem Qy6(us:Nat->Value){c:Nat}(d:c<64):(Qy5 us)[c]? =some (us c):=by unfold Qy5;simp[d]
theorem Qzu{w}:∀{L:List Ya},(∀P∈L,P w λ_=>False)->Oh L w λ_=>False
 |[],_=>λk c=>c.elim
 |P::L,h=>Q7 (h P List.mem_cons_self) (Qzu λQ d=>h Q (Zr _ d)) (λk c=>c.elim) (λk c=>c) (λk c=>c) (λk c=>c.elim)
def Qyw(us:Nat->Value)(w:World)(F:Fp)(b:Nat)(ps:Nat->List Jr):Prop:=Oh (Tv b (Qy5 us) 59::Qzj us ps) w F
section
variable{b:Nat}{us:Nat->Value}{w w1:World}{F:Fp}{ps:Nat->List Jr}
theorem Qyw.good(us:Nat->Value)(b:Nat)(ps:Nat->List Jr):Uy (λw F=>Qyw us w F b ps):=Je λP c=>by
 rcases Zu.1 c with rfl|h;·exact Ks _ _ _
 .exact Qzc _ _ P h
theorem Qyw.blk(h:Qyw us w F b ps):Qh w b (Qy5 us) 59/\F b:=by obtain⟨_,k,_,c,_,_,d,_⟩:=h;exact⟨c.1,d b c.2.1⟩
theorem Qyw.row(h:Qyw us w F b ps){c:Nat}(hc:c<64):∃G:Fp,Uh (us c) (ps c) w G/\(∀k,G k->F k)/\¬G b/\∀w' q l',Uh q l' w' (Qn G w w')->Qc G w w'->Qyw (upd us c q) (w'.setCell ⟨b,c,none⟩ q) (Qn F w (w'.setCell ⟨b,c,none⟩ q)) b (upd ps c l')/\Qc F w (w'.setCell ⟨b,c,none⟩ q):=by
 obtain⟨I,G0,K,u,h1,E,s0,s1⟩:=h;have e:(Qzj us ps)[c]? =some (Uh (us c) (ps c)):=by unfold Qzj;simp[hc]
 obtain⟨G,k1,J,_,k3⟩:=Xv c (Qzc us ps) e h1;have Z:¬G b:=λd=>E b u.2.1 (J _ d);refine⟨G,k1,λk d=>s1 _ (J _ d),Z,λw' q l' hp z=>?_⟩;have U:Oh ((Qzj us ps).set c (Uh q l')) w' (Qn K w w'):=k3 w' (Uh q l') z hp;have e2:(Qzj us ps).set c (Uh q l')=Qzj (upd us c q) (upd ps c l'):=by
  unfold Qzj;rw[Qed];refine List.map_congr_left λk _=>?_;by_cases d:k=c;·subst d;rw[Qbz,Qbz,Qbz]
  .rw[Qb0 _ _ d,Qb0 _ _ d,Qb0 _ _ d]
 rw[e2]at U;have bw:b<w.heap.size:=u.1.lt;have B:Qc (λk=>k=b) w' (w'.setCell ⟨b,c,none⟩ q):=(Zg _ _).setCell _ (.inl rfl);have R:Qc F w (w'.setCell ⟨b,c,none⟩ q):=(z.sub λk d=>s1 _ (J _ d)).trans B λk e=>.inl (e▸s0 b u.2.1);have V:Qh (w'.setCell ⟨b,c,none⟩ q) b (Qy5 (upd us c q)) 59:=by have:=(z.blk u.1 Z).set c q;unfold Qy5 at this;rw[Za,Qed]at this;exact this
 refine⟨Q7 (G:=λk=>k=b) (H:=Qn K w w') ⟨V,rfl,λk e=>e▸V.lt⟩ ((Je (Qzc _ _)).aB U B ?_) ?_ (λk e=>.inl (e▸s0 b u.2.1)) ?_ (I.ext R),R⟩
 .rintro k(d|d) rfl;·exact E _ u.2.1 d
  .omega
 .rintro k rfl(d|d);·exact E _ u.2.1 d
  .omega
 .rintro k(d|d);·exact .inl (s1 _ d)
  .exact .inr ⟨d.1,Nat.lt_of_lt_of_le d.2 B.size⟩
theorem Qyw.start(w:World):Qyw (λ_=>.slice none 0 0) (w.alloc (.cells (Qy5 λ_=>.slice none 0 0) 59)) (λk=>k=w.heap.size) w.heap.size λ_=>[]:=by have q:Qh (w.alloc (.cells (Qy5 λ_=>.slice none 0 0) 59)) w.heap.size (Qy5 λ_=>.slice none 0 0) 59:=Qh.new _ _ _;refine Q7 (G:=λk=>k=w.heap.size) (H:=λ_=>False) ⟨q,rfl,λk e=>e▸q.lt⟩ (Qzu λP u=>?_) (λk _ d=>d) (λk e=>e) (λk d=>d.elim) (λk e=>e▸q.lt);obtain⟨c,_,rfl⟩:=Z3.1 u;exact Uh.nil λk d=>d.elim
end
end Go.Proofs.YtigcnnkagkbflaaGreat
