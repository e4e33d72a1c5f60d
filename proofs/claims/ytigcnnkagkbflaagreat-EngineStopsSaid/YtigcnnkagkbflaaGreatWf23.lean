/- A part of the proof: no condition. -/
import Derived.Test.YtigcnnkagkbflaaGreatWf22
import Derived.Sort.LoopGhostIn
namespace Go.Proofs.YtigcnnkagkbflaaGreat
set_option linter.unusedVariables false
set_option maxRecDepth 100000
set_option maxHeartbeats 4000000
open Go.RowKit
open Go.Proofs.Tryz
attribute [local go_sem] Qp
attribute [local irreducible] Kl J9 Xo
section
variable{cs cs':Array Value}{A:EAd}{w w' W:World}{F:Fp}{b:Nat}{e:Vi}{x:D7}{v:Value}
theorem V6.sentUp(h:V6 cs A w F b e){l:List D7}(u:Qxw w' v l)(B:Qc (fun k=>A.ss.ownBlock=some k) w w')(E:v.ownBlock=A.ss.ownBlock∨v.ownBlock=some w.heap.size):
  V6 cs {A with ss:=v} w' (Qn F w w') b {e with sent:=l}∧Qc F w w':=by
 obtain⟨G,d,I,J,z⟩:=h.sentOf;have c:Qc G w w':=B.sub fun k e=>d.2.1 k e;refine z w' v l ⟨u,fun k q=>?_,d.2.2.ext c⟩ c;rcases E with e|e;·exact .inl (d.2.1 k (e.symm.trans q))
 ·rw[e]at q;cases q;exact .inr ⟨Zv _,u.lt _ e⟩
theorem V6.ssNot(h:V6 cs A w F b e):A.ss.ownBlock≠some b:=fun k=>by obtain⟨G,c,q,d,u⟩:=h.sentOf;exact d (c.2.1 b k)
theorem V6.gone(h:Qyf A w F b e)(c:Qc Qb w W)(d:Nat)(z:w'=(W.setCell ⟨b,7,none⟩ (.slice none 0 0)).setCell ⟨b,3,none⟩ (ZU d)):
  Qyf {A with us:=.slice none 0 0} w' F b {e with aM:=none,now:=d}∧Qc F w w':=by
 have q:=(V6.good (Qyg A e) A b e).bd h;have E:=h.aB c;have R:Qh w' b (Qyg {A with us:=.slice none 0 0} {e with aM:=none,now:=d}) 87:=by rw[z];exact(E.blk.1.set' 7 _ rfl).set' 3 _ rfl
 have I:Qc (fun k=>k=b) W w':=by rw[z];exact((Zg (fun k=>k=b) W).setCell (a:=⟨b,7,none⟩) _ (.inl rfl)).setCell (a:=⟨b,3,none⟩) _ (.inl rfl)
 have hz:w'.heap.size=W.heap.size:=by rw[z];simp[World.setCell]
 obtain⟨U,V⟩:=E.cells I R;have B:Qc F w w':=c.none.aA V;obtain⟨G,J,g2,g3,K⟩:=U.underOf;obtain⟨Z,q2⟩:=K w' (.slice none 0 0) none ⟨Own.nil _ _ _ _,nofun,fun k u=>u.elim (J.2.2 k) (fun h=>h.2)⟩ (Zg _ _);exact⟨Z.lift (fun k u=>u.elim (fun h=>h.elim id (fun h=>by omega)) (fun h=>by omega)) (q.later B),B⟩
theorem Q1c(x:D7){g:Nat}(h:Qh w g (Qxe x).toArray 51):Kb Qxe 8 w (some ⟨g,0,none⟩) [x]:=by
 intro i c;have:i=0:=by simpa using c
 subst this;exact⟨g,0,rfl,fun j u d=>by rw[show 0+0*8+j=j by omega];exact h.at j (by simpa using d)⟩
def evA(k:Nat)(x:D7):Array Value:=#[.int .u8 k,ZU x.p.id,ZI x.p.cls,ZI x.p.len,ZU x.p.at_,.int .u8 x.rule,ZU x.frm,ZU x.til,ZU x.due]
theorem Qz1(h:Qxn w F b e){K:Nat}(ok:V4 K e)(hK:K<1099511627776)(hx:e.aM=some x)(hg:Ll x.p):ZW 44 #[ptr b] w (.agg (evA 2 x)) fun w'=>Qxn w' (Qn F w w') b (e.through x)∧Qc F w w':=by
 obtain⟨A,h⟩:=h;have J:=(V6.good (Qyg A e) A b e).bd h;have Xg:b<w.heap.size:=h.blk.1.lt;obtain⟨W0,R⟩:=Zx (w.alloc (.cells ZH 53));obtain⟨W1,U⟩:=Zx (W0.alloc (.cells ZG 51));have C1:Hi (Qc Qb w W1):=O (by rw[U,R];exact((Zg _ _).alloc _).alloc _);have az:Hi (Qh W1 w.heap.size ZH 53):=O (by rw[U,R];exact(Qh.new' _ _ (by simp)).alloc _);have am:Qh W1 (w.heap.size+1) ZG 51:=by rw[U,R];exact Qh.new' _ _ (by simp)
 obtain⟨g,cap,aw,_,cs,hB,ay⟩:=Qxw.one (by obtain⟨G,hU,_⟩:=h.underOf;rw[hx]at hU;exact hU.1);obtain⟨W3,s3,ae,c3⟩:=Q0 (P:=prog) (vs:=(Qxe x).toArray) am rfl (fun v hv=>sentT.one x v (by simpa using hv));have C3:Hi (Qc Qb w W3):=O (C1.o.trans c3 (fun k e=>.inr (by omega)));have B3:=O ae;have a9:=O (c3.blk az.o (fun e=>by omega));obtain⟨I,aa⟩:=Zx ((W3.setCell ⟨b,7,none⟩ (.slice none 0 0)).setCell ⟨b,3,none⟩ (ZU x.til));have Z:=O (h.gone C3.o x.til aa);have B5:Hi (Qh I (w.heap.size+1) (Qxe x).toArray 51):=O (by rw[aa];exact(ae.other _ (by show b≠w.heap.size+1;omega)).other _ (by show b≠w.heap.size+1;omega));have ba:Hi (Qh I w.heap.size ZH 53):=O (by rw[aa];exact(a9.o.other _ (by show b≠w.heap.size;omega)).other _ (by show b≠w.heap.size;omega));obtain⟨a0,a1,a2,a3,a4,a5,a6,a7,a8⟩:=Av (h.blk.1.alloc (.cells ZH 53));rw[aw]at a7;have bh:(Qxe x).toArray.size=8:=rfl;have HL:Hi ((w.alloc (.cells ZH 53)).rangeAt g 0 (Qxe x)):=O (fun j u hu=>by rw[Nat.zero_add];exact(hB.alloc _).at j (ay j u hu));rw[U,R]at s3;have au:Qxw I A.ss e.sent:=by obtain⟨G,g1,_⟩:=Z.o.1.sentOf;exact g1.1
 obtain⟨d,E⟩:=Zx ((I.alloc (.cells (Qxe x).toArray 51)).drew);have C6:Hi (Qc Qb I d):=O (by rw[E];exact((Zg _ _).alloc _).drew);have ap:e.sent.length<1099511627776:=by obtain⟨N,_,h⟩:=ok.sok;omega
 obtain⟨v6,w6,ac,al,c6,ax⟩:=Qzr sentT (P:=prog) 43 A.ss e.sent (au.aB C6.o (fun k hk h=>h)) (some ⟨I.heap.size,0,none⟩) 1 [x] nofun
  (Q1c x (show Qh d I.heap.size (Qxe x).toArray 51 by rw[E];exact(Qh.new _ _ _).drew)) (by simp only[maxLen,List.length_singleton];omega) (by simp only[List.length_singleton];omega)
 obtain⟨z,m6,B,bg⟩:∃ad m c,v6=.slice ad m c:=by obtain⟨a,c,h,_⟩:=Own.row Qws al;exact⟨_,_,_,h⟩
 subst bg;have af:(Builtin.append_ #[43,43] 43 #[A.ss,.slice (some ⟨I.heap.size,0,none⟩) 1 1]).run prog d=.ok (.slice z m6 B) w6:=ac;have ah:Hi (Qc (fun k=>A.ss.ownBlock=some k) I w6):=O (C6.o.none.aA c6);have av:w.heap.size+2≤d.heap.size:=Zp (by have:=B5.o.lt;omega) C6.o.size;have UP:Hi (∀q,q=w6.setCell ⟨b,8,none⟩ (.slice z m6 B)→∃V,Qyg V {e with aM:=none,now:=x.til,sent:=e.sent++[x]}=Qyg {A with us:=.slice none 0 0,ss:=.slice z m6 B} {e with now:=x.til}∧Qyf V q (Qn F d q) b {e with aM:=none,now:=x.til,sent:=e.sent++[x]}∧Qc F w q∧(∀k,w.heap.size≤k→k<w.heap.size+2→¬Qn F d q k)∧Qc F d q):=O (by
  rintro q rfl;obtain⟨p1,p2⟩:=(Z.o.1.aB C6.o).sentUp al c6 ax;obtain⟨q1,q2⟩:=p1.cells (cs':=Qyg {A with us:=.slice none 0 0,ss:=.slice z m6 B} {e with aM:=none,now:=x.til,sent:=e.sent++[x]}) ((Zg (fun k=>k=b) w6).setCell (a:=⟨b,8,none⟩) (.slice z m6 B) (.inl rfl)) (p1.blk.1.set' 8 (.slice z m6 B) rfl);have cc:=p2.ext q2;have cw:=(Z.o.2.aA C6.o.none).aA cc;exact⟨_,rfl,q1.lift (Qn.trans p2.size q2.size) ((J.later ((Z.o.2.aA C6.o.none))).ext cc),cw,fun k h1 h2 h3=>h3.elim (fun h=>by have:=J k h;omega) (fun h=>by omega),cc⟩)
 have bb:=O (fun q(c:Qc F d q)=>Zt (c.blk (C6.o.blk ba.o (fun h=>h)) (fun h=>by have:=J _ h;omega)) (c.blk (C6.o.blk (show Qh I (w.heap.size+1) (ZM x) 51 from B5.o) (fun h=>h)) (fun h=>by have:=J _ h;omega)));have an:=O (show∀q V,Qyg V {e with aM:=none,now:=x.til,sent:=e.sent++[x]}=Qyg {A with us:=.slice none 0 0,ss:=.slice z m6 B} {e with now:=x.til}→Qyf V q (Qn F d q) b {e with aM:=none,now:=x.til,sent:=e.sent++[x]}→Qc F w q→(∀k,w.heap.size≤k→k<w.heap.size+2→¬Qn F d q k)→w.heap.size+2≤q.heap.size→
   ZW 81 #[ptr A.kb,.agg (ZL x.p)] q.drew (.tuple #[]) fun w8=>(∀w9,Qc (fun k=>w.heap.size≤k∧k<w.heap.size+2) w8 w9→Qxn w9 (Qn F w w9) b (e.through x)∧Qc F w w9)∧Qc (fun k=>¬(w.heap.size≤k∧k<w.heap.size+2)) q w8 from by
  intro q V hA h7 c7 aq bk;have bf:ptr V.kb=ptr A.kb:=by have:=congrArg (fun a:Array Value=>a[6]?) hA;simpa[Qyg]using this
  obtain⟨G,hB,hG,_,ar⟩:=(h7.aB (Zg Qb q).drew).bookOf;rw[←bf];refine(Qzu hB ok.book x.p hg).mono ?_;rintro r w8⟨rfl,be,c8⟩;obtain⟨m1,m2⟩:=ar w8 _ be c8;have m3:Qc (Qn F d q) q w8:=m2.aT;refine⟨rfl,fun w9 c9=>?_,m3.sub fun k hk ab=>aq k ab.1 ab.2 hk⟩;have hd:Jl (Qn (Qn F d q) q w8) (fun k=>w.heap.size≤k∧k<w.heap.size+2):=fun k hk ab=>hk.elim (fun h=>aq k ab.1 ab.2 h) (fun h=>by omega);have k1:=(V6.good _ V b _).aB (show V6 _ V w8 (Qn (Qn F d q) q w8) b (e.through x)from m1) c9 hd;have cc:Qc F w w9:=((c7.trans m3 fun k hk=>hk.elim .inl (fun h=>.inr (by omega)))).trans c9 fun k hk=>.inr hk.1;exact⟨⟨V,k1.lift (fun k hk=>hk.elim (fun h=>h.elim .inl (fun h=>.inr ⟨by omega,Nat.lt_of_lt_of_le h.2 (Zp m3.size c9.size)⟩)) (fun h=>.inr ⟨by omega,Nat.lt_of_lt_of_le h.2 c9.size⟩)) (J.ext cc)⟩,cc⟩)
 have ag:=O (Zt (C3.o.blk h.blk.1 (fun h=>h)).frozen (Ja (show Qh W3 (w.heap.size+1) (ZM x) 51 from ae)));have A3:=O (Av (C3.o.blk h.blk.1 (fun h=>h)));have q1:¬b=w.heap.size+1:=by omega
 have q2:¬w.heap.size+1=b:=by omega
 have ao:Hi (d=(I.alloc (.cells (ZM x) 51)).drew):=O (E);have ac:=af;have bj:=O U;have bi:=O R;have bc:=O aa;clear h J ok hx E au ap af al c6 ax Xg R U am aw hB ay ae c3 aa;obtain⟨f3,g0,g1,g2,g3,g4,g5,g6,g7⟩:=ag.o;obtain⟨z0,z1,z2,z3,z4,z5,z6,z7,z8⟩:=A3.o;go_enter func44,ntmps44;go_wp2_with (with_reducible refine wpList_load_mid rfl 51 (.tmp 8) rfl g 0 rfl (Qxe x) _ HL.o underlying51 rfl (by kernel_rfl) ?_);rw[←bc.o];clear f3 g0 g1 g2 g3 g4 g5 g6 g7 z0 z1 z2 z3 z4 z5 z6 z7 z8 s3 a0 a1 a2 a3 a4 a5 a6 a7 a8 bh;generalize(Qxe x).toArray=sa;obtain⟨g0,g1,g2,g3,g4,g5,g6,g7⟩:=Ja (show Qh I.drew (w.heap.size+1) (ZM x) 51 from B5.o.drew);obtain⟨z0,z1,z2,z3,z4,z5,z6,z7,z8⟩:=Av Z.o.1.blk.1.drew;refine ZC [100,101,102,103,104,5,206,207,8,9,310] (fun wv=>Qc ((fun k=>A.ss.ownBlock=some k)) (I) wv) ?_;simp only[Z8,Zf,Ze,Zd];iterate 4 (refine Qy (h:=?_);try simp only[Act.put,Za,Zc,Zb])
 iterate 1 (refine Qy (by kernel_rfl) (fun wv hv=>by(obtain⟨z0,z1,z2,z3,z4,z5,z6,z7,z8⟩:=Av (hv.blk Z.o.1.blk.1 (fun h=>Z.o.1.ssNot h)));go_simp;try rfl) ?_;try simp only[Act.put,Za,Zc,Zb])
 refine Xe (h:=?_);refine Yb ?_;go_wp2_with fail;rw[←ao.o];refine⟨C6.o.none,?_⟩;refine Yb ?_;refine Lib.wpList_append_run _ rfl (.tmp 22) (.tmp 24) 43 43 rfl _ _ rfl rfl _ _ ac ?_;go_wp2_with fail;refine⟨ah.o,?_⟩;clear ac g0 g1 g2 g3 g4 g5 g6 g7 z0 z1 z2 z3 z4 z5 z6 z7 z8;obtain⟨z0,z1,z2,z3,z4,z5,z6,z7,z8⟩:=Av (ah.o.blk Z.o.1.blk.1 (fun h=>Z.o.1.ssNot h));have f6:=(ah.o.blk Z.o.1.blk.1 (fun h=>Z.o.1.ssNot h)).frozen;iterate 2 (refine Xe (h:=?_))
 refine Km ?_;go_wp2_with fail;refine Ky ?_;clear z0 z1 z2 z3 z4 z5 z6 z7 z8 f6 ac;obtain⟨W7,ak⟩:=Zx (w6.setCell ⟨b,8,none⟩ (.slice z m6 B));rw[←ak];obtain⟨V,aj,h7,c7,n7,ai⟩:=UP.o W7 ak;have EV:=O (bb.o W7 ai);have HC:=O (an.o W7 V aj h7 c7 n7 (Zp av ai.size));obtain⟨z0,z1,z2,z3,z4,z5,z6,z7,z8⟩:=Av (show Qh W7.drew b (Qyg {A with us:=.slice none 0 0,ss:=.slice z m6 B} {e with now:=x.til}) 87 from aj▸h7.blk.1.drew);obtain⟨g0,g1,g2,g3,g4,g5,g6,g7⟩:=Ja EV.o.2.drew;clear ak h7 c7 n7 ai aj;go_wp2_with fail;refine ZB [0,1,2,3,4,5,206] ?_;simp only[Z8,Zf,Ze,Zd];iterate 6 (refine Jq (h:=?_))
 clear z0 z1 z2 z3 z4 z5 z6 z7 z8 g0 g1 g2 g3 g4 g5 g6 g7;refine J7 ?_;go_wp2_with fail;refine Zo HC ?_;rintro r w8⟨rfl,k8,c8⟩;have K8:=O k8;have E8:=O (c8.blk EV.o.1 (fun h=>h ⟨Zv _,by omega⟩));have S8:=O (c8.blk EV.o.2 (fun h=>h ⟨by omega,by omega⟩));clear k8 c8;go_wp2_with fail;refine Jo ?_;obtain⟨g0,g1,g2,g3,g4,g5,g6,g7⟩:=Ja S8.o;obtain⟨z0,z1,z2,z3,z4,z5,z6,z7,z8⟩:=Av E8.o;have f8:=E8.o.frozen;have bd:Hi (∀k,k=w.heap.size→w.heap.size≤k∧k<w.heap.size+2):=O (fun k e=>by omega);go_wp2_with fail;refine bodyPost_ret (v:=.agg (evA 2 x)) (by unfold evA;rw[Lv (p:=2) (ty:=53) (by kernel_rfl)];go_simp;try rfl) rfl ⟨rfl,K8.o _ ?_⟩;iterate 9 (with_reducible refine Qc.setCell ?_ _ (Or.inl (bd.o _ rfl)))
 exact Zg _ _
end
section
theorem Q1k(o:Option ChM):∀v∈(Bq o).toList,v.oneCell'=true:=by
 cases o with
 |none=>exact Iy _ _ _
 |some c=>exact Iy _ _ _
theorem Q1h(o:Option ChM):(Bq o).size=6:=by cases o<;>rfl
attribute [local go_sem] Q1h
def evO:Option EvM→Array Value
 |none=>#[.int .u8 0,ZU 0,ZI 0,ZI 0,ZU 0,.int .u8 0,ZU 0,ZU 0,ZU 0]
 |some c=>evA c.kind c.x
theorem Q1e(l:V2)(now:Nat)(h:1≤l.rate):l.from_ now≤now*l.rate:=by
 unfold V2.from_;split;·rename_i c;rw[Zw,decide_eq_true_eq]at c;rw[c.2];unfold V2.aU;have d:=Nat.div_add_mod (l.taken+l.rate-1) l.rate;have k:=Nat.mod_lt (l.taken+l.rate-1) (show l.rate>0 from h);rw[Nat.mul_comm]at d;omega
 ·exact Zv _
section
variable{A:EAd}{w w' W V:World}{F F1:Fp}{b:Nat}{e:Vi}{x:D7}
theorem V6.last{cs:Array Value}{n:Nat}(h:V6 cs A V F1 b e)(z:cs=Qyg A e)(B:¬F1 n)(c:∀k,F1 k→F k∨(w.heap.size≤k∧k<V.heap.size))(u:Bd F w)(I:w.heap.size≤n)(cV:Qc F w V)(q:Qc (fun k=>k=n) V w'):
  Qxn w' (Qn F w w') b e∧Qc F w w':=by
 subst z;have E:Qc F w w':=cV.trans q fun k d=>.inr (by omega);exact⟨⟨A,((V6.good _ A b e).aB h q (fun k d e=>B (e▸d))).lift (fun k d=>(c k d).elim .inl fun h=>.inr ⟨h.1,Nat.lt_of_lt_of_le h.2 q.size⟩) (u.ext E)⟩,E⟩
theorem Qxw.fresh(x:D7)(c:Qh w b (Qxe x).toArray 51):Qxw w (.slice (some ⟨b,0,none⟩) 1 1) [x]:=
 ⟨rfl,.inr ⟨b,1,(Qxe x).toArray,rfl,Nat.zero_le _,c,Zv _,by simp[maxLen],rfl,by simp[Jm,Qxe]⟩⟩
theorem V6.came(h:Qyf A w F b e)(x:D7)(u:w'=(w.alloc (.cells (Qxe x).toArray 51)).setCell ⟨b,7,none⟩ (.slice (some ⟨w.heap.size,0,none⟩) 1 1)):
  Qyf {A with us:=.slice (some ⟨w.heap.size,0,none⟩) 1 1} w' (Qn F w w') b {e with aM:=some x}∧Qc F w w':=by
 obtain⟨G,J,Z,g3,K⟩:=h.underOf;have c:Qc Qb w (w.alloc (.cells (Qxe x).toArray 51)):=(Zg _ _).alloc _;have q:Qh (w.alloc (.cells (Qxe x).toArray 51)) w.heap.size (Qxe x).toArray 51:=Qh.new _ _ _;generalize w.alloc (.cells (Qxe x).toArray 51)=w1 at*;obtain⟨z,B⟩:=K w1 (.slice (some ⟨w.heap.size,0,none⟩) 1 1) (some x) ⟨Qxw.fresh x q,fun k R=>by cases R;exact .inr ⟨Zv _,q.lt⟩,J.2.2.ext c⟩ c.none;have I:Qc (fun k=>k=b) w1 w':=by rw[u];exact(Zg (fun k=>k=b) w1).setCell (a:=⟨b,7,none⟩) _ (.inl rfl)
 obtain⟨U,E⟩:=z.cells (cs':=Qyg {A with us:=.slice (some ⟨w.heap.size,0,none⟩) 1 1} {e with aM:=some x}) I (by rw[u];exact z.blk.1.set' 7 _ rfl);have d:=B.ext E;exact⟨U.lift (Qn.trans B.size E.size) (((V6.good _ A b e).bd h).ext d),d⟩
theorem Qzg(h:Qxn w F b e){K:Nat}(ok:V4 K e)(hK:K<549755813000)(hu:e.aM=none):ZW 46 #[ptr b] w (.tuple #[.agg (evO e.choose.1),.bool e.choose.1.isSome]) fun w'=>Qxn w' (Qn F w w') b e.choose.2∧Qc F w w':=by
 obtain⟨A,h⟩:=h;obtain⟨N,bq,hN⟩:=ok.sok;have av:=(V6.good (Qyg A e) A b e).bd h;obtain⟨B,af⟩:=Zx (w.alloc (.cells ZH 53));have C0:Hi (Qc Qb w B):=O (by rw[af];exact(Zg _ _).alloc _);have a9:Hi (Qh B w.heap.size ZH 53):=O (by rw[af];exact Qh.new _ _ _);have h0:=h.aB C0.o;have bi:B.heap.size=w.heap.size+1:=by rw[af];simp
 have HB:=O h0.blk.1;obtain⟨G,ai⟩:∃G:Fp,G=fun k=>F k∧k≠b:=⟨_,rfl⟩;have bj:¬G b:=by rw[ai];exact fun h=>h.2 rfl
 have hG:∀k,G k→F k:=by rw[ai];exact fun k h=>h.1
 have aq:Hi (∀w',Qc Qb B w'→ZW 25 #[ptr A.sb,ZU e.now] w' (.tuple #[.agg (Bq (e.sched.next e.now).1),.bool (e.sched.next e.now).1.isSome]) fun az=>Qyf A az (Qn F w' az) b {e with sched:=(e.sched.next e.now).2}∧Qc G w' az):=O (fun w' cc=>by
  obtain⟨G',hS,bz,bk,U⟩:=(h0.aB cc).schedOf;refine(Pg hS bq (by omega) e.now).mono ?_;rintro r w2⟨rfl,h2,c2⟩;obtain⟨m1,m2⟩:=U w2 _ h2 c2;exact⟨rfl,m1,c2.sub fun k d=>by rw[ai];exact⟨bz k d,fun e=>bk (e▸d)⟩⟩)
 have NG:Hi (∀k,w.heap.size≤k→¬F k):=O (fun k d b0=>by have:=av _ b0;omega);have J:=O hG;have bb:=O av;have ar:=O bi;have CH:=O (ok.choose hu);have RT:=O (Zt (show Qy6 e.link from⟨by rw[ok.lrate];exact ok.rate,ok.taken⟩) (Zt (Zp ok.now ok.hor.2) (Zt (show e.link.from_ e.now≤1152921504606846976 from Zp (Q1e _ _ (by rw[ok.lrate];exact ok.rate.1)) (by rw[ok.lrate];exact Zp (Nat.mul_le_mul (Zp ok.now ok.hor.2) ok.rate.2) (by decide))) ok.book)));obtain⟨o,ho⟩:=Zx ((e.sched.next e.now).1);obtain⟨s1,ax⟩:=Zx ((e.sched.next e.now).2);rw[←ho,←ax]at aq;have HO:=O (Zt ho ax);have bu:=O af;clear ho ax bi;obtain⟨a0,a1,a2,a3,a4,a5,a6,a7,a8⟩:=Av h0.blk.1;have ab:=O (fun(w')(c:Qc G B w')=>Av (c.blk HB.o bj));clear h h0 bj hG ai av bq hN ok af hu;go_enter func46,ntmps46;go_wp2_with fail;rw[←bu.o];go_cut [4,5] (fun s4 s5 wz=>(∃r F1,s4=ZP r∧Qh wz r (Bq o) 70∧Qyf A wz F1 b {e with sched:=s1}∧¬F1 r∧¬F1 w.heap.size∧(∀k,F1 k→F k∨(w.heap.size≤k∧k<wz.heap.size))∧w.heap.size<r)∧s5=.bool o.isSome∧
  Qh wz w.heap.size ZH 53∧Qc F w wz)
 case first=>
  refine Ui (.lookp 0 (.lookp 1 (.lookp 2 (.lookp 3 (.lookp 4 (.lookp 5 (.lookp 6 (.lookp 7 (.fork 8 (.lookp 9 (.lookp 10 (.lookp 11 (.walk 12 (.walk 13 (.walk 14 .nil)))))) 12 (.walk 8 (.look 9 (.look 10 (.lookp 11 (.walk 13 (.walk 14 .nil))))))))))))))) (fun z=>Qc (G) (B) z) Zq (by kernel_rfl) (fun _ _ _ _ _ h=>h) Z0 ?_;simp only[O0,Zf,Ze,Zd];iterate 3 (first|refine Vd (h:=?_)|refine Xi (h:=?_);try simp only[Act.put,Za,Zc,Zb])
  iterate 1 (refine Xi (by kernel_rfl) (fun z E=>by(obtain⟨z0,I,z2,z3,z4,z5,z6,z7,z8⟩:=ab.o z E);go_simp;try rfl) ?_;try simp only[Act.put,Za,Zc,Zb])
  iterate 3 (first|refine Vd (h:=?_)|refine Xi (h:=?_);try simp only[Act.put,Za,Zc,Zb])
  iterate 1 (refine Xi (by kernel_rfl) (fun z E=>by(obtain⟨z0,I,z2,z3,z4,z5,z6,z7,z8⟩:=ab.o z E);go_simp;try rfl) ?_;try simp only[Act.put,Za,Zc,Zb])
  clear a0 a1 a2 a3 a4 a5 a6 a7 a8;refine Gn ?_ ?_
  ·go_wp2_with fail;refine(aq.o _ (Zg Qb B).drew).mono ?_;rintro r w2⟨rfl,h2,c2⟩;have C2:Hi (Qc G B w2):=O ((Zg G B).drew.aA c2);have H2:=O h2;clear h2 c2;go_wp2_with fail;refine⟨C2.o,?_⟩;iterate 3 (first|refine Vd (h:=?_)|refine Xi (h:=?_);try simp only[Act.put,Za,Zc,Zb])
   refine Xt ?_;go_wp2_with fail;refine⟨C2.o.alloc _,?_⟩;obtain⟨W3,s3,ae,C3⟩:=Q0 (P:=prog) (vs:=Bq o) (Qh.new w2 ZK 70) (Q1h o) (Q1k _);have D3:Hi (Qc G B W3):=O ((C2.o.alloc _).trans C3 (fun k e=>.inr (by have:=C2.o.size;omega)));have N3:Hi (Qc Qb w2 W3):=O (((Zg Qb w2).alloc _).trans C3 (fun k e=>.inr (by omega)));have an:=O ae;clear ae C3;refine Xt ?_;go_wp2_with fail;refine⟨D3.o,?_⟩;refine Xt ?_;go_wp2_with fail;refine⟨D3.o,?_⟩;refine U9 ?_;clear s3;go_wp2_with fail;go_meet;have cF:=C0.o.none.aA (D3.o.sub J.o);have I:=C2.o.size;have z2:=ar.o;have z3:=N3.o.size;exact⟨⟨_,Qn F B.drew w2,rfl,an.o,H2.o.aB N3.o,fun d=>d.elim (fun d=>NG.o _ (by omega) d) (fun d=>by omega),fun d=>d.elim (fun d=>NG.o _ (Zv _) d) (fun d=>by have:=d.1;simp only[World.size_drew]at this;omega),fun k d=>d.elim .inl (fun d=>.inr ⟨by have:=d.1;simp only[World.size_drew]at this;omega,by omega⟩),by omega⟩,rfl,D3.o.blk a9.o (fun d=>NG.o _ (Zv _) (J.o _ d)),cF⟩
  ·go_wp2_with fail;have CA:=O ((Zg Qb B).drew.alloc (.cells ZK 70));have BA:Hi (Qh (B.drew.alloc (.cells ZK 70)) B.heap.size ZK 70):=O (Qh.new B.drew _ _);refine⟨CA.o.mono (fun k h=>h.elim),?_⟩;refine Xt ?_;go_wp2_with fail;refine(aq.o _ CA.o).mono ?_;rintro r w2⟨rfl,h2,c2⟩;have C2:Hi (Qc G B w2):=O ((CA.o.none (F:=G)).aA c2);have H2:=O h2;obtain⟨W3,s3,ae,C3⟩:=Q0 (P:=prog) (vs:=Bq o) (c2.blk BA.o (fun d=>NG.o _ (by have:=ar.o;omega) (J.o _ d))) (Q1h o) (Q1k _);have an:=O ae;have N3:Hi (Qc (fun k=>k=B.heap.size) w2 W3):=O (C3);have D3:Hi (Qc G B W3):=O (C2.o.trans C3 (fun k e=>.inr (by omega)));clear h2 c2 ae C3;go_wp2_with fail;refine⟨C2.o,?_⟩;iterate 3 (first|refine Vd (h:=?_)|refine Xi (h:=?_);try simp only[Act.put,Za,Zc,Zb])
   refine Xt ?_;go_wp2_with fail;refine⟨D3.o,?_⟩;refine Xt ?_;go_wp2_with fail;refine⟨D3.o,?_⟩;refine U9 ?_;clear s3;go_wp2_with fail;go_meet;have cF:=C0.o.none.aA (D3.o.sub J.o);have I:=CA.o.size;have z2:=N3.o.size;have z3:=ar.o;have z4:=BA.o.lt;obtain⟨ba,be⟩:=Zx (B.drew.alloc (.cells ZK 70));have bc:=H2.o;rw[←be]at bc I z4;have nr:¬Qn F ba w2 B.heap.size:=fun d=>d.elim (fun d=>NG.o _ (by omega) d) (fun d=>by omega);exact⟨⟨_,Qn F ba w2,rfl,an.o,(V6.good _ A b _).aB bc N3.o (fun k d e=>nr (e▸d)),nr,fun d=>d.elim (fun d=>NG.o _ (Zv _) d) (fun d=>by omega),fun k d=>d.elim .inl (fun d=>.inr ⟨by omega,by omega⟩),by omega⟩,rfl,D3.o.blk a9.o (fun d=>NG.o _ (Zv _) (J.o _ d)),cF⟩
 case rest=>
  obtain⟨⟨r,F1,rfl,hR,hA,nr,nE,Z,hr⟩,rfl,hE,cW⟩:=hcut;obtain⟨V,hV⟩:=Zx wc;rw[←hV]at hR hA hE cW Z⊢;clear hV a0 a1 a2 a3 a4 a5 a6 a7 a8;have HA:=O hA;have CW:=O cW;have NN:=O (Zt nr (Zt nE (Zt Z hr)));cases o with
  |none=>
   obtain⟨bd,ag⟩:e.choose=(none,e)∧({e with sched:=s1}:Vi)=e:=by
    obtain⟨h1,h2⟩:=HO.o;rcases CH.o with⟨hc,_⟩|⟨c,s,hc,_⟩
    ·refine⟨hc,?_⟩;have h3:e.choose=(none,{e with sched:=s1}):=by
      have hp:e.sched.next e.now=(none,s1):=by rw[h1,h2]
      unfold Vi.choose;rw[hp]
     exact(Prod.mk.inj (h3.symm.trans hc)).2
    ·rw[hc]at h1;cases h1
   rw[ag]at hA;have ao:=O bd;have ap:=O (fun w'(c9:Qc (fun k=>k=w.heap.size) V w')=>hA.last (w':=w') rfl nE Z bb.o (Zv _) cW c9);obtain⟨z0,I,z2,z3,z4,z5,z6,z7,z8⟩:=Av hE;have fE:=hE.frozen;clear hR hA hE cW Z nr nE hr bd ag;go_wp2_with fail;rw[ao.o];refine bodyPost_ret (v:=.tuple #[.agg (evO none),.bool false]) (by unfold evO;rw[results_cell_tmp (p:=2) (u:=3) (ty:=53) (by kernel_rfl)];go_simp;try rfl) rfl ⟨rfl,ap.o _ ?_⟩;iterate 9 (with_reducible refine Qc.setCell ?_ _ (Or.inl rfl))
   exact Zg _ _
  |some c=>
   obtain⟨b1,ak,bf,bg,bh⟩:e.sched.next e.now=(some c,s1)∧e.choose=(some ⟨1,e.chosen c⟩,{e with sched:=s1,link:=e.link.send e.now c.p.len,aM:=some (e.chosen c),book:=e.book.tell c.p.cls (Qwn c.p c.rule)})∧e.link.sendE e.now c.p.len=0∧Ll c.p∧(c.rule=1∨c.rule=2):=by
    obtain⟨h1,h2⟩:=HO.o;have hp:e.sched.next e.now=(some c,s1):=by rw[h1,h2]
    rcases CH.o with⟨hc,_⟩|⟨c',s,hc,ak,_,_,hs,hg,hr,_⟩
    ·have h3:e.choose=(some ⟨1,e.chosen c⟩,{e with sched:=s1,link:=e.link.send e.now c.p.len,aM:=some (e.chosen c),book:=e.book.tell c.p.cls (Qwn c.p c.rule)}):=by unfold Vi.choose;rw[hp]
     rw[h3]at hc;cases hc
    ·rw[hp]at hc;cases hc;exact⟨hp,ak,hs,hg,hr⟩
   obtain⟨bl,bm,bo,bp⟩:=RT.o;have ao:=O ak;obtain⟨tl,ay⟩:=Zx (e.link.til e.now c.p.len);have bw:Hi (e.chosen c=⟨c.p,c.rule,e.now,tl,c.due⟩):=O (by unfold Vi.chosen;rw[ay]);have au:Hi (∀w1,Qc Qb V w1→ZW 83 #[ptr A.lb,ZU e.now,ZI c.p.len] w1 (.tuple #[ZU tl,ZI 0]) fun w2=>Qyf A w2 (Qn F1 w1 w2) b {e with sched:=s1,link:=e.link.send e.now c.p.len}∧Qc F1 w1 w2):=O (fun w1 c1=>by
    obtain⟨G,hL,_,_,U⟩:=(hA.aB c1).linkOf;rw[ay];refine(Q0q hL bl bf bm bo).mono ?_;rintro r w2⟨rfl,h2,c2⟩;obtain⟨m1,m2⟩:=U w2 _ h2 c2;exact⟨rfl,m1,m2⟩)
   have DR:=(Zg Qb V).drew;obtain⟨z0,I,z2,z3,z4,z5,z6,z7,z8⟩:=Av (DR.blk hA.blk.1 (fun h=>h));obtain⟨r0,r1,r2,r3,r4,r5⟩:=Lf (show Qh V.drew r #[ZU c.p.id,ZI c.p.cls,ZI c.p.len,ZU c.p.at_,.int .u8 c.rule,ZU c.due] _ from DR.blk hR (fun h=>h));have b2:=O ((V6.good _ A b _).bd hA);have ah:=O (Zt hR hE);have ac:=O (Zt bg (Zt bh bp));clear hR hA hE cW Z nr nE hr b1 ak bf bg bh bl bm bo bp ay DR;go_wp2_with fail;refine ZC [0,1,2,3,4,5,6,7,8,9,10,211,12,13,114,215,316] (fun z=>Qc ((fun _=>True)) (V) z) ?_;simp only[Z8,Zf,Ze,Zd];iterate 11 (refine Xe (h:=?_))
   clear z0 I z2 z3 z4 z5 z6 z7 z8 r0 r1 r2 r3 r4 r5;refine Yb ?_;go_wp2_with fail;refine(au.o _ (Zg Qb V).drew).mono ?_;rintro rr q⟨rfl,h4,c4⟩;have H4:=O (show Qyf A q (Qn F1 V q) b _ from h4);have C4:=O c4.aT;clear h4 c4;go_wp2_with fail;refine⟨C4.o.sub fun _ _=>trivial,?_⟩;iterate 2 (refine Xe (h:=?_))
   (refine Qy (h:=?_);try simp only[Act.put,Za,Zc,Zb]);refine Yb ?_;go_wp2_with fail;refine⟨C4.o.sub fun _ _=>trivial,?_⟩;refine Km ?_;go_wp2_with fail;refine Ky ?_;have R4:=O (C4.o.blk ah.o.1 NN.o.1);have E4:=O (C4.o.blk ah.o.2 NN.o.2.1);obtain⟨z0,I,z2,z3,z4,z5,z6,z7,z8⟩:=Av H4.o.blk.1;obtain⟨r0,r1,r2,r3,r4,r5⟩:=Lf (show Qh q r #[ZU c.p.id,ZI c.p.cls,ZI c.p.len,ZU c.p.at_,.int .u8 c.rule,ZU c.due] _ from R4.o);have aa:=O (fun(z)(E:Qc Qb q z)=>Zt (Av (E.blk H4.o.blk.1 (fun h=>h))) (Lf (show Qh z r #[ZU c.p.id,ZI c.p.cls,ZI c.p.len,ZU c.p.at_,.int .u8 c.rule,ZU c.due] _ from E.blk R4.o (fun h=>h))));go_wp2_with fail;refine ZC [100,101,102,103,104,105,106,107,108,109,110,111,212,313] (fun z=>Qc (Qb) (q) z) ?_;simp only[Z8,Zf,Ze,Zd]
   (refine Qy (h:=?_);try simp only[Act.put,Za,Zc,Zb]);iterate 1 (refine Qy (by kernel_rfl) (fun z E=>by(obtain⟨⟨z0,I,z2,z3,z4,z5,z6,z7,z8⟩,r0,r1,r2,r3,r4,r5⟩:=aa.o z E);go_simp;try rfl) ?_;try simp only[Act.put,Za,Zc,Zb])
   (refine Qy (h:=?_);try simp only[Act.put,Za,Zc,Zb]);iterate 1 (refine Qy (by kernel_rfl) (fun z E=>by(obtain⟨⟨z0,I,z2,z3,z4,z5,z6,z7,z8⟩,r0,r1,r2,r3,r4,r5⟩:=aa.o z E);go_simp;try rfl) ?_;try simp only[Act.put,Za,Zc,Zb])
   iterate 3 (refine Qy (h:=?_);try simp only[Act.put,Za,Zc,Zb])
   iterate 1 (refine Qy (by kernel_rfl) (fun z E=>by(obtain⟨⟨z0,I,z2,z3,z4,z5,z6,z7,z8⟩,r0,r1,r2,r3,r4,r5⟩:=aa.o z E);go_simp;try rfl) ?_;try simp only[Act.put,Za,Zc,Zb])
   iterate 2 (refine Qy (h:=?_);try simp only[Act.put,Za,Zc,Zb])
   iterate 1 (refine Qy (by kernel_rfl) (fun z E=>by(obtain⟨⟨z0,I,z2,z3,z4,z5,z6,z7,z8⟩,r0,r1,r2,r3,r4,r5⟩:=aa.o z E);go_simp;try rfl) ?_;try simp only[Act.put,Za,Zc,Zb])
   (refine Qy (h:=?_);try simp only[Act.put,Za,Zc,Zb]);clear z0 I z2 z3 z4 z5 z6 z7 z8 r0 r1 r2 r3 r4 r5;refine Yb ?_;go_wp2_with fail;refine⟨(Zg Qb q).drew.alloc _,?_⟩;refine Km ?_;go_wp2_with fail;refine Ky ?_;obtain⟨W6,aj⟩:=Zx ((q.alloc (.cells #[ZU c.p.id,ZI c.p.cls,ZI c.p.len,ZU c.p.at_,.int .u8 c.rule,ZU e.now,ZU tl,ZU c.due] 51)).drew);rw[←aj];have C6:Hi (Qc Qb q W6):=O (by rw[aj];exact((Zg _ _).alloc _).drew);have S6:Hi (Qh W6 q.heap.size #[ZU c.p.id,ZI c.p.cls,ZI c.p.len,ZU c.p.at_,.int .u8 c.rule,ZU e.now,ZU tl,ZU c.due] 51):=O (by rw[aj];exact(Qh.new _ _ _).drew);have H6:=O (H4.o.aB C6.o);have SZ:Hi (q.heap.size+1≤W6.heap.size):=O (S6.o.lt);obtain⟨W7,aw⟩:=Zx ((W6.alloc (.cells #[ZU c.p.id,ZI c.p.cls,ZI c.p.len,ZU c.p.at_,.int .u8 c.rule,ZU e.now,ZU tl,ZU c.due] 51)).setCell ⟨b,7,none⟩ (.slice (some ⟨W6.heap.size,0,none⟩) 1 1));have bv:=O aw;have H7:=O (H6.o.came ⟨c.p,c.rule,e.now,tl,c.due⟩ (w':=W7) aw);have br:Hi (∀k,Qn F1 V q k→k<q.heap.size):=O ((V6.good _ A b _).bd H4.o);have N7:Hi ((∀k,k<W6.heap.size→¬Qn F1 V q k→¬Qn (Qn F1 V q) W6 W7 k)):=O (fun k h1 h2 h3=>h3.elim h2 (fun h=>by omega));have R:Hi (r<V.heap.size∧w.heap.size<V.heap.size∧V.heap.size≤q.heap.size):=O (⟨ah.o.1.lt,ah.o.2.lt,C4.o.size⟩);have M4:Hi (¬Qn F1 V q r∧¬Qn F1 V q w.heap.size∧¬Qn F1 V q q.heap.size):=O (⟨fun h=>h.elim NN.o.1 (fun h=>by have:=R.o.1;omega),fun h=>h.elim NN.o.2.1 (fun h=>by have:=R.o.2.1;omega),fun h=>by have:=br.o _ h;omega⟩);have M7:Hi (¬Qn (Qn F1 V q) W6 W7 r∧¬Qn (Qn F1 V q) W6 W7 w.heap.size∧¬Qn (Qn F1 V q) W6 W7 q.heap.size):=O (by
    have h1:=R.o;have h2:=SZ.o;exact⟨N7.o _ (by omega) M4.o.1,N7.o _ (by omega) M4.o.2.1,N7.o _ (by omega) M4.o.2.2⟩)
   have R7:=O (H7.o.2.blk (C6.o.blk R4.o (fun h=>h)) M4.o.1);have E7:=O (H7.o.2.blk (C6.o.blk E4.o (fun h=>h)) M4.o.2.1);have S7:=O (H7.o.2.blk S6.o M4.o.2.2);have bt:Hi (ZW 84 #[ptr A.kb,.agg (ZL c.p),.int .u8 c.rule] W7.drew (.tuple #[]) fun w8=>Qyf {A with us:=(.slice (some ⟨W6.heap.size,0,none⟩) 1 1)} w8 (Qn (Qn (Qn F1 V q) W6 W7) W7 w8) b {e with sched:=s1,link:=e.link.send e.now c.p.len,aM:=some ⟨c.p,c.rule,e.now,tl,c.due⟩,book:=e.book.tell c.p.cls (Qwn c.p c.rule)}∧Qc (Qn (Qn F1 V q) W6 W7) W7 w8):=O (by
    obtain⟨G,hB,_,_,U⟩:=(H7.o.1.aB (Zg Qb W7).drew).bookOf;refine(Qzz hB ac.o.2.2 c.p ac.o.1 c.rule ac.o.2.1).mono ?_;rintro r w8⟨rfl,h8,c8⟩;obtain⟨m1,m2⟩:=U w8 _ h8 c8;exact⟨rfl,m1,m2.aT⟩)
   obtain⟨t0,t1,t2,t3,t4,t5,t6,t7⟩:=Ja S6.o;obtain⟨z0,I,z2,z3,z4,z5,z6,z7,z8⟩:=Av (H6.o.blk.1.alloc (.cells #[ZU c.p.id,ZI c.p.cls,ZI c.p.len,ZU c.p.at_,.int .u8 c.rule,ZU e.now,ZU tl,ZU c.due] 51));have fb:=(H6.o.blk.1.alloc (.cells #[ZU c.p.id,ZI c.p.cls,ZI c.p.len,ZU c.p.at_,.int .u8 c.rule,ZU e.now,ZU tl,ZU c.due] 51)).frozen;clear aj aw;go_wp2_with fail;rw[←bv.o];clear t0 t1 t2 t3 t4 t5 t6 t7 z0 I z2 z3 z4 z5 z6 z7 z8 fb;obtain⟨z0,I,z2,z3,z4,z5,z6,z7,z8⟩:=Av H7.o.1.blk.1.drew;obtain⟨r0,r1,r2,r3,r4,r5⟩:=Lf (show Qh W7.drew r #[ZU c.p.id,ZI c.p.cls,ZI c.p.len,ZU c.p.at_,.int .u8 c.rule,ZU c.due] _ from R7.o.drew);refine ZB [0,1,2,3,4,5,6,7,208] ?_;simp only[Z8,Zf,Ze,Zd];iterate 8 (refine Jq (h:=?_))
   clear z0 I z2 z3 z4 z5 z6 z7 z8 r0 r1 r2 r3 r4 r5;refine J7 ?_;go_wp2_with fail;refine Zo bt ?_;rintro rr w8⟨rfl,h8,c8⟩;have S8:=O (c8.blk S7.o M7.o.2.2);have E8:=O (c8.blk E7.o M7.o.2.1);have al:Hi (∀k,Qn F1 V q k→F k∨(w.heap.size≤k∧k<q.heap.size)):=O (fun k h=>h.elim (fun h=>(NN.o.2.2.1 k h).elim .inl (fun h=>.inr ⟨h.1,by have:=R.o;omega⟩)) (fun h=>.inr ⟨by have:=R.o;omega,h.2⟩));have am:Hi (∀k,Qn (Qn F1 V q) W6 W7 k→F k∨(w.heap.size≤k∧k<W7.heap.size)):=O (fun k h=>h.elim (fun h=>(al.o k h).elim .inl (fun h=>.inr ⟨h.1,by have:=SZ.o;have:=H7.o.2.size;omega⟩)) (fun h=>.inr ⟨by have:=R.o;have:=SZ.o;omega,h.2⟩));have bs:Hi (Qc F w w8):=O (((((CW.o.trans C4.o (fun k h=>(NN.o.2.2.1 k h).elim .inl (fun h=>.inr h.1))).trans C6.o (fun k h=>h.elim)).trans H7.o.2 (fun k h=>(al.o k h).elim .inl (fun h=>.inr h.1))).trans c8 (fun k h=>(am.o k h).elim .inl (fun h=>.inr h.1))));have ap:=O (fun w'(c9:Qc (fun k=>k=w.heap.size) w8 w')=>h8.last (w:=w) (F:=F) (w':=w') rfl (fun h=>h.elim M7.o.2.1 (fun h=>by have:=R.o;have:=SZ.o;have:=H7.o.2.size;omega)) (fun k h=>h.elim (fun h=>(am.o k h).elim .inl (fun h=>.inr ⟨h.1,Nat.lt_of_lt_of_le h.2 c8.size⟩)) (fun h=>.inr ⟨by have:=R.o;have:=SZ.o;have:=H7.o.2.size;omega,h.2⟩)) bb.o (Zv _) bs.o c9);clear h8 c8;go_wp2_with fail;refine Jo ?_;obtain⟨t0,t1,t2,t3,t4,t5,t6,t7⟩:=Ja S8.o;obtain⟨z0,I,z2,z3,z4,z5,z6,z7,z8⟩:=Av E8.o;have f8:=E8.o.frozen;go_wp2_with fail;rw[ao.o,bw.o];refine bodyPost_ret (v:=.tuple #[.agg (evO (some ⟨1,⟨c.p,c.rule,e.now,tl,c.due⟩⟩)),.bool true]) (by unfold evO evA;rw[results_cell_tmp (p:=2) (u:=3) (ty:=53) (by kernel_rfl)];go_simp;try rfl) rfl ⟨rfl,ap.o _ ?_⟩;iterate 9 (with_reducible refine Qc.setCell ?_ _ (Or.inl rfl))
   exact Zg _ _
end
end
section
variable{A:EAd}{w w' W V:World}{F F1:Fp}{b:Nat}{e:Vi}{x:D7}
theorem Qxn.last{n:Nat}(h:Qxn V F1 b e)(q:¬F1 n)(c:∀k,F1 k→F k∨(w.heap.size≤k∧k<V.heap.size))(d:Bd F w)(z:w.heap.size≤n)(cV:Qc F w V)(u:Qc (fun k=>k=n) V w'):
  Qxn w' (Qn F w w') b e∧Qc F w w':=by
 obtain⟨A,h⟩:=h;exact h.last rfl q c d z cV u
theorem Qxn.last'{n:Nat}(h:Qxn V (Qn F W V) b e)(c:Qc F W V)(d:Bd F w)(B:w.heap.size≤n)(E:n<W.heap.size)(u:Qc F w W)(z:Qc (fun k=>k=n) V w'):
  Qxn w' (Qn F w w') b e∧Qc F w w':=by
 refine h.last (n:=n) (fun q=>q.elim (fun h=>by have:=d _ h;omega) (fun h=>by omega)) (fun k q=>q.elim .inl fun h=>.inr ⟨Zp u.size h.1,h.2⟩) d B (u.aA c) z
theorem Qyf.later(h:Qyf A w F b e)(t:Nat):Qyf A (w.setCell ⟨b,3,none⟩ (ZU t)) (Qn F w (w.setCell ⟨b,3,none⟩ (ZU t))) b {e with now:=t}∧Qc F w (w.setCell ⟨b,3,none⟩ (ZU t)):=by obtain⟨c,d⟩:=V6.cells (cs':=Qyg A {e with now:=t}) h ((Zg (fun k=>k=b) w).setCell (a:=⟨b,3,none⟩) _ (.inl rfl)) (h.blk.1.set' 3 _ rfl);exact⟨c,d⟩
theorem Qzd(h:Qxn w F b e){K:Nat}(ok:V4 K e)(hK:K<549755813000)(hg:∀x,e.aM=some x→Ll x.p)(til:Nat):ZW 18 #[ptr b,ZU til] w (.tuple #[.agg (evO (e.step til).1),.bool (e.step til).1.isSome]) fun w'=>Qxn w' (Qn F w w') b (e.step til).2∧Qc F w w':=by
 obtain⟨A,h⟩:=h;have ay:=(V6.good (Qyg A e) A b e).bd h;obtain⟨W0,ak⟩:=Zx (w.alloc (.cells ZH 53));have C0:Hi (Qc Qb w W0):=O (by rw[ak];exact(Zg _ _).alloc _);have an:Hi (Qh W0 w.heap.size ZH 53):=O (by rw[ak];exact Qh.new _ _ _);have H0:=O (h.aB C0.o);have HN:=O (Qyx H0.o.blk.1);have d:=O ay;have ax:=O ak;have OK:=O ok;clear h ay ak ok;cases hs:e.stopped with
 |true=>
  have ba:e.step til=(none,e):=by unfold Vi.step;rw[if_pos hs]
  rw[ba];rw[hs]at HN;clear hs ba;go_enter func18,ntmps18;go_wp2_with fail;rw[←ax.o];refine Zo HN ?_;rintro r w1⟨rfl,c1⟩;obtain⟨z0,z1,z2,z3,z4,z5,z6,z7,z8⟩:=Av (c1.blk an.o (fun h=>h));have fE:=(c1.blk an.o (fun h=>h)).frozen;have z:=O (fun w'(c9:Qc (fun k=>k=w.heap.size) w1 w')=>V6.last (w:=w) (w':=w') (H0.o.aB c1) rfl (fun h=>by have:=d.o _ h;omega) (fun k h=>.inl h) d.o (Zv _) (C0.o.none.aA c1.none) c9);clear c1;go_wp2_with fail;refine bodyPost_ret (v:=.tuple #[.agg (evO none),.bool false]) (by unfold evO;rw[results_cell_tmp (p:=4) (u:=5) (ty:=53) (by kernel_rfl)];go_simp;try rfl) rfl ⟨rfl,z.o _ ?_⟩;iterate 9 (with_reducible refine Qc.setCell ?_ _ (Or.inl rfl))
  exact Zg _ _
 |false=>
  rw[hs]at HN;have E1:min (max (til:Int) (e.now:Int)) (e.hor:Int)=((e.clip til:Nat):Int):=by unfold Vi.clip;omega
  have HS:=O hs;clear hs;obtain⟨B,aq⟩:=Zx (e.clip til);rw[←aq]at E1;have R:=O aq;clear aq;go_enter func18,ntmps18;go_wp2_with fail;rw[←ax.o];refine Zo HN ?_;rintro r w1⟨rfl,c1⟩;have C1:=O c1;obtain⟨a0,a1,a2,a3,a4,a5,a6,a7,a8⟩:=Av (H0.o.aB c1).blk.1.drew;clear c1;go_wp2_with fail;refine ZB [0,1,2,3,4,5,6,7,8,9,10,11,212] ?_;simp only[Z8,Zf,Ze,Zd];iterate 12 (refine Jq (h:=?_))
  clear a0 a1 a2 a3 a4 a5 a6 a7 a8;refine J7 ?_;go_wp2_with fail;refine Jo ?_;obtain⟨U,ap⟩:=Zx (w1.drew);have I:Hi (Qc Qb W0 U):=O (by rw[ap];exact C1.o.drew);rw[←ap];clear ap E1;have H1:=O (H0.o.aB I.o);have J:=O (I.o.blk an.o (fun h=>h));obtain⟨a0,a1,a2,a3,a4,a5,a6,a7,a8⟩:=Av H1.o.blk.1;cases hu:e.aM with
  |some x=>
   obtain⟨g,cap,ag,_,cs,hB,au⟩:=Qxw.one (by obtain⟨G,hU,_⟩:=H1.o.underOf;rw[hu]at hU;exact hU.1);rw[ag]at a7;have g6:U.cell? ⟨g,6,none⟩=some (ZU x.til):=hB.at 6 (au 6 _ rfl);by_cases hx:x.til≤B
   ·have d1:decide ((x.til:Int)≤(B:Int))=true:=by simp;omega
    have d2:decide (x.til≤B)=true:=by simp;omega
    have E:Hi (e.step til=(some ⟨2,x⟩,e.through x)):=O (by unfold Vi.step;rw[if_neg (by rw[HS.o];exact Bool.false_ne_true),hu];dsimp only;rw[if_pos (by rw[←R.o];exact hx)]);have bd:=O (Qz1 ⟨A,H1.o⟩ OK.o (by omega) hu (hg x hu));unfold evA ptr at*;clear hu ag hB au hx;go_wp2_with fail;refine Zo bd ?_;rintro r w2⟨rfl,h2,c2⟩;have z:=O (fun w'(c9:Qc (fun k=>k=w.heap.size) w2 w')=>h2.last' (w':=w') c2 d.o (Zv _) J.o.lt (C0.o.aA I.o).none c9);have aa:=c2.blk J.o (fun h=>by have:=d.o _ h;omega);obtain⟨z0,z1,z2,z3,z4,z5,z6,z7,z8⟩:=Av aa;have fE:=aa.frozen;clear h2 c2 aa a0 a1 a2 a3 a4 a5 a6 a7 a8 g6;go_wp2_with fail;rw[E.o];refine bodyPost_ret (v:=.tuple #[.agg (evO (some ⟨2,x⟩)),.bool true]) (by unfold evO evA;rw[results_cell_tmp (p:=4) (u:=5) (ty:=53) (by kernel_rfl)];go_simp;try rfl) rfl ⟨rfl,z.o _ ?_⟩;iterate 9 (with_reducible refine Qc.setCell ?_ _ (Or.inl rfl))
    exact Zg _ _
   ·have d1:decide ((x.til:Int)≤(B:Int))=false:=by simp;omega
    have d2:decide (x.til≤B)=false:=by simp;omega
    have E:Hi (e.step til=(none,{e with now:=B})):=O (by unfold Vi.step;rw[if_neg (by rw[HS.o];exact Bool.false_ne_true),hu];dsimp only;rw[if_neg (by rw[←R.o];exact hx),←R.o]);obtain⟨h2,c2⟩:=Qyf.later H1.o B;have z:=O (fun w'(c9:Qc (fun k=>k=w.heap.size) (U.setCell ⟨b,3,none⟩ (ZU B)) w')=>Qxn.last' (w':=w') ⟨A,h2⟩ c2 d.o (Zv _) J.o.lt (C0.o.aA I.o).none c9);have aa:=c2.blk J.o (fun h=>by have:=d.o _ h;omega);obtain⟨z0,z1,z2,z3,z4,z5,z6,z7,z8⟩:=Av aa;have fE:=aa.frozen;have fb:=H1.o.blk.1.frozen;clear h2 c2 aa hu ag hB au hx;go_wp2_with fail;rw[E.o];refine bodyPost_ret (v:=.tuple #[.agg (evO none),.bool false]) (by unfold evO;rw[results_cell_tmp (p:=4) (u:=5) (ty:=53) (by kernel_rfl)];go_simp;try rfl) rfl ⟨rfl,z.o _ ?_⟩;iterate 9 (with_reducible refine Qc.setCell ?_ _ (Or.inl rfl))
    exact Zg _ _
  |none=>
   have HU:=O hu;obtain⟨ad,cap,ag,_⟩:=Own.row Qws (show Qxw U A.us e.aM.toList from by obtain⟨G,hU,_⟩:=H1.o.underOf;exact hU.1);rw[ag,hu]at a7;obtain⟨N,bb,_⟩:=OK.o.sok;have aw:Hi (∀w',Qc Qb U w'→ZW 17 #[ptr A.sb] w' (ZU ((e.sched.tick:Nat):Int)) fun be=>Qc Qb w' be):=O (fun w' c=>by
    obtain⟨G,⟨AS,hS⟩,_⟩:=(H1.o.aB c).schedOf;exact Qbo hS bb)
   obtain⟨tk,am⟩:=Zx (e.sched.tick);obtain⟨Z,al⟩:=Zx (max e.now tk);rw[←am]at aw;have E2:max (e.now:Int) (tk:Int)=(Z:Int):=by rw[al];omega
   have E3:min (Z:Int) (B:Int)=((min Z B:Nat):Int):=by omega
   have af:=O (show Z=max e.now e.sched.tick by rw[al,am]);have av:=O (fun(wv)(hv:Qc Qb U wv)=>Av (H1.o.aB hv).blk.1);have HT:=O (Zt am al);clear am al ag hu bb;go_wp2_with fail;refine ZC [100,101,102,103,4,5,6,7,208,9,310] (fun wv=>Qc (Qb) (U) wv) ?_;simp only[Z8,Zf,Ze,Zd];iterate 3 (refine Qy (h:=?_);try simp only[Act.put,Za,Zc,Zb])
   iterate 1 (refine Qy (by kernel_rfl) (fun wv hv=>by(obtain⟨z0,z1,z2,z3,z4,z5,z6,z7,z8⟩:=av.o wv hv);go_simp;try rfl) ?_;try simp only[Act.put,Za,Zc,Zb])
   iterate 4 (refine Xe (h:=?_))
   clear a0 a1 a2 a3 a4 a5 a6 a7 a8;refine Yb ?_;go_wp2_with fail;refine(aw.o _ (Zg Qb U).drew).mono ?_;rintro r w2⟨rfl,c2⟩;have C2:Hi (Qc Qb U w2):=O (c2.aT);clear c2;go_wp2_with fail;refine⟨C2.o,?_⟩;refine Xe (h:=?_);refine Km ?_;go_wp2_with fail;refine Ky ?_;obtain⟨W2,az⟩:=Zx w2;rw[←az]at C2⊢;clear az E2;have H2:=O (H1.o.aB C2.o);obtain⟨z0,z1,z2,z3,z4,z5,z6,z7,z8⟩:=Av H2.o.blk.1;by_cases ht:e.now<tk
   ·have d1:decide ((e.now:Int)<(Z:Int))=true:=by have q:=HT.o;simp;omega
    have d2:decide (e.now<Z)=true:=by have q:=HT.o;simp;omega
    have ao:Hi (e.idle B={e with link:=e.link.idle e.now,now:=min Z B}):=O (by unfold Vi.idle;rw[if_pos (by rw[←HT.o.1];exact ht),←af.o]);have bc:Hi (ZW 45 #[ptr A.lb,ZU e.now] W2.drew (.tuple #[]) fun w3=>Qyf A w3 (Qn F U w3) b {e with link:=e.link.idle e.now}∧Qc F U w3):=O (by
     obtain⟨G,hL,_,_,a9⟩:=(H2.o.aB (Zg Qb W2).drew).linkOf;refine(Q0p hL ⟨by rw[OK.o.lrate];exact OK.o.rate,OK.o.taken⟩ e.now).mono ?_;rintro r w3⟨rfl,h3,c3⟩;obtain⟨m1,m2⟩:=a9 w3 _ h3 c3;have cc:Qc F U w3:=C2.o.none.aA m2.aT;exact⟨rfl,m1.lift (Ke C2.o.size) ((d.o.later (C0.o.aA I.o)).ext cc),cc⟩)
    obtain⟨x0,x1,x2,x3,x4,x5,x6,x7,x8⟩:=Av H2.o.blk.1.drew;clear ht;go_wp2_with fail;refine ZB [0,1,2,3,4,5,6,7,208] ?_;simp only[Z8,Zf,Ze,Zd];iterate 8 (refine Jq (h:=?_))
    clear x0 x1 x2 x3 x4 x5 x6 x7 x8 z0 z1 z2 z3 z4 z5 z6 z7 z8;refine J7 ?_;go_wp2_with fail;refine Zo bc ?_;rintro r wv⟨rfl,h3,c3⟩;have HV:=O (Zt h3 c3);clear h3 c3;go_wp2_with fail;refine Jo ?_;obtain⟨z0,z1,z2,z3,z4,z5,z6,z7,z8⟩:=Av HV.o.1.blk.1;have fb:=HV.o.1.blk.1.frozen;obtain⟨W5,ae⟩:=Zx (wv.setCell ⟨b,3,none⟩ (ZU ((min Z B:Nat):Int)));have ac:=O ae;have H5:Hi (Qxn W5 (Qn F U W5) b (e.idle B)∧Qc F U W5):=O (by
     obtain⟨h2,c2⟩:=Qyf.later HV.o.1 (min Z B);rw[←ae]at h2 c2;have cc:=HV.o.2.ext c2;rw[ao.o];exact⟨⟨A,h2.lift (Qn.trans HV.o.2.size c2.size) ((d.o.later (C0.o.aA I.o)).ext cc)⟩,cc⟩)
    have ah:=O (H5.o.2.blk J.o (fun h=>by have:=d.o _ h;omega));clear ae;by_cases hx:B<Z
    ·obtain⟨d3,d4⟩:=ZT (show B<Z by omega);have E:Hi (e.step til=(none,e.idle B)):=O (by unfold Vi.step;rw[if_neg (by rw[HS.o];exact Bool.false_ne_true),HU.o];dsimp only;rw[←R.o,←af.o,if_pos hx]);have z:=O (fun w'(c9:Qc (fun k=>k=w.heap.size) W5 w')=>H5.o.1.last' (w':=w') H5.o.2 d.o (Zv _) J.o.lt (C0.o.aA I.o).none c9);obtain⟨y0,y1,y2,y3,y4,y5,y6,y7,y8⟩:=Av ah.o;have fE:=ah.o.frozen;rw[ac.o]at y0 y1 y2 y3 y4 y5 y6 y7 y8 fE;rw[ac.o]at z;clear hx;go_wp2_with fail;rw[E.o];refine bodyPost_ret (v:=.tuple #[.agg (evO none),.bool false]) (by unfold evO;rw[results_cell_tmp (p:=4) (u:=5) (ty:=53) (by kernel_rfl)];go_simp;try rfl) rfl ⟨rfl,z.o _ ?_⟩;iterate 9 (with_reducible refine Qc.setCell ?_ _ (Or.inl rfl))
     exact Zg _ _
    ·obtain⟨d3,d4⟩:=ZN (show¬B<Z by omega);have E:Hi (e.step til=(e.idle B).choose):=O (by unfold Vi.step;rw[if_neg (by rw[HS.o];exact Bool.false_ne_true),HU.o];dsimp only;rw[←R.o,←af.o,if_neg hx]);have ai:=O (Qzg H5.o.1 (OK.o.idle HU.o (by rw[R.o];exact(Qwo OK.o til).1) (by rw[R.o];exact(Qwo OK.o til).2)) hK HU.o);obtain⟨ch,aj⟩:=Zx ((e.idle B).choose);rw[←aj]at E ai;obtain⟨o,e'⟩:=ch;clear hx aj;go_wp2_with fail;rw[←ac.o];clear z0 z1 z2 z3 z4 z5 z6 z7 z8 fb;refine Zo ai ?_;rintro r w6⟨rfl,h6,c6⟩;have C6:=O (H5.o.2.ext c6);have H6:Hi (Qxn w6 (Qn F U w6) b e'):=O (Qxn.obj.more h6 (Qn.trans H5.o.2.size c6.size) ((d.o.later (C0.o.aA I.o)).ext C6.o));have z:=O (fun w'(c9:Qc (fun k=>k=w.heap.size) w6 w')=>H6.o.last' (w':=w') C6.o d.o (Zv _) J.o.lt (C0.o.aA I.o).none c9);have ab:=C6.o.blk J.o (fun h=>by have:=d.o _ h;omega);obtain⟨y0,y1,y2,y3,y4,y5,y6,y7,y8⟩:=Av ab;have fE:=ab.frozen;clear h6 c6 ab;cases o with
     |none=>
      unfold evO;go_wp2_with fail;rw[E.o];refine bodyPost_ret (v:=.tuple #[.agg (evO none),.bool false]) (by unfold evO;rw[results_cell_tmp (p:=4) (u:=5) (ty:=53) (by kernel_rfl)];go_simp;try rfl) rfl ⟨rfl,z.o _ ?_⟩;iterate 9 (with_reducible refine Qc.setCell ?_ _ (Or.inl rfl))
      exact Zg _ _
     |some ev=>
      unfold evO evA;go_wp2_with fail;rw[E.o];refine bodyPost_ret (v:=.tuple #[.agg (evO (some ev)),.bool true]) (by unfold evO evA;rw[results_cell_tmp (p:=4) (u:=5) (ty:=53) (by kernel_rfl)];go_simp;try rfl) rfl ⟨rfl,z.o _ ?_⟩;iterate 9 (with_reducible refine Qc.setCell ?_ _ (Or.inl rfl))
      exact Zg _ _
   ·have d1:decide ((e.now:Int)<(Z:Int))=false:=by have q:=HT.o;simp;omega
    have d2:decide (e.now<Z)=false:=by have q:=HT.o;simp;omega
    have ao:Hi (e.idle B={e with now:=min Z B}):=O (by unfold Vi.idle;rw[if_neg (by rw[←HT.o.1];exact ht),←af.o]);obtain⟨wv,ar⟩:=Zx W2;have HV:Hi (Qyf A wv (Qn F U wv) b e∧Qc F U wv):=O (by rw[ar];exact⟨H2.o.lift (fun k h=>.inl h) ((d.o.later (C0.o.aA I.o)).ext C2.o),C2.o.none⟩);rw[←ar];clear ht z0 z1 z2 z3 z4 z5 z6 z7 z8 ar;obtain⟨z0,z1,z2,z3,z4,z5,z6,z7,z8⟩:=Av HV.o.1.blk.1;have fb:=HV.o.1.blk.1.frozen;obtain⟨W5,ae⟩:=Zx (wv.setCell ⟨b,3,none⟩ (ZU ((min Z B:Nat):Int)));have ac:=O ae;have H5:Hi (Qxn W5 (Qn F U W5) b (e.idle B)∧Qc F U W5):=O (by
     obtain⟨h2,c2⟩:=Qyf.later HV.o.1 (min Z B);rw[←ae]at h2 c2;have cc:=HV.o.2.ext c2;rw[ao.o];exact⟨⟨A,h2.lift (Qn.trans HV.o.2.size c2.size) ((d.o.later (C0.o.aA I.o)).ext cc)⟩,cc⟩)
    have ah:=O (H5.o.2.blk J.o (fun h=>by have:=d.o _ h;omega));clear ae;by_cases hx:B<Z
    ·obtain⟨d3,d4⟩:=ZT (show B<Z by omega);have E:Hi (e.step til=(none,e.idle B)):=O (by unfold Vi.step;rw[if_neg (by rw[HS.o];exact Bool.false_ne_true),HU.o];dsimp only;rw[←R.o,←af.o,if_pos hx]);have z:=O (fun w'(c9:Qc (fun k=>k=w.heap.size) W5 w')=>H5.o.1.last' (w':=w') H5.o.2 d.o (Zv _) J.o.lt (C0.o.aA I.o).none c9);obtain⟨y0,y1,y2,y3,y4,y5,y6,y7,y8⟩:=Av ah.o;have fE:=ah.o.frozen;rw[ac.o]at y0 y1 y2 y3 y4 y5 y6 y7 y8 fE;rw[ac.o]at z;clear hx;go_wp2_with fail;rw[E.o];refine bodyPost_ret (v:=.tuple #[.agg (evO none),.bool false]) (by unfold evO;rw[results_cell_tmp (p:=4) (u:=5) (ty:=53) (by kernel_rfl)];go_simp;try rfl) rfl ⟨rfl,z.o _ ?_⟩;iterate 9 (with_reducible refine Qc.setCell ?_ _ (Or.inl rfl))
     exact Zg _ _
    ·obtain⟨d3,d4⟩:=ZN (show¬B<Z by omega);have E:Hi (e.step til=(e.idle B).choose):=O (by unfold Vi.step;rw[if_neg (by rw[HS.o];exact Bool.false_ne_true),HU.o];dsimp only;rw[←R.o,←af.o,if_neg hx]);have ai:=O (Qzg H5.o.1 (OK.o.idle HU.o (by rw[R.o];exact(Qwo OK.o til).1) (by rw[R.o];exact(Qwo OK.o til).2)) hK HU.o);obtain⟨ch,aj⟩:=Zx ((e.idle B).choose);rw[←aj]at E ai;obtain⟨o,e'⟩:=ch;clear hx aj;go_wp2_with fail;rw[←ac.o];clear z0 z1 z2 z3 z4 z5 z6 z7 z8 fb;refine Zo ai ?_;rintro r w6⟨rfl,h6,c6⟩;have C6:=O (H5.o.2.ext c6);have H6:Hi (Qxn w6 (Qn F U w6) b e'):=O (Qxn.obj.more h6 (Qn.trans H5.o.2.size c6.size) ((d.o.later (C0.o.aA I.o)).ext C6.o));have z:=O (fun w'(c9:Qc (fun k=>k=w.heap.size) w6 w')=>H6.o.last' (w':=w') C6.o d.o (Zv _) J.o.lt (C0.o.aA I.o).none c9);have ab:=C6.o.blk J.o (fun h=>by have:=d.o _ h;omega);obtain⟨y0,y1,y2,y3,y4,y5,y6,y7,y8⟩:=Av ab;have fE:=ab.frozen;clear h6 c6 ab;cases o with
     |none=>
      unfold evO;go_wp2_with fail;rw[E.o];refine bodyPost_ret (v:=.tuple #[.agg (evO none),.bool false]) (by unfold evO;rw[results_cell_tmp (p:=4) (u:=5) (ty:=53) (by kernel_rfl)];go_simp;try rfl) rfl ⟨rfl,z.o _ ?_⟩;iterate 9 (with_reducible refine Qc.setCell ?_ _ (Or.inl rfl))
      exact Zg _ _
     |some ev=>
      unfold evO evA;go_wp2_with fail;rw[E.o];refine bodyPost_ret (v:=.tuple #[.agg (evO (some ev)),.bool true]) (by unfold evO evA;rw[results_cell_tmp (p:=4) (u:=5) (ty:=53) (by kernel_rfl)];go_simp;try rfl) rfl ⟨rfl,z.o _ ?_⟩;iterate 9 (with_reducible refine Qc.setCell ?_ _ (Or.inl rfl))
      exact Zg _ _
end
section
open Go.Shelf
section
variable{A:EAd}{w w' W V:World}{F F1:Fp}{b:Nat}{e:Vi}{x:D7}
def evE(x:EvM):Array Value:=#[.agg (evA x.kind x.x)]
theorem Q1a(n l s Be Bt b til:Nat)(hn:1≤n){K:Nat}(hK:K<549755813000)(U:Fp)(J:World→Prop)(hF:∀k,F k→k<s)(hU:∀k,U k→k<s∧¬F k)
  (hJ:∀A B,J A→Qc (fun k=>¬U k∧k≠s∧k≠s+1) A B→J B)
  (hY:∀x A,J A→YieldAt Fence.wide (n-1) prog l (evE x) A fun r B=>r=.returned (.bool true)∧J B∧Qc (fun k=>U k∨k=s+1) A B)
  (W:World) (hW:s+2≤W.heap.size) (am:Qh W Be #[ptr b] 36) (an:Qh W Bt #[ZU til] 22) (h1:Be<s∧¬F Be∧¬U Be) (Z:Bt<s∧¬F Bt∧¬U Bt)
  (h:Qxn W F b e) (ok:V4 K e) (u:UOk e) (h0:J W):
  CallsIn Fence.wide n prog 123 #[.func (.yield l) #[] #[],ZP Be,ZP Bt] W fun r W'=>(∃v,r=.returned v)∧J W'∧Qxn W' (Qn F W W') b (e.run til)∧Qc (fun k=>F k∨U k∨k=s+1) W W':=by
 have ae:=Qxn.obj.bd h;have aq:Hi (∀wr d,V4 K d→UOk d→Qxn wr (Qn F W wr) b d→Qc (fun k=>F k∨U k∨k=s+1) W wr→J wr→d.run til=e.run til→ZW 18 #[ptr b,ZU til] wr (.tuple #[.agg (evO (d.step til).1),.bool (d.step til).1.isSome]) fun w2=>Qxn w2 (Qn F W w2) b (d.step til).2∧Qc (Qn F W wr) wr w2):=O (fun wr d z u1 h1 c1 j1 hr=>by
  refine(Qzd h1 z hK u1 til).mono ?_;rintro r w2⟨rfl,Z,R⟩;exact⟨rfl,Qxn.obj.more Z (Qn.trans c1.size R.size) (fun k E=>E.elim (fun h=>Nat.lt_of_lt_of_le (ae k h) (Zp c1.size R.size)) (fun h=>h.2)),R⟩)
 have HJ:=O hJ;have HY:=O hY;have ah:=O (Zt hF (Zt hU (Zt h1 (Zt Z hW))));have ak:=O (Zt am an);have q:Hi (Qxn W (Qn F W W) b e∧UOk e∧V4 K e∧J W):=O (⟨Qxn.obj.more h (fun k h=>.inl h) (ae.ext (Zg Qb W)),u,ok,h0⟩);have al:=O ae;clear hJ hY hF hU h1 Z hW am an h ok u h0 ae;refine callsIn_of_wp func123 rfl trivial ?_ rfl;simp only[ntmps123,List.size_toArray,Zm,List.length_nil,Nat.reduceAdd,Nat.reduceSub,Array.replicate_succ,Array.replicate_zero,List.push_toArray,List.append_toArray,List.nil_append,List.cons_append];gi_wp2;gi_loopg [4] (e.left) (fun k _ wr=>∃d:Vi,k=d.left∧V4 K d∧UOk d∧Qxn wr (Qn F W wr) b d∧Qc (fun k=>F k∨U k∨k=s+1) W wr∧J wr∧d.run til=e.run til);case atStart=>exact⟨e,rfl,q.o.2.2.1,q.o.2.1,q.o.1,Zg _ _,q.o.2.2.2,rfl⟩
 case round=>
  obtain⟨d,rfl,z,u1,h1,c1,j1,hr⟩:=hrel;have I:=O (aq.o wr d z u1 h1 c1 j1 hr);obtain⟨hF,hU,af,ag,aj⟩:=ah.o;have y1:=Jf (c1.blk ak.o.1 (fun h=>h.elim af.2.1 (fun h=>h.elim af.2.2 (fun h=>by omega))));have y2:=Jf (c1.blk ak.o.2 (fun h=>h.elim ag.2.1 (fun h=>h.elim ag.2.2 (fun h=>by omega))));have SX:=z.step til;have ab:=G9 (e:=d) (til:=til);have ac:=fun x=>P6 (e:=d) (til:=til) (x:=x) z;have ux:=u1.step z til;obtain⟨st,ai⟩:=Zx (d.step til);rw[←ai]at I SX ab ac ux;obtain⟨o,e2⟩:=st;dsimp only at I SX ab ac ux;have aa:Hi (∀w2 wz,Qxn w2 (Qn F W w2) b e2→Qc (Qn F W wr) wr w2→Qc Qb w2 wz→J wz∧Qxn wz (Qn F W wz) b e2∧Qc (fun k=>F k∨U k∨k=s+1) W wz):=O (by
   intro w2 wz Z R cz;have c3:Qc (Qn F W wr) wr wz:=R.trans cz fun k h=>h.elim;obtain⟨p1,p2⟩:=Qxn.obj.same Z cz;refine⟨HJ.o wr wz j1 (c3.mono fun k E=>.inl ?_),Qxn.obj.more p1 (Qn.trans (Zp c1.size R.size) cz.size) (fun k E=>(al.o.ext ((c1.trans c3 (fun k E=>E.elim (fun h=>.inl (.inl h)) (fun h=>.inr h.1))):Qc (fun k=>F k∨U k∨k=s+1) W wz)) k E),c1.trans c3 fun k E=>E.elim (fun h=>.inl (.inl h)) (fun h=>.inr h.1)⟩;exact E.elim (fun h=>⟨fun hu=>(hU k hu).2 h,by have:=hF k h;omega,by have:=hF k h;omega⟩) (fun h=>⟨fun hu=>by have:=(hU k hu).1;omega,by omega,by omega⟩))
  cases o with
  |none=> have HR:Hi (e2=e.run til):=O (by rw[←hr];exact(ab rfl).symm);unfold evO at I;clear ai ab ac SX ux z u1 h1 c1 j1 hr hF hU af ag aj;gi_wp2_with (refine⟨trivial,?_⟩;gi_at_call 18;refine(callsIn_wide.2 I.o).mono ?_;rintro r w2⟨rfl,Z,R⟩);have ap:=O (aa.o w2 _ Z R ((Zg Qb w2).alloc (.cells ZH 53)));clear Z R;refine⟨fun _ h=>(by cases h),?_⟩;gi_wp2;refine bodyPost_ret (results_none rfl _ _ _) rfl ?_;rw[←HR.o];exact⟨⟨_,rfl⟩,ap.o⟩
  |some c=>
   have HR:Hi (V4 K e2∧UOk e2∧e2.run til=e.run til∧e2.left<d.left):=O (⟨SX.1,ux,by rw[←hr];exact(ac c rfl).symm,by have:=SX.2.1 c rfl;omega⟩);unfold evO evA at I;clear ai ab ac SX ux z u1 h1 c1 j1 hr hF hU af ag aj;gi_wp2_with (refine⟨trivial,?_⟩;gi_at_call 18;refine(callsIn_wide.2 I.o).mono ?_;rintro r w2⟨rfl,Z,R⟩;obtain⟨fn,au,ao,ar,hy,hR⟩:=HY.o c _ (aa.o w2 _ Z R ((Zg Qb w2).alloc (.cells #[.int .u8 c.kind,ZU c.x.p.id,ZI c.x.p.cls,ZI c.x.p.len,ZU c.x.p.at_,.int .u8 c.x.rule,ZU c.x.frm,ZU c.x.til,ZU c.x.due] 53))).1;have HB:=O hR;clear hR;unfold evE evA at hy);have N2:=O (aa.o w2 _ Z R ((Zg Qb w2).alloc (.cells #[.int .u8 c.kind,ZU c.x.p.id,ZI c.x.p.cls,ZI c.x.p.len,ZU c.x.p.at_,.int .u8 c.x.rule,ZU c.x.frm,ZU c.x.til,ZU c.x.due] 53)));clear Z R hy;refine HB.o.mono ?_;rintro r W3⟨rfl,j3,c3⟩;have C3:=O (N2.o.2.2.trans c3 fun k E=>.inl (.inr E));have H3:Hi (Qxn W3 (Qn F W W3) b e2):=O (by
    obtain⟨_,hU,_,_,aj⟩:=ah.o;exact Qxn.obj.more (Qxn.obj.aB N2.o.2.1 c3 (fun k E hu=>E.elim (fun h=>hu.elim (fun hu=>(hU k hu).2 h) (fun e=>by have:=ah.o.1 k h;omega)) (fun h=>hu.elim (fun hu=>by have:=(hU k hu).1;omega) (fun e=>by omega)))) (fun k E=>E.elim .inl (fun h=>.inr ⟨h.1,Nat.lt_of_lt_of_le h.2 c3.size⟩)) (al.o.ext C3.o))
   have J3:=O j3;clear j3 c3;gi_wp2;gi_roundg (e2.left);case measure=>exact HR.o.2.2.2
   case rel=>exact⟨e2,rfl,HR.o.1,HR.o.2.1,H3.o,C3.o,J3.o,HR.o.2.2.1⟩
end
end
section
open Go.Shelf
attribute [local go_sem] Oper.semAt_some Qp
section
variable{A:EAd}{w w' W V:World}{F F1:Fp}{b:Nat}{e:Vi}{x:D7}
theorem Q00(b til:Nat)(w):ZW 69 #[ptr b,ZU til] w (.func (.func 123) #[] #[ZP w.heap.size,ZP (w.heap.size+1)]) fun w'=>w'=(w.alloc (.cells #[ptr b] 36)).alloc (.cells #[ZU til] 22):=by have k:∀(d:Fn)(c cap:Array Value)(w),(Instr.makeFunc d c cap).run prog w=.ok (.func d c cap) w:=fun _ _ _ _=>rfl;unfold ptr;go_enter func69,ntmps69;go_wp2;go_ret;exact⟨rfl,rfl⟩
theorem Qzl(h:Qxn w F b e){K:Nat}(ok:V4 K e)(hK:K<549755813000)(u:UOk e)(til:Nat):ZW 37 #[ptr b,ZU til] w (.tuple #[]) fun w'=>Qxn w' (Qn F w w') b (e.run til)∧Qc F w w':=by
 have ab:=Qxn.obj.bd h;have HU:=O (Q00 b til);obtain⟨s,U⟩:=Zx (w.heap.size);obtain⟨d,E⟩:=Zx (((w.alloc (.cells #[ZI 0] 3)).alloc (.cells #[ptr b] 36)).alloc (.cells #[ZU til] 22));have C0:Hi (Qc Qb w d):=O (by rw[E];exact(((Zg _ _).alloc _).alloc _).alloc _);have ae:d.heap.size=s+3:=by rw[E,U];simp
 have B2:Hi (Qh d s #[ZI 0] 3):=O (by rw[E,U];exact((Qh.new' _ _ (by simp)).alloc _).alloc _);have B3:Hi (Qh d (s+1) #[ptr b] 36):=O (by rw[E,U];exact(Qh.new' _ _ (by simp)).alloc _);have B4:Hi (Qh d (s+1+1) #[ZU til] 22):=O (by rw[E,U];exact Qh.new' _ _ (by simp));have H0:=O (Qxn.obj.aB h C0.o (Jl.none F));have HF:Hi (∀k,F k→k<s):=O (fun k I=>by rw[U];exact ab k I);have ac:=O ab;have OK:=O (Zt ok u);refine callsIn_wide (n:=9).1 ?_;unfold ptr at HU⊢;clear h ok u ab;refine callsIn_of_wp_marks func37 rfl trivial ?_;simp only[ntmps37,List.size_toArray,Zm,List.length_nil,Nat.reduceAdd,Nat.reduceSub,Array.replicate_succ,Array.replicate_zero,List.push_toArray,List.append_toArray,List.nil_append,List.cons_append];gi_wp2_with (refine⟨trivial,?_⟩;gi_at_call 69;refine(callsIn_wide.2 (HU.o _)).mono ?_;rintro e w1⟨rfl,rfl⟩);unfold ptr at E;rw[←U,←E];have HS:=O U;have aa:=O ae;clear E U ae;refine Qz6 (by decide) (gf:=123) (lb:=#[ZP (s+1),ZP (s+1+1)]) rfl (enters_of func123 (by kernel_rfl) rfl) evE (fun _=>rfl)
  (fun k=>k=s) (fun k I=>by have:=aa.o;omega) (fun A=>∃i:Int,Qh A s #[ZI i] 3)
  (fun W'=>Qxn W' (fun k=>F k∨(d.heap.size+2≤k∧k<W'.heap.size)) b (e.run til)∧Qc (fun k=>F k∨k=s∨k=d.heap.size+1) d W') ⟨0,B2.o⟩ (fun A B⟨i,h⟩c=>⟨i,c.blk h (fun h=>h rfl)⟩) ?hseq ?hbody ?hdone
 case hseq=>
  intro l J W cW hW hJ hY hj;have z:=aa.o;have bd:Bd F d:=ac.o.later C0.o;refine(Q1a (n:=9-1) (l:=l) (s:=d.heap.size) (Be:=s+1) (Bt:=s+1+1) (b:=b) (til:=til) (by decide) hK (fun k=>k=s) J (fun k I=>bd k I) (fun k I=>⟨by omega,fun h=>by have:=HF.o k h;omega⟩) hJ hY W hW
   (cW.blk B3.o (fun h=>h)) (cW.blk B4.o (fun h=>h)) ⟨by omega,fun h=>(by have:=HF.o _ h;omega),by omega⟩ ⟨by omega,fun h=>(by have:=HF.o _ h;omega),by omega⟩ (Qxn.obj.aB H0.o cW (Jl.none F)) OK.o.1 OK.o.2 hj).mono ?_
  rintro r W'⟨hv,ag,h',c'⟩;have cc:Qc (fun k=>F k∨k=s∨k=d.heap.size+1) d W':=cW.none.aA c';exact⟨hv,ag,Qxn.obj.more h' (fun k I=>I.elim .inl fun h=>.inr ⟨by omega,h.2⟩) (fun k I=>I.elim (fun h=>Nat.lt_of_lt_of_le (bd k h) cc.size) (fun h=>h.2)),cc⟩
 case hbody=> rintro l x A⟨i,hB⟩;have y0:=Jf hB;have yf:=hB.frozen 0;have Z:Hi (∀v:Int,(∃i:Int,Qh (A.setCell ⟨s,0,none⟩ (ZI v)) s #[ZI i] 3)∧Qc (fun k=>k=s) A (A.setCell ⟨s,0,none⟩ (ZI v))):=O (fun v=>⟨⟨v,hB.set' 0 _ rfl⟩,(Zg _ _).setCell _ (.inl rfl)⟩);clear hB;dsimp only[evE];gi_wp2;exact Z.o _
 case hdone=>
  rintro W' R⟨h1,c1⟩⟨i,hB⟩c2 hD;have z:=aa.o;have q:w.heap.size=s:=HS.o.symm;have hd:=O hD;have cc:Qc F w R:=(C0.o.none.trans c1 (fun k I=>I.elim .inl (fun h=>.inr (by omega)))).trans c2 (fun k I=>.inr (by omega));have Z:Hi (Qxn (R.putObj d.heap.size (.deferred none)) (Qn F w (R.putObj d.heap.size (.deferred none))) b (e.run til)∧Qc F w (R.putObj d.heap.size (.deferred none))):=O (by
   have c3:=Ud cc (D:=d.heap.size) (by omega) (Z2.1 hD).1;have hz:Qc (fun k=>k=d.heap.size+1∨k=d.heap.size) W' (R.putObj d.heap.size (.deferred none)):=(c2.sub (fun k h=>.inl h)).grown (grownBy_putObj' R _ _) fun k e=>.inl (.inr (by cases e;rfl));have h3:=Qxn.obj.aB h1 hz (fun k I e=>I.elim (fun h=>by have:=HF.o k h;omega) (fun h=>by omega));exact⟨Qxn.obj.more h3 (fun k I=>I.elim .inl (fun h=>.inr ⟨by omega,Nat.lt_of_lt_of_le h.2 hz.size⟩)) (ac.o.ext c3),c3⟩)
  have af:=O (run_takeDeferred (P:=prog) hD);clear h1 c1 hB c2 cc hD z q;gi_wp2;refine⟨by simp,.inl ⟨_,_,rfl,af.o,?_⟩⟩;exact⟨.tuple #[],by simp[results,Tryz.results37,go_sem],rfl,Z.o⟩
end
end
section
variable{A:EAd}{w w' W V:World}{F F1:Fp}{b:Nat}{e:Vi}{x:D7}
theorem Qyz(h:Qxn w F b e){K:Nat}(R:V4 K e)(hK:K<549755813000)(u:UOk e)(til:Nat):ZW 12 #[ptr b,ZU til] w (ZI (e.advE til)) fun w'=>Qxn w' (Qn F w w') b (e.adv til)∧Qc F w w':=by
 obtain⟨A,h⟩:=h;have d:=(V6.good (Qyg A e) A b e).bd h;have q:=O (Qyx h.blk.1);have k:=O (fun w'(E:Qc Qb w w')=>Qxn.obj.same ⟨A,h⟩ E);have U:=O (fun w1(c:Qc Qb w w1)=>Av (h.aB c).blk.1);have HA:Hi (∀w1,Qc Qb w w1→ZW 37 #[ptr b,ZU til] w1 (.tuple #[]) fun w2=>Qxn w2 (Qn F w w2) b (e.run til)∧Qc F w w2):=O (fun w1 c=>by
  refine(Qzl ⟨A,h.aB c⟩ R hK u til).mono ?_;rintro r w2⟨rfl,I,B⟩;have E:Qc F w w2:=c.none.aA B;exact⟨rfl,Qxn.obj.more I (Ke c.size) (d.ext E),E⟩)
 unfold Vi.adv Vi.advE;cases z:e.stopped with
 |true=> rw[z]at q;rw[if_pos rfl,if_neg (by decide)];clear h z d R u;go_enter func12,ntmps12;go_wp2_with fail;refine Zo q ?_;rintro r w1⟨rfl,c⟩;have K:=O (k.o w1 c);clear c;go_wp2;go_ret;exact⟨rfl,K.o⟩
 |false=>
  rw[z]at q;rw[if_neg Bool.false_ne_true];by_cases J:til<e.now;·rw[if_pos J,if_neg (by decide)];obtain⟨d1,d2⟩:=ZT (show til<e.now by omega);clear h z d R u J;go_enter func12,ntmps12;go_wp2_with fail;refine Zo q ?_;rintro r w1⟨rfl,c⟩;obtain⟨a0,a1,a2,a3,a4,a5,a6,a7,a8⟩:=U.o w1 c;have K:=O (k.o w1 c);clear c;go_wp2;go_ret;exact⟨rfl,K.o⟩
  ·rw[if_neg J,if_pos rfl];obtain⟨d1,d2⟩:=ZN (show¬til<e.now by omega);clear h z d R u J;go_enter func12,ntmps12;go_wp2_with fail;refine Zo q ?_;rintro r w1⟨rfl,c⟩;obtain⟨a0,a1,a2,a3,a4,a5,a6,a7,a8⟩:=U.o w1 c;have Z:=O c;clear c;go_wp2_with fail;refine(HA.o _ Z.o).mono ?_;rintro r w2⟨rfl,I,B⟩;have K:=O (Zt I B);clear I B;go_wp2;go_ret;exact⟨rfl,K.o⟩
end
section
variable{A:EAd}{w w' W V:World}{F F1:Fp}{b:Nat}{e:Vi}{x:D7}
theorem Q03{s:Qf}{p:Jr}(h:s.aQ p=0):Ll p:=by obtain⟨_,_,_,_,c,_⟩:=Mk h;exact⟨c.1,by omega⟩
theorem UOk.came(u:UOk e)(q:Jr):UOk (e.came q):=u
theorem Qzm(h:Qxn w F b e){K:Nat}(ok:V4 K e)(hK:K+33<549755813000)(u:UOk e)(p:Jr):ZW 28 #[ptr b,.agg (ZL p)] w (ZI (e.arrE p)) fun w'=>Qxn w' (Qn F w w') b (e.arr p)∧Qc F w w':=by
 obtain⟨A,h⟩:=h;have ar:=(V6.good (Qyg A e) A b e).bd h;obtain⟨W0,ae⟩:=Zx (w.alloc (.cells (ZL p) 31));have C0:Hi (Qc Qb w W0):=O (by rw[ae];exact(Zg _ _).alloc _);have ai:Hi (Qh W0 w.heap.size (ZL p) 31):=O (by rw[ae];exact Qh.new _ _ _);have H0:=O (h.aB C0.o);have HN:=O (Qyx H0.o.blk.1);have ab:=O ar;have ap:=O ae;have OK:=O (Zt ok u);rw[Qwb];unfold Vi.arrE;clear h ar ae ok u;cases hs:e.stopped with
 |true=> rw[hs]at HN;rw[if_pos rfl,if_pos rfl];have aq:=O (fun w'(I:Qc Qb W0 w')=>(show Qxn w' (Qn F w w') b e∧Qc F w w' from⟨⟨A,(H0.o.aB I).lift (fun k h=>.inl h) (ab.o.ext (C0.o.aA I))⟩,(C0.o.aA I).none⟩));clear hs;go_enter func28,ntmps28;go_wp2_with fail;rw[←ap.o];refine Zo HN ?_;rintro r w1⟨rfl,c1⟩;have K:=O (aq.o w1 c1);clear c1;go_wp2;go_ret;exact⟨rfl,K.o⟩
 |false=>
  rw[hs]at HN;rw[if_neg Bool.false_ne_true,if_neg Bool.false_ne_true];clear hs;obtain⟨d,aa⟩:=Zx (e.run e.now);obtain⟨q,hq⟩:=Zx (e.arrP p);have HQ:Hi (q=⟨p.id,p.cls,p.len,(d.now:Int)⟩):=O (by rw[hq,aa];rfl);have J:Hi (V4 K d∧UOk d):=O (by rw[aa];exact⟨OK.o.1.run _,OK.o.2.run OK.o.1 _⟩);have HA:Hi (∀w1,Qc Qb W0 w1→ZW 37 #[ptr b,ZU e.now] w1 (.tuple #[]) fun w2=>Qxn w2 (Qn F w1 w2) b d∧Qc F w1 w2):=O (fun w1 c1=>by rw[aa];exact Qzl ⟨A,H0.o.aB c1⟩ OK.o.1 (by omega) OK.o.2 e.now);have AT:=O (fun w1(c1:Qc Qb W0 w1)=>Av (H0.o.aB c1).blk.1);rw[←aa,←hq];obtain⟨er,ak⟩:=Zx (d.sched.aQ q);rw[←ak];have ac:=O ak;clear aa hq ak;go_enter func28,ntmps28;go_wp2_with fail;rw[←ap.o];refine Zo HN ?_;rintro r w1⟨rfl,c1⟩;have C1:=O c1;obtain⟨Z,a1,a2,U,a4,a5,a6,a7,a8⟩:=AT.o w1 c1;clear c1;go_wp2_with fail;clear Z a1 a2 U a4 a5 a6 a7 a8;refine(HA.o _ C1.o).mono ?_;rintro r w2⟨rfl,⟨R,h2⟩,c2⟩;have C2:=O c2;have H2:=O h2;have aj:=O (c2.blk (C1.o.blk ai.o (fun h=>h)) (fun h=>by have:=ab.o _ h;omega));clear h2 c2;obtain⟨z,af⟩:=Zx (w2.setCell ⟨w.heap.size,3,none⟩ (ZU d.now));have au:=O af;have NF:Hi (¬Qn F w1 w2 w.heap.size):=O (fun h=>h.elim (fun h=>by have:=ab.o _ h;omega) (fun h=>by have:=ai.o.lt;have:=C1.o.size;omega));have C3:Hi (Qc (fun k=>k=w.heap.size) w2 z):=O (by rw[af];exact(Zg (fun k=>k=w.heap.size) w2).setCell (a:=⟨w.heap.size,3,none⟩) _ (.inl rfl));have H3:=O ((V6.good (Qyg R d) R b d).aB H2.o C3.o (fun k hk e=>NF.o (e▸hk)));have al:Hi (Qh z w.heap.size #[ZU p.id,ZI p.cls,ZI p.len,ZU d.now] 31):=O (by rw[af];exact aj.o.set' 3 _ rfl);obtain⟨Z,a1,a2,U,a4,a5,a6,a7,a8⟩:=Av H2.o.blk.1;obtain⟨g0,g1,g2,g3⟩:=X9 aj.o;have fg:=aj.o.frozen;clear af;go_wp2_with fail;rw[←au.o];clear Z a1 a2 U a4 a5 a6 a7 a8 g0 g1 g2 g3 fg;have ao:Hi (∀k,Qn F w1 w2 k→F k∨(w.heap.size≤k∧k<z.heap.size)):=O (fun k h=>h.elim .inl (fun h=>.inr ⟨by have:=ai.o.lt;have:=C1.o.size;omega,Nat.lt_of_lt_of_le h.2 C3.o.size⟩));have an:Hi (Qc F w z):=O (((C0.o.none.aA C1.o.none).aA C2.o).trans C3.o (fun k e=>.inr (by omega)));have ag:Hi (∀w' e',Qxn w' (Qn (Qn F w1 w2) z w') b e'→Qc (Qn F w1 w2) z w'→Qxn w' (Qn F w w') b e'∧Qc F w w'):=O (fun w' e' h c=>by
   have I:Qc F w w':=an.o.trans c fun k h=>(ao.o k h).elim .inl (fun h=>.inr h.1);exact⟨Qxn.obj.more h (fun k hk=>hk.elim (fun h=>(ao.o k h).elim .inl (fun h=>.inr ⟨h.1,Nat.lt_of_lt_of_le h.2 c.size⟩)) (fun h=>.inr ⟨by have:=an.o.size;omega,h.2⟩)) (ab.o.ext I),I⟩)
  have ah:=O ((V6.good (Qyg R d) R b d).bd H3.o);obtain⟨N,hN⟩:∃N,Xp N d.sched∧N<549755813000:=by obtain⟨N,h1,h2⟩:=J.o.1.sok;exact⟨N,h1,by omega⟩
  have av:Hi (d.now<18446744073709551616):=O (Nat.lt_of_le_of_lt (Zp J.o.1.now J.o.1.hor.2) (by decide));have HP:Hi (ZW 60 #[ptr R.sb,.agg #[ZU p.id,ZI p.cls,ZI p.len,ZU d.now],ZU d.now] z.drew (ZI (d.sched.aQ q)) fun w4=>Qyf R w4 (Qn (Qn F w1 w2) z w4) b {d with sched:=d.sched.push q d.now}∧Qc (Qn F w1 w2) z w4):=O (by
   obtain⟨G,hS,_,_,B⟩:=(H3.o.aB (Zg Qb z).drew).schedOf;rw[HQ.o];refine(Qbn hS hN.1 hN.2 ⟨p.id,p.cls,p.len,(d.now:Int)⟩ d.now av.o).mono ?_;rintro r w4⟨rfl,h4,c4⟩;obtain⟨m1,m2⟩:=B w4 _ h4 c4;exact⟨rfl,m1,m2.aT⟩)
  obtain⟨Z,a1,a2,U,a4,a5,a6,a7,a8⟩:=Av H3.o.blk.1.drew;obtain⟨g0,g1,g2,g3⟩:=X9 al.o.drew;rw[←ac.o]at HP;clear hN;refine ZB [0,1,2,3,4,5,6,7,8,209,210] ?_;simp only[Z8,Zf,Ze,Zd];iterate 9 (refine Jq (h:=?_))
  clear Z a1 a2 U a4 a5 a6 a7 a8 g0 g1 g2 g3;refine J7 ?_;go_wp2_with fail;refine Zo HP ?_;rintro r w4⟨rfl,h4,c4⟩;have H4:=O h4;have C4:=O c4;have am:=O (c4.blk al.o NF.o);clear h4 c4;go_wp2_with fail;refine J7 ?_;go_wp2_with fail;refine Jo ?_;by_cases h0:er=0
  ·have HG:=O (Q03 (s:=d.sched) (p:=q) (by rw[←ac.o];exact h0));have aw:Hi (V4 (K+33) (d.came q)):=O (J.o.1.came (by rw[←ac.o];exact h0));have HC:Hi (ZW 62 #[ptr R.kb,.agg #[ZU p.id,ZI p.cls,ZI p.len,ZU d.now]] w4.drew (.tuple #[]) fun E=>Qyf R E (Qn (Qn F w1 w2) z E) b (d.came q)∧Qc (Qn F w1 w2) z E):=O (by
    obtain⟨G,hB,_,_,B⟩:=(H4.o.aB (Zg Qb w4).drew).bookOf;have hg:=HG.o;rw[HQ.o]at hg;refine(Q0j hB J.o.1.book ⟨p.id,p.cls,p.len,(d.now:Int)⟩ hg).mono ?_;rintro r E⟨rfl,h5,c5⟩;rw[←HQ.o]at h5;obtain⟨m1,m2⟩:=B E _ h5 c5;have I:Qc (Qn F w1 w2) z E:=C4.o.ext m2.aT;exact⟨rfl,V6.lift (e:=d.came q) m1 (Qn.trans C4.o.size m2.size) (ah.o.ext I),I⟩)
   obtain⟨Z,a1,a2,U,a4,a5,a6,a7,a8⟩:=Av H4.o.blk.1.drew;obtain⟨g0,g1,g2,g3⟩:=X9 am.o.drew;subst h0;go_wp2_with fail;refine ZB [0,1,2,3,4,205] ?_;simp only[Z8,Zf,Ze,Zd];iterate 5 (refine Jq (h:=?_))
   clear Z a1 a2 U a4 a5 a6 a7 a8 g0 g1 g2 g3;refine J7 ?_;go_wp2_with fail;refine Zo HC ?_;rintro r E⟨rfl,h5,c5⟩;have H5:=O h5;have C5:=O c5;clear h5 c5;obtain⟨Z,a1,a2,U,a4,a5,a6,a7,a8⟩:=Av H5.o.blk.1;have ax:E.cell? ⟨b,3,none⟩=some (ZU d.now):=U;clear U;go_wp2_with fail;refine Jo ?_;go_wp2_with fail;refine(Qzl ⟨R,H5.o⟩ aw.o (by omega) (J.o.2.came q) d.now).mono ?_;rintro r w6⟨rfl,h6,c6⟩;have I:Qc (Qn F w1 w2) z w6:=C5.o.ext c6;have K6:=O (ag.o w6 _ (Qxn.obj.more h6 (Qn.trans C5.o.size c6.size) (ah.o.ext I)) I);clear h6 c6 I Z a1 a2 ax a4 a5 a6 a7 a8;go_wp2;go_ret;exact⟨rfl,K6.o⟩
  ·have HE:=O h0;have d0:(er==0)=false:=by simpa using h0
   have HR:Hi (ZW 61 #[ptr R.kb,ZI p.cls] w4.drew (.tuple #[]) fun E=>Qyf R E (Qn (Qn F w1 w2) z E) b (d.refused q)∧Qc (Qn F w1 w2) z E):=O (by
    obtain⟨G,hB,_,_,B⟩:=(H4.o.aB (Zg Qb w4).drew).bookOf;refine(Qzt hB J.o.1.book p.cls).mono ?_;rintro r E⟨rfl,h5,c5⟩;obtain⟨m1,m2⟩:=B E _ h5 c5;have I:Qc (Qn F w1 w2) z E:=C4.o.ext m2.aT;have hs:({d with sched:=d.sched.push q d.now,book:=d.book.tell p.cls Qwx}:Vi)=d.refused q:=by unfold Vi.refused;rw[Qnm (by rw[←ac.o];exact h0),HQ.o]
    have m3:=V6.lift m1 (Qn.trans C4.o.size m2.size) (ah.o.ext I);exact⟨rfl,hs▸m3,I⟩)
   obtain⟨Z,a1,a2,U,a4,a5,a6,a7,a8⟩:=Av H4.o.blk.1.drew;obtain⟨g0,g1,g2,g3⟩:=X9 am.o.drew;clear h0;go_wp2_with fail;refine ZB [0,1,2,3,4,5,206] ?_;simp only[Z8,Zf,Ze,Zd];iterate 6 (refine Jq (h:=?_))
   clear Z a1 a2 U a4 a5 a6 a7 a8 g0 g1 g2 g3;refine J7 ?_;go_wp2_with fail;refine Zo HR ?_;rintro r E⟨rfl,h5,c5⟩;have K5:=O (ag.o E _ ⟨R,h5⟩ c5);clear h5 c5;go_wp2_with fail;refine Jo ?_;go_wp2;go_ret;exact⟨rfl,K5.o⟩
end
section
attribute [local go_sem ↓] X8 Yd
theorem Q0d(n:Nat)(a:Option Addr)(cap:Nat)(w):ZW 8 #[.slice a n cap] w (.bool (decide (200<n))) fun w'=>w=w':=by
 go_enter func8,ntmps8;go_wp2;go_ret;refine⟨?_,rfl⟩;congr 2;by_cases h:200<n;·simp[h];omega
 ·simp[h];omega
theorem Qz2(now c:Nat)(w)(u:now≤1099511627776):ZW 35 #[ZU now,ZU c] w (ZU (P4 now c:Int)) fun w'=>w=w':=by
 have k:(c:Int).tmod 1048576=((c%1048576:Nat):Int):=by rw[Int.tmod_eq_emod_of_nonneg (by omega)];omega
 obtain⟨q,d⟩:=Zx (c%1048576);have Xg:q<1048576:=by omega
 have z:min ((now:Int)+(q:Int)) 1099511627781=(P4 now c:Int):=by unfold P4;rw[←d];omega
 rw[←d]at k;have B:IntKind.u64.wrap ((now:Int)+(q:Int))=(now:Int)+(q:Int):=by rw[IntWalk.u64_in _ (by omega)]
 have E:IntKind.u64.wrap (q:Int)=(q:Int):=by rw[IntWalk.u64_in _ (by omega)]
 clear d Xg u;go_enter func35,ntmps35;go_wp2;go_ret;exact⟨rfl,rfl⟩
abbrev Q1g(a:Yy):Array Value:=#[.int .u8 a.kind,ZI a.s.id,ZI a.s.par,.bool a.s.leaf,ZU a.s.real.f,ZU a.s.real.l,ZU a.s.real.r,ZU a.s.share.f,ZU a.s.share.l,ZU a.s.share.r,ZU a.s.aN.f,ZU a.s.aN.l,ZU a.s.aN.r,ZI a.s.pk,ZI a.s.bt,ZU a.p.id,ZI a.p.cls,ZI a.p.len,ZU a.p.at_,ZU a.after]
abbrev Q0m(d:Nat)(c:Int)(k:Nat):Array Value:=#[ZU d,ZI c,ZU k]
abbrev stN(c d k q u z B E:Nat):Array Value:=#[ZU c,ZU d,ZU k,ZU q,ZU u,ZU z,ZU B,ZU E]
theorem Yy.at20{w}{r:Nat}{a:Yy}{t:TypeId}(h:Qh w r a.cells.toArray t):w.cell? ⟨r,0,none⟩=some (.int .u8 a.kind)∧w.cell? ⟨r,1,none⟩=some (ZI a.s.id)∧w.cell? ⟨r,2,none⟩=some (ZI a.s.par)∧w.cell? ⟨r,3,none⟩=some (.bool a.s.leaf)∧w.cell? ⟨r,4,none⟩=some (ZU a.s.real.f)∧w.cell? ⟨r,5,none⟩=some (ZU a.s.real.l)∧w.cell? ⟨r,6,none⟩=some (ZU a.s.real.r)∧w.cell? ⟨r,7,none⟩=some (ZU a.s.share.f)∧w.cell? ⟨r,8,none⟩=some (ZU a.s.share.l)∧w.cell? ⟨r,9,none⟩=some (ZU a.s.share.r)∧w.cell? ⟨r,10,none⟩=some (ZU a.s.aN.f)∧w.cell? ⟨r,11,none⟩=some (ZU a.s.aN.l)∧w.cell? ⟨r,12,none⟩=some (ZU a.s.aN.r)∧w.cell? ⟨r,13,none⟩=some (ZI a.s.pk)∧w.cell? ⟨r,14,none⟩=some (ZI a.s.bt)∧w.cell? ⟨r,15,none⟩=some (ZU a.p.id)∧w.cell? ⟨r,16,none⟩=some (ZI a.p.cls)∧w.cell? ⟨r,17,none⟩=some (ZI a.p.len)∧w.cell? ⟨r,18,none⟩=some (ZU a.p.at_)∧w.cell? ⟨r,19,none⟩=some (ZU a.after):=
 ⟨h.at 0 rfl,h.at 1 rfl,h.at 2 rfl,h.at 3 rfl,h.at 4 rfl,h.at 5 rfl,h.at 6 rfl,h.at 7 rfl,h.at 8 rfl,h.at 9 rfl,h.at 10 rfl,h.at 11 rfl,h.at 12 rfl,h.at 13 rfl,h.at 14 rfl,h.at 15 rfl,h.at 16 rfl,h.at 17 rfl,h.at 18 rfl,h.at 19 rfl⟩
section
variable{w:World}{F:Fp}{b:Nat}{e:Vi}{K:Nat}
theorem Qxn.lifted{W w'}(h:Qxn w F b e)(c:Qc Qb w W){q:Vi}(h':Qxn w' (Qn F W w') b q)(u:Qc F W w'):Qxn w' (Qn F w w') b q∧Qc F w w':=by have d:Qc F w w':=c.none.aA u;exact⟨Qxn.obj.more h' (fun k z=>z.elim .inl (fun h=>.inr ⟨Zp c.size h.1,h.2⟩)) ((Qxn.obj.bd h).ext d),d⟩
theorem Qzh(h:Qxn w F b e)(J:V4 K e)(hK:K+33<549755813000)(u:UOk e)(a:Yy)(hw:a.wf):
  ZW 11 #[ptr b,.agg a.cells.toArray] w (ZI (e.aY a.kind.toNat a.s a.p a.after)) fun w'=>Qxn w' (Qn F w w') b (e.does a.kind.toNat a.s a.p a.after)∧Qc F w w':=by
 have aa:=hw.1;obtain⟨W,Z⟩:=Zx (w.alloc (.cells a.cells.toArray 33));have c0:Qc Qb w W:=by rw[Z];exact(Zg _ _).alloc _
 have B0:Hi (Qh W w.heap.size a.cells.toArray 33):=O (by rw[Z];exact Qh.new _ _ _);have B:Qxn W F b e:=Qxn.obj.aB h c0 (Jl.none F);have d:=O (Zt h c0);obtain⟨N,U,_⟩:=J.sok;have al:=O (Qz8 B U a.s);have am:=O (Qz9 B U a.s);have an:=O (Q0z B J a.s.id);have ao:=O (Qzm B J hK u a.p);have ap:=O (fun k(c:Qc Qb W k)=>Qyz (Qxn.obj.aB B c (Jl.none F)) J (by omega) u (P4 e.now a.after));have aq:=O (fun k(c:Qc Qb W k)=>Qzd (Qxn.obj.aB B c (Jl.none F)) J (by omega) u (P4 e.now a.after));have HL:=O (fun k=>Qz2 e.now a.after k (Zp J.now J.hor.2));have HN:=O (fun k(c:Qc Qb W k)=>by obtain⟨A,hA⟩:=Qxn.obj.aB B c (Jl.none F);exact Qzn hA.blk.1);have HX:=O (fun k(c:Qc Qb W k)=>(show k.cell? ⟨w.heap.size,19,none⟩=some (ZU a.after)from(c.blk B0.o (fun h=>h)).at 19 rfl));have X:=O (Yy.at20 B0.o);have e3:a.kind.tmod 7=a.kind%7:=Int.tmod_eq_emod_of_nonneg aa;have R:a.kind.toNat%7=(a.kind%7).toNat:=by omega
 have h7:a.kind%7=0∨a.kind%7=1∨a.kind%7=2∨a.kind%7=3∨a.kind%7=4∨a.kind%7=5∨a.kind%7=6:=by omega
 unfold Vi.aY Vi.does;unfold Fb at*;unfold Yy.cells at Z;unfold Yy.cells;clear h B c0 U J u hw aa;rcases h7 with I|I|I|I|I|I|I;all_goals
  rw[I]at e3 R;simp only[R];obtain⟨x0,x1,x2,x3,x4,x5,x6,x7,x8,x9,ab,ac,ae,af,ag,ah,ai,aj,ak,q⟩:=X.o;clear I R;go_enter func11,ntmps11;go_wp2_with fail;rw[←Z];clear Z;go_wp2_with fail
 all_goals try((first|refine Zo al ?_|refine Zo am ?_|refine Zo an ?_|refine Zo ao ?_);rintro r w1⟨rfl,E,z⟩;have K:=O (d.o.1.lifted d.o.2 E z);clear E z;go_wp2;go_ret;exact⟨rfl,K.o⟩)
 ·refine ZC [100,1,103,104,202,205,306,307] (fun V=>Qc (Qb) (W) V) ?_;simp only[Z8,Zf,Ze,Zd];(refine Qy (h:=?_);try simp only[Act.put,Za,Zc,Zb]);refine Xe (h:=?_);(refine Qy (h:=?_);try simp only[Act.put,Za,Zc,Zb]);iterate 1 (refine Qy (by kernel_rfl) (fun V hv=>by(have q:=HX.o V hv);go_simp;try rfl) ?_;try simp only[Act.put,Za,Zc,Zb])
  clear x0 x1 x2 x3 x4 x5 x6 x7 x8 x9 ab ac ae af ag ah ai aj ak q;refine Yb ?_;go_wp2_with fail;refine(HN.o _ (Zg Qb W).drew).mono ?_;rintro r w1⟨rfl,rfl⟩;go_wp2_with fail;refine⟨(Zg Qb W).drew,?_⟩;refine Yb ?_;go_wp2_with fail;refine(HL.o _).mono ?_;rintro r w1⟨rfl,rfl⟩;go_wp2_with fail;refine⟨(Zg Qb W).drew,?_⟩;refine Km ?_;go_wp2_with fail;refine(ap.o _ (Zg Qb W).drew).mono ?_;rintro r w1⟨rfl,E,z⟩;have K:=O (d.o.1.lifted (d.o.2.aA (Zg Qb W).drew) E z);clear E z;go_wp2_with fail;refine Km ?_;go_wp2_with fail;refine Ky ?_;go_wp2;go_ret;exact⟨rfl,K.o⟩
 all_goals
  refine ZC [100,1,103,104,202,205,306] (fun V=>Qc (Qb) (W) V) ?_;simp only[Z8,Zf,Ze,Zd];(refine Qy (h:=?_);try simp only[Act.put,Za,Zc,Zb]);refine Xe (h:=?_);(refine Qy (h:=?_);try simp only[Act.put,Za,Zc,Zb]);iterate 1 (refine Qy (by kernel_rfl) (fun V hv=>by(have q:=HX.o V hv);go_simp;try rfl) ?_;try simp only[Act.put,Za,Zc,Zb])
  clear x0 x1 x2 x3 x4 x5 x6 x7 x8 x9 ab ac ae af ag ah ai aj ak q;refine Yb ?_;go_wp2_with fail;refine(HN.o _ (Zg Qb W).drew).mono ?_;rintro r w1⟨rfl,rfl⟩;go_wp2_with fail;refine⟨(Zg Qb W).drew,?_⟩;refine Yb ?_;go_wp2_with fail;refine(HL.o _).mono ?_;rintro r w1⟨rfl,rfl⟩;go_wp2_with fail;refine⟨(Zg Qb W).drew,?_⟩;refine Km ?_;go_wp2_with fail;refine(aq.o _ (Zg Qb W).drew).mono ?_;rintro r w1⟨rfl,E,z⟩;have K:=O (d.o.1.lifted (d.o.2.aA (Zg Qb W).drew) E z);clear E z;go_wp2_with fail;refine Ky ?_;go_wp2;go_ret;exact⟨rfl,K.o⟩
end
end
theorem Q0a(d:Nat)(c:Int)(q:Nat)(w)(h:Qxy d c q=0):Cl 9 #[.agg #[ZU d,ZI c,ZU q]] w fun r w'=>∃b,r=.returned (.tuple #[ptr b,ZI 0])∧Qxn w' (Qn Qb w w') b (.new d c q)∧Qc Qb w w':=by
 obtain⟨W0,z⟩:=Zx (w.alloc (.cells #[ZU d,ZI c,ZU q] 24));have C0:Hi (Qc Qb w W0):=O (by rw[z];exact(Zg _ _).alloc _);have U:Hi (Qh W0 w.heap.size #[ZU d,ZI c,ZU q] 24):=O (by rw[z];exact Qh.new _ _ _);have Z:=O z;have hh:(1≤d∧d≤1048576)∧(1≤c∧c<65536)∧1≤q∧q≤1099511627776:=by
  unfold Qxy at h;split at h;·exact absurd h (by decide)
  split at h;·exact absurd h (by decide)
  omega
 obtain⟨⟨r1,r2⟩,⟨m1,m2⟩,p1,p2⟩:=hh;have HL:=O (Qzx d W0 r1 r2);have HS:=O (fun w1=>Qeb c m1 m2 w1);have HK:=O Q0w;have d1:decide ((q:Int)<1)=false:=by simp;omega
 have aa:decide (q<1)=false:=by simp;omega
 have d2:decide ((1099511627776:Int)<(q:Int))=false:=by simp;omega
 have ab:decide (1099511627776<q)=false:=by simp;omega
 clear h r1 r2 m1 m2 p1 p2 z;obtain⟨a0,a1,a2⟩:=L6 (show Qh (w.alloc (.cells #[ZU d,ZI c,ZU q] 24)) w.heap.size #[ZU d,ZI c,ZU q] 24 from Qh.new _ _ _);go_enter func9,ntmps9;go_wp2_with fail;rw[←Z.o];refine Zo HL ?_;rintro r w1⟨lb,rfl,hl,J⟩;have C1:=O (C0.o.aA J);have L1:=O (Zt hl J);obtain⟨b0,b1,b2⟩:=L6 (J.blk U.o (fun h=>h));clear J hl a0 a1 a2;go_wp2_with fail;refine(HS.o _).mono ?_;rintro r w2⟨sb,rfl,hs,K⟩;have C2:=O (C1.o.aA K);have S2:=O (Zt hs K);have I:=O (K.blk (L1.o.2.blk U.o (fun h=>h)) (fun h=>h));obtain⟨b0,b1,b2⟩:=L6 I.o;clear K hs;go_wp2_with fail;refine ZC [100,101,102,203,4,305,306,307] (fun wv=>Qc (Qb) (w2) wv) ?_;simp only[Z8,Zf,Ze,Zd];iterate 1 (refine Qy (by kernel_rfl) (fun wv hv=>by(obtain⟨c0,J,K⟩:=L6 (hv.blk I.o (fun h=>h)));go_simp;try rfl) ?_;try simp only[Act.put,Za,Zc,Zb])
 iterate 2 (refine Qy (h:=?_);try simp only[Act.put,Za,Zc,Zb])
 refine Yb ?_;go_wp2_with fail;refine(HK.o _).mono ?_;rintro r w3⟨kb,rfl,u,c3⟩;have E:=O (Zt u ((Zg Qb w2).drew.aA c3));clear u c3;go_wp2_with fail;refine⟨E.o.2,?_⟩;refine Xe (h:=?_);refine Km ?_;go_wp2_with fail;refine Km ?_;go_wp2_with fail;refine Km ?_;go_wp2_with fail;refine Ky ?_;have V:Hi (∀B,B=w3.alloc (.cells #[ZU d,ZI c,ZU q,ZU 0,ptr sb,ptr lb,ptr kb,.slice none 0 0,.slice none 0 0] 87)→Qxn B (Qn Qb w B) w3.heap.size (.new d c q)∧Qc Qb w B):=O (by
  intro B hz;have R:Qc Qb w3 B:=by rw[hz];exact(Zg _ _).alloc _
  have hB:Qh B w3.heap.size #[ZU d,ZI c,ZU q,ZU 0,ptr sb,ptr lb,ptr kb,.slice none 0 0,.slice none 0 0] 87:=by rw[hz];exact Qh.new _ _ _
  have z0:=U.o.lt;have z1:=L1.o.2.size;have z2:=S2.o.2.size;have z3:=E.o.2.size;have z4:=hB.lt;have hd:w2.drew.heap.size=w2.heap.size:=rfl;have hm:Qyf ⟨sb,lb,kb,.slice none 0 0,.slice none 0 0⟩ B (Qn Qb w B) w3.heap.size (.new d c q):=Qyf.made
   (fun k=>if k<w1.heap.size then 2 else if k<w2.heap.size then 1 else if k<w3.heap.size then 3 else 0) hB (Qt.obj.aB S2.o.1 (E.o.2.aA R) (Jl.none _)) (P3.obj.aB L1.o.1 ((S2.o.2.aA E.o.2).aA R) (Jl.none _)) (Qau.obj.aB E.o.1 R (Jl.none _)) (Qwq.none _) (Qwq.none _)
   (by(try dsimp only);rw[if_neg (by omega),if_neg (by omega),if_neg (by omega)])
   (fun k u=>u.elim (fun h=>h.elim) (fun h=>by(try dsimp only);rw[if_neg (by omega),if_pos (by omega)]))
   (fun k u=>u.elim (fun h=>h.elim) (fun h=>by(try dsimp only);rw[if_pos (by omega)]))
   (fun k u=>u.elim (fun h=>h.elim) (fun h=>by(try dsimp only);rw[if_neg (by omega),if_neg (by omega),if_pos (by omega)]))
   (fun k u=>u.elim) (fun k u=>u.elim) (.inr ⟨by omega,by omega⟩)
   (fun k u=>u.elim (fun h=>h.elim) (fun h=>.inr ⟨by omega,by omega⟩)) (fun k u=>u.elim (fun h=>h.elim) (fun h=>.inr ⟨by omega,by omega⟩)) (fun k u=>u.elim (fun h=>h.elim) (fun h=>.inr ⟨by omega,by omega⟩)) (fun k u=>u.elim) (fun k u=>u.elim)
   (fun k u=>u.elim (fun h=>h.elim) (fun h=>h.2))
  exact⟨⟨_,hm⟩,(C2.o.aA E.o.2).aA R⟩)
 go_wp2;go_ret2;exact⟨_,rfl,V.o _ rfl⟩
section
theorem Qy5(c d k q u z B E:Int)(w):(binOp .eql 46 (.agg #[ZU c,ZU d,ZU k,ZU q,ZU u,ZU z,ZU B,ZU E]) (.agg #[ZU c,ZU d,ZU k,ZU q,ZU u,ZU z,ZU B,ZU E])).run prog w=.ok (.bool true) w:=by go_simp
end
structure GE(W w:World)(G:Fp)(b:Nat)(e:Vi):Prop where
 is:Qxn w G b e
 lo:∀k,G k→W.heap.size≤k
 chg:Qc Qb W w
section
variable{W w w':World}{G:Fp}{b r:Nat}{e e':Vi}{cs:Array Value}{t:TypeId}
theorem GE.step(h:GE W w G b e)(d:Qxn w' (Qn G w w') b e')(q:Qc G w w'):GE W w' (Qn G w w') b e':=
 ⟨d,fun k c=>c.elim (h.lo k) (fun e=>Zp h.chg.size e.1),h.chg.trans q fun k c=>.inr (h.lo k c)⟩
theorem GE.aB(h:GE W w G b e)(c:Qc Qb w w'):GE W w' G b e:=⟨Qxn.obj.aB h.is c (Jl.none _),h.lo,h.chg.aA c⟩
theorem GE.new(h:Qxn w (Qn Qb W w) b e)(c:Qc Qb W w):GE W w (Qn Qb W w) b e:=⟨h,fun k d=>d.elim (fun h=>h.elim) (fun h=>h.1),c⟩
def Qy1(w:World)(G:Fp)(r:Nat)(cs:Array Value)(t:TypeId):Prop:=Qh w r cs t∧¬G r
theorem Qy1.step(h:Qy1 w G r cs t)(c:Qc G w w'):Qy1 w' (Qn G w w') r cs t:=
 ⟨c.blk h.1 h.2,fun d=>d.elim h.2 (fun e=>by have:=h.1.lt;omega)⟩
theorem Qy1.aB(h:Qy1 w G r cs t)(c:Qc Qb w w'):Qy1 w' G r cs t:=⟨c.blk h.1 (fun h=>h),h.2⟩
theorem Q05(o:Option D7):∀v∈(Qza o).toList,v.oneCell'=true:=by
 cases o with
 |none=>intro v c;simp[Qza]at c;rcases c with rfl|rfl|rfl|rfl|rfl<;>rfl
 |some x=>intro v c;simp[Qza]at c;rcases c with rfl|rfl|rfl|rfl|rfl|rfl|rfl|rfl<;>rfl
theorem Q08(h:GE W w G b e)(o:Option D7):
  ∃w',(storeCells ⟨w.heap.size,0,none⟩ (Qza o).toList 0).run prog (w.alloc (.cells ZG 51))=.ok () w'∧GE W w' G b e∧Qy1 w' G w.heap.size (Qza o) 51∧Qc Qb w w':=by
 have d:(Qza o).size=8:=by cases o<;>rfl
 obtain⟨w',s3,c,q⟩:=Q0 (P:=prog) (vs:=Qza o) (Qh.new w ZG 51) d (Q05 o);have N3:Qc Qb w w':=((Zg Qb w).alloc _).trans q (fun k e=>.inr (by omega));refine⟨w',s3,h.aB N3,⟨c,fun u=>?_⟩,N3⟩;have:=Qxn.obj.bd h.is _ u;omega
end
section
attribute [local go_sem ↓] Qy5
theorem Qzp(W):ZW 7 #[] W (.bool true) fun w'=>Qc Qb W w':=by
 have u0:UOk ew0:=UOk.new _ _ _;have u1:UOk ew1:=u0.add ewC;have u2:UOk ew2:=u1.adv ew_ok1 5;have u3:UOk ew3:=u2.arr ew_ok2 ewP;have u4:UOk ew4:=u3.arr ew_ok3 ewQ;have u5:UOk ew5:=u4.adv ew_ok4 4;have u6:UOk ew6:=u5.adv ew_ok5 99;have u7:UOk ew7:=u6.adv ew_ok6 200;have UN:Hi (∀w b G,Qxn w G b ew3→ZW 21 #[ZP b] w (.tuple #[.agg (Qza (some ewX)),.bool true]) fun w'=>Qc Qb w w'):=O (fun w b G h=>by
  obtain⟨A,hA⟩:=h;have:=Q0o hA;rw[Qyt]at this;exact this)
 have SE:Hi (∀w b G,Qxn w G b ew6→Cl 14 #[ZP b] w fun e w'=>∃g cap,e=.returned (.slice (some ⟨g,0,none⟩) 1 cap)∧(∃cs,Qy1 w' G g cs 51∧∀(j:Nat)(u:Value),(Qxe ewX)[j]? =some u→cs[j]? =some u)∧Qc Qb w w'):=O (fun w b G h=>by
  have aj:=Qxn.obj.bd h;obtain⟨A,hA⟩:=h;have:=Qzw hA (by rw[Qyr];decide);rw[Qyr]at this;refine this.mono ?_;rintro r w'⟨v',rfl,h1,c1,h2⟩;obtain⟨g,cap,rfl,ho,cs,hB,hx⟩:=Qxw.one h1;exact⟨g,cap,rfl,⟨cs,⟨hB,fun hk=>by have:=aj _ hk;have:=h2 g ho;omega⟩,hx⟩,c1⟩)
 have SA:Hi (∀w b G,Qxn w G b ew7→ZW 15 #[ZP b,ZI 0] w (.agg #[ZU 1,ZU 1,ZU 1,ZU 10,ZU 0,ZU 10,ZU 0,ZU 0]) fun w'=>Qc Qb w w'):=O (fun w b G h=>by
  obtain⟨A,hA⟩:=h;have:=Qzo hA ew_ok7.book 0;rw[Qyp]at this;exact this)
 obtain⟨N0,ag,_⟩:=ew_ok0.sok;have e7:ew7.adv 100=ew7:=by unfold Vi.adv;rw[if_neg (by rw[Qyo];decide)]
 have U:=O (Zt u1 (Zt u2 (Zt u3 (Zt u4 (Zt u5 (Zt u6 (Zt u7 (Zt e7 ag))))))));clear u0 u1 u2 u3 u4 u5 u6 u7 e7 ag;go_enter func7,ntmps7;go_wp2_with fail;refine(Q0a 256 1500 100 W Qyb).mono ?_;rintro e w1⟨b,rfl,h1,c1⟩;have S1:=O (show GE W _ _ b ew0 from GE.new h1 c1);unfold ptr;clear h1 c1;generalize Qn Qb W w1=G1 at S1;go_wp2_with fail;refine Zz (Q0u 256 1500 0 _ (by rw[Qyq];decide)) ?_;intro w2 c2;rw[Qyq];have S2:=O (S1.o.aB c2);clear c2;go_wp2_with fail;refine Zz (Qz8 S2.o.is U.o.2.2.2.2.2.2.2.2 ewC) ?_;rintro w3⟨h3,c3⟩;rw[Qyh];have S3:=O (show GE W _ _ b ew1 from S2.o.step h3 c3);clear h3 c3;generalize Qn G1 w2 w3=G3 at S3;go_wp2_with fail;refine Zz (Qyz S3.o.is ew_ok1 (by decide) U.o.1 5) ?_;rintro w4⟨h4,c4⟩;rw[Qyi];have S4:=O (show GE W _ _ b ew2 from S3.o.step h4 c4);clear h4 c4;generalize Qn G3 w3 w4=G4 at S4;go_wp2_with fail;refine Zz (Qzm S4.o.is ew_ok2 (by decide) U.o.2.1 ewP) ?_;rintro w5⟨h5,c5⟩;rw[Qyj];have S5:=O (show GE W _ _ b ew3 from S4.o.step h5 c5);clear h5 c5;generalize Qn G4 w4 w5=G5 at S5;go_wp2_with fail;refine Zz (UN.o _ _ _ S5.o.is) ?_;intro w6 c6;obtain⟨W6,s6,g6,a6,n6⟩:=Q08 (S5.o.aB c6) (some ewX);have S6:=O g6;have B6:=O a6;clear c6 g6 a6 n6;go_wp2_with fail;clear s6;refine Zz (Qzm S6.o.is ew_ok3 (by decide) U.o.2.2.1 ewQ) ?_;rintro w7⟨h7,c7⟩;rw[Qyk];have S7:=O (show GE W _ _ b ew4 from S6.o.step h7 c7);have B7:=O (B6.o.step c7);clear h7 c7;generalize Qn G5 W6 w7=G7 at S7 B7;go_wp2_with fail;refine Zz (Qyz S7.o.is ew_ok4 (by decide) U.o.2.2.2.1 4) ?_;rintro w8⟨h8,c8⟩;rw[Qyl];have S8:=O (show GE W _ _ b ew5 from S7.o.step h8 c8);have B8:=O (B7.o.step c8);clear h8 c8;generalize Qn G7 w7 w8=G8 at S8 B8;go_wp2_with fail;refine Zz (Qyz S8.o.is ew_ok5 (by decide) U.o.2.2.2.2.1 99) ?_;rintro w9⟨h9,c9⟩;rw[Qym];have S9:=O (show GE W _ _ b ew6 from S8.o.step h9 c9);have B9:=O (B8.o.step c9);clear h9 c9;generalize Qn G8 w8 w9=G9 at S9 B9;go_wp2_with fail;refine(SE.o _ _ _ S9.o.is).mono ?_;rintro e ak⟨g,cap,rfl,⟨cs,ae,hx⟩,E⟩;have V:=O (S9.o.aB E);have ah:=O (B9.o.aB E);have K:=O (Zt ae hx);clear ae hx E;go_wp2_with fail;refine Zz (Qyz V.o.is ew_ok6 (by decide) U.o.2.2.2.2.2.1 200) ?_;rintro c⟨af,d⟩;rw[Qyn];have z:=O (show GE W _ _ b ew7 from V.o.step af d);have J:=O (ah.o.step d);have R:=O (K.o.1.step d);clear af d;generalize Qn G9 ak c=an at z J R;obtain⟨x0,x1,x2,x3,x4,x5,x6,x7⟩:=Ja (show Qh c w6.heap.size #[ZU 7,ZI 1,ZI 10,ZU 5,.int .u8 2,ZU 5,ZU 15,ZU 0] _ from J.o.1);obtain⟨y0,y1,y2,y3,y4,y5,y6,y7⟩:=(show c.cell? ⟨g,0,none⟩=some (ZU 7)∧c.cell? ⟨g,1,none⟩=some (ZI 1)∧c.cell? ⟨g,2,none⟩=some (ZI 10)∧c.cell? ⟨g,3,none⟩=some (ZU 5)∧c.cell? ⟨g,4,none⟩=some (.int .u8 2)∧c.cell? ⟨g,5,none⟩=some (ZU 5)∧c.cell? ⟨g,6,none⟩=some (ZU 15)∧c.cell? ⟨g,7,none⟩=some (ZU 0)from Q1m R.o.1 K.o.2);go_wp2_with fail;clear x0 x1 x2 x3 x4 x5 x6 x7 y0 y1 y2 y3 y4 y5 y6 y7;obtain⟨al,k⟩:=z.o.is;refine Zz (Qyy k.blk.1) ?_;intro ao aa;rw[Qys.2];clear k;have B:=O (z.o.aB aa);clear aa;go_wp2_with fail;obtain⟨am,q⟩:=B.o.is;refine Zz (Qzn q.blk.1) ?_;rintro ap rfl;rw[Qys.1];clear q;go_wp2_with fail;refine Zz (Qyz B.o.is ew_ok7 (by decide) U.o.2.2.2.2.2.2.1 100) ?_;rintro aq⟨I,ab⟩;rw[Qyo];rw[U.o.2.2.2.2.2.2.2.1]at I;have Z:=O (B.o.step I ab);clear I ab;go_wp2_with fail;refine Zz (SA.o _ _ _ Z.o.is) ?_;intro ar ac;have ai:=O (Z.o.aB ac).chg;clear ac;go_wp2;go_ret;exact⟨rfl,ai.o⟩
end
section
section
theorem Qz4(x:D7)(w):(binOp .neq 51 (.agg (ZM x)) (.agg (ZM x))).run prog w=.ok (.bool false) w:=by go_simp
end
attribute [local go_sem ↓] Qz4
theorem Q0s(l:List D7)(a b:Option Addr)(E I:Nat)(w)(Z:l.length<1099511627776)(ha:Kb Qxe 8 w a l)(B:Kb Qxe 8 w b l):
  ZW 19 #[.slice a l.length E,.slice b l.length I] w (.bool true) fun w'=>Qc Qb w w':=by
 have z:=O (Zt ha B);clear ha B;have J:((l.length:Int) !=(l.length:Int))=false:=by simp
 go_enter func19,ntmps19;go_wp2;go_loopw [5] (fun i wr=>∃k:Nat,k≤l.length∧i=ZI k∧Qc Qb w wr) (fun i _=>l.length-(intOf i).toNat);case atStart=>exact⟨0,by omega,rfl,Zg _ _⟩
 case round=>
  obtain⟨k,V,rfl,q⟩:=hrel;by_cases Xg:k<l.length
  ·obtain⟨g,o,rfl,d⟩:=z.o.1.aB q (fun _ _ h=>h) k Xg;obtain⟨U,o2,rfl,c⟩:=z.o.2.aB q (fun _ _ h=>h) k Xg;generalize l[k]=x at d c;have K:=d 0 _ rfl;have s1:=d 1 _ rfl;have s2:=d 2 _ rfl;have s3:=d 3 _ rfl;have s4:=d 4 _ rfl;have s5:=d 5 _ rfl;have s6:=d 6 _ rfl;have s7:=d 7 _ rfl;have R:=c 0 _ rfl;have t1:=c 1 _ rfl;have t2:=c 2 _ rfl;have t3:=c 3 _ rfl;have t4:=c 4 _ rfl;have t5:=c 5 _ rfl;have t6:=c 6 _ rfl;have t7:=c 7 _ rfl;simp only[Nat.add_zero]at K R;have u:=O q;have k0:(0:Int)≤(k:Int):=by omega
   have k1:(k:Int)<(l.length:Int):=by omega
   clear d c q;go_wp2;go_quiet (fail);go_wp2;go_roundw;case rel=>exact⟨k+1,by omega,by go_num,u.o.drewN _⟩
   case measure=>simp[intOf];omega
  ·have u:=O q;clear q;go_wp2;go_ret;exact⟨rfl,u.o⟩
theorem Q0g{l:List D7}{v k:Value}{w}(u:l.length<1099511627776)(h:Qxw w v l)(h':Qxw w k l):
  ZW 19 #[v,k] w (.bool true) fun w'=>Qc Qb w w':=by
 obtain⟨a,cap,rfl,_,_,z⟩:=Own.row Qws h;obtain⟨q,c,rfl,_,_,d⟩:=Own.row Qws h';exact Q0s l a q cap c w u z d
end
section
theorem Qzv(w):(binOp .neq 53 (.agg ZH) (.agg ZH)).run prog w=.ok (.bool false) w:=by go_simp
end
theorem Qze{P:Program}{ops:Array Oper}{rest:List Oper}{c:Oper}{a:Act}{w:World}{Q:Exit→Act→World→Prop}(k:Region.wanted c (yielded ops a.tmps)=true)(ty:TypeId)(x:Operand)(B:c.op=.load ty x)
  (b o:Nat) (I:a.eval x=.pointer (some ⟨b,o,none⟩)) (cs:List Value) (d:TypeDesc) (q:w.rangeAt b o cs)
  (E:P.underlying ty=some d) (u:d.isRow=true) (z:(P.info? ty).map (·.size)=some cs.length)
  (h:wpList P ops Q rest (a.put c.dst (.agg cs.toArray)) w):wpList P ops Q (c::rest) a w:=by
 unfold wpList;rw[if_pos k];exact .inl (wp_load_mid ty x B b o I cs d q E u z h)
section
variable{w w':World}{G:Fp}{v:Value}{l:List D7}
def SAp(w:World)(G:Fp)(v:Value)(l:List D7):Prop:=Qxw w v l∧∀k,v.ownBlock=some k→¬G k
theorem SAp.aB(h:SAp w G v l)(c:Qc Qb w w'):SAp w' G v l:=⟨h.1.aB c (fun _ _ h=>h),h.2⟩
theorem SAp.step(h:SAp w G v l)(c:Qc G w w'):SAp w' (Qn G w w') v l:=⟨h.1.aB c (fun k d q=>h.2 k d q),fun k d u=>u.elim (h.2 k d) (fun e=>by have:=h.1.lt k d;omega)⟩
end
section
attribute [local go_sem ↓] Qy5 Qzv
theorem Qz3(z:Nat)(B:Int)(Z:Nat)(cy:z<18446744073709551616)(cv:Z<18446744073709551616)(l:List Yy)(x:Yy)(a:Option Addr)(cap:Nat)(W)(hl:l.length≤maxLen)(hr:Kb Yy.cells 20 W a l)(hw:∀x∈l,x.wf)(hx:x.wf):
  ZW 3 #[.agg (Q0m z B Z),.slice a l.length cap,.agg x.cells.toArray] W (.bool true) fun w'=>Qc Qb W w':=by
 obtain⟨W0,ae⟩:=Zx ((W.alloc (.cells (Q0m z B Z) 24)).alloc (.cells x.cells.toArray 33));have C0:Hi (Qc Qb W W0):=O (by rw[ae];exact((Zg _ _).alloc _).alloc _);have de:Hi (Qh W0 W.heap.size (Q0m z B Z) 24):=O (by rw[ae];exact(Qh.new' _ _ (by simp)).alloc _);have c2:Hi (Qh W0 (W.heap.size+1) x.cells.toArray 33):=O (by rw[ae];exact Qh.new' _ _ (by simp));have el:=O ae;have AW:=O (Qzp W0);have LG:=O (fun w=>Q0d l.length a cap w);have ex:Hi (.agg x.cells.toArray=(Value.agg (Q1g x))):=O rfl;have a5:Hi (W0=(W.alloc (.cells (Q0m z B Z) 24)).alloc (.cells (Q1g x) 33)):=O (ae);clear ae;rw[ex.o];by_cases U:200<l.length;·rw[decide_eq_true U]at LG;clear hr hw hl U cy cv hx;go_enter func3,ntmps3;go_wp2_with fail;rw[←a5.o];refine Zy AW ?_;intro w1 c1;have C1:=O (C0.o.aA c1);clear c1;go_wp2_with fail;refine Zz (LG.o w1) ?_;rintro w2 rfl;go_wp2;go_ret;exact⟨rfl,C1.o⟩
 ·rw[decide_eq_false U]at LG;obtain⟨q,hq⟩:=Zx (Z%2000);have d8:q<2000:=by omega
  obtain⟨H,hH⟩:=Zx (1+q);have e1:(Z:Int).tmod 2000=(q:Int):=by rw[Int.tmod_eq_emod_of_nonneg (by omega)];omega
  have e2:IntKind.u64.wrap (q:Int)=(q:Int):=by rw[IntWalk.u64_in _ (by omega)]
  have e3:IntKind.u64.wrap (1+(q:Int))=(H:Int):=by rw[IntWalk.u64_in _ (by omega)];omega
  have ct:1≤H∧H≤2000:=by omega
  have HB:=O ct;have dt:=O (fun w(h:Qxy z B H≠0)=>Q0u z B H w h);have ds:=O (fun w(h:Qxy z B H=0)=>Q0a z B H w h);have HR:=O hr;have dq:=O hw;have HX:=O hx;have ab:=O U;clear hr hw hl U cy cv hx hq d8 hH ct;go_enter func3,ntmps3;go_wp2_with fail;rw[←a5.o];generalize Value.agg (Q1g x)=gx;generalize Value.agg (Q0m z B Z)=gc;refine Zy AW ?_;intro w1 c1;have C1:=O (C0.o.aA c1);have bc:=O (c1.blk de.o (fun h=>h));have c7:=O (c1.blk c2.o (fun h=>h));clear c1;obtain⟨V,hV⟩:=Zx (w1.setCell ⟨W.heap.size,2,none⟩ (ZU H));have bh:Qc (fun k=>k=W.heap.size) w1 V:=by rw[hV];exact(Zg (fun k=>k=W.heap.size) w1).setCell (a:=⟨W.heap.size,2,none⟩) _ (.inl rfl)
  have CV:Hi (Qc Qb W V):=O (C1.o.trans bh fun k e=>.inr (by omega));have ar:Hi (Qh V W.heap.size (Q0m z B H) 24):=O (by rw[hV];exact bc.o.set' 2 _ rfl);have br:Hi (Qh V (W.heap.size+1) x.cells.toArray 33):=O (bh.blk c7.o (fun e=>by omega));have HV:=O hV;clear hV bh;obtain⟨b0,b1,b2⟩:=L6 bc.o;have bf:=bc.o.frozen;go_wp2_with fail;refine Zz (LG.o w1) ?_;rintro w2 rfl;obtain⟨d0,d1,d2⟩:=L6 ar.o;go_wp2_with fail;try rw[←HV.o]
  clear b0 b1 b2 bf e1 e2 e3;go_wp2_with fail;by_cases hE:Qxy z B H=0
  ·refine(ds.o _ hE).mono ?_;rintro r w3⟨b,rfl,h3,c3⟩;have S3:=O (GE.new h3 c3);have du:=O (V4.new hE);clear h3 c3 hE d0 d1 d2;generalize Qn Qb V w3=G3 at S3;go_wp2_with fail;go_loopw [9,10,11] (fun t9 _ _ wr=>∃(k:Nat)(e:Vi)(G:Fp),t9=ZI k∧k≤l.length∧GE V wr G b e∧V4 (33*k) e∧UOk e∧e.hor=H) (fun t9 _ _ _=>l.length-(intOf t9).toNat);case atStart=>exact⟨0,_,_,rfl,Nat.zero_le _,S3.o,du.o,UOk.new _ _ _,rfl⟩
   case round=>
    obtain⟨k,e,G,rfl,hk,hG,cx,hu,ba⟩:=hrel;have S4:=O hG;have I:=O (Zt cx (Zt hu ba));clear hG cx hu ba;by_cases a2:k<l.length
    ·obtain⟨hd,d6⟩:=ZT (show k<l.length by omega);have cb:Hi (ZW 10 #[ptr b] wr (.bool e.stopped) fun w'=>Qc Qb wr w'):=O (by obtain⟨A,hA⟩:=S4.o.is;exact Qyy hA.blk.1);obtain⟨g,o,rfl,hj⟩:=HR.o k a2;have af:=dq.o _ (List.getElem_mem a2);generalize l[k]=d at hj af;have HD:=O (fun w'(c:Qc Qb wr w')=>Qzh (S4.o.aB c).is I.o.1 (by have:=ab.o;omega) I.o.2.1 d af);have HL:=O (fun w'(c:Qc Qb wr w')=>(show w'.rangeAt g (o+k*20) d.cells from fun j u hu=>((CV.o.aA S4.o.chg).aA c).same (hj j u hu)));have HK:=O (fun w'(c:Qc Qb W w')=>(show w'.cell? ⟨g,o+k*20,none⟩=some (.int .u8 d.kind)from c.same (hj 0 _ rfl)));have k5:d.kind%7<5→(e.aY d.kind.toNat d.s d.p d.after=261)=(e.stopped=true):=fun h=>Qwj e d.kind.toNat d.s d.p d.after (by have:=af.1;omega);have k6:¬d.kind%7<5→e.aY d.kind.toNat d.s d.p d.after=0:=fun h=>by have:=af.1;unfold Vi.aY;rw[if_neg (by omega),if_neg (by omega),if_neg (by omega),if_neg (by omega),if_neg (by omega)]
     have cd:Hi (∀w' G',GE V w' G' b (e.does d.kind.toNat d.s d.p d.after)→∃(e':Vi)(G:Fp),GE V w' G b e'∧V4 (33*(k+1)) e'∧UOk e'∧e'.hor=H):=O (fun w' G' h=>⟨_,G',h,by have:=I.o.1.does d.kind.toNat d.s d.p d.after;rwa[show 33*(k+1)=33*k+33 from by omega],I.o.2.1.does I.o.1 _ _ _ _,(Qxq e _ _ _ _).trans I.o.2.2⟩);have ew:IntKind.i64.wrap ((k:Int)+1)=(k:Int)+1:=by rw[IntWalk.i64_in _ (by have:=ab.o;omega)]
     have i0:(0:Int)≤(k:Int):=by omega
     have i1:(k:Int)<(l.length:Int):=by omega
     obtain⟨er,a1⟩:=Zx (e.aY d.kind.toNat d.s d.p d.after);obtain⟨ed,bl⟩:=Zx (e.does d.kind.toNat d.s d.p d.after);obtain⟨st,bm⟩:=Zx (e.stopped);rw[←a1,←bm]at k5;rw[←a1]at k6;rw[←a1,←bl]at HD;rw[←bm]at cb;rw[←bl]at cd;have km:d.kind.tmod 7=d.kind%7:=Int.tmod_eq_emod_of_nonneg af.1;have cs:(er=261∧st=true)∨(er≠261∧st=false)∨(er≠261∧st=true∧decide (d.kind.tmod 7<5)=false):=by
      by_cases h5:d.kind%7<5
      ·have h:=k5 h5;cases st with
       |true=>exact .inl ⟨h.mpr rfl,rfl⟩
       |false=>exact .inr (.inl ⟨fun h2=>by rw[h2]at h;exact absurd (h.mp rfl) (by decide),rfl⟩)
      ·have h:=k6 h5;cases st with
       |true=>exact .inr (.inr ⟨by rw[h];decide,rfl,by rw[km];simpa using h5⟩)
       |false=>exact .inr (.inl ⟨by rw[h];decide,rfl⟩)
     clear a1 bl bm k5 k6 km hj af a2;have dk:=O cs;clear cs;go_wp2_with fail;refine Zo cb ?_;rintro r w4⟨rfl,c4⟩;have dn:=O (HL.o w4 c4);have dm:=O (HD.o w4 c4);have S5:=O (S4.o.aB c4);clear c4;go_wp2_with (with_reducible refine wpList_load_mid rfl 33 (.tmp 44) rfl g (o+k*20) rfl d.cells _ dn.o underlying33 rfl (by kernel_rfl) ?_);refine Zo dm ?_;rintro r w5⟨rfl,h5,c5⟩;have S6:=O (S5.o.step h5 c5);have z0:=HK.o w5 (CV.o.aA S6.o.chg);have FF:=O (cd.o _ _ S6.o);clear h5 c5;go_upto_region 14 with fail;go_cut [59] (fun ec wz=>ec=.bool false∧wz=w5)
     case first=>
      rcases dk.o with⟨rfl,rfl⟩|⟨h1,rfl⟩|⟨h1,rfl,h2⟩;·go_wp2_with fail;go_meet;exact⟨rfl,rfl⟩
      ·have q1:(er==261)=false:=by simpa using h1
       have q2:decide (er=261)=false:=by simpa using h1
       clear h1;go_wp2_with fail;go_meet;exact⟨rfl,rfl⟩
      ·have q1:(er==261)=false:=by simpa using h1
       have q2:decide (er=261)=false:=by simpa using h1
       clear h1;go_wp2_with fail;go_meet;exact⟨rfl,rfl⟩
     case rest=>
      obtain⟨rfl,rfl⟩:=hcut;go_wp2;go_roundw;case measure=>simp only[intOf];omega
      case rel=> obtain⟨e',G',f1,f2,f3,f4⟩:=FF.o;exact⟨k+1,e',G',by rw[←Int.natCast_one,←Int.natCast_add],by omega,f1,f2,f3,f4⟩
    ·obtain⟨hd,d6⟩:=ZN (show¬k<l.length by omega);clear a2;go_wp2_with fail;have bo:=O (Qyz S4.o.is I.o.1 (by have:=ab.o;omega) I.o.2.1 1073741824);have az:=Qxx I.o.1 (til:=1073741824) (by have:=I.o.2.2;have:=HB.o;omega);rw[I.o.2.2]at az;obtain⟨J,a0⟩:=Zx (e.adv 1073741824);have K:Hi (V4 (33*k) J∧UOk J):=O (by rw[a0];exact⟨I.o.1.adv _,I.o.2.1.adv I.o.1 _⟩);obtain⟨ea,cu⟩:=Zx (e.advE 1073741824);rw[←a0]at az;rw[←a0,←cu]at bo;have ah:=O az;have KB:Hi (33*k≤6600):=O (by have:=ab.o;omega);have dl:Hi (∀w' G,GE V w' G b J→ZW 10 #[ZP b] w' (.bool true) fun E=>Qc Qb w' E):=O (fun w' G h=>by
      obtain⟨A,hA⟩:=h.is;have:=Qyy hA.blk.1;rw[ah.o.1]at this;exact this)
     have b7:Hi (∀w' G,GE V w' G b J→ZW 13 #[ZP b] w' (ZU H) fun E=>w'=E):=O (fun w' G h=>by
      obtain⟨A,hA⟩:=h.is;have:=Qzn hA.blk.1;rw[ah.o.2.1]at this;exact this)
     have SL:Hi (J.sent.length<1099511627776):=O (by obtain⟨N,_,h⟩:=K.o.1.sok;have:=KB.o;omega);have ca:Hi (∀w' G,GE V w' G b J→Cl 14 #[ZP b] w' fun r E=>∃v',r=.returned v'∧SAp E G v' J.sent∧Qc Qb w' E):=O (fun w' G h=>by
      have d5:=Qxn.obj.bd h.is;obtain⟨A,hA⟩:=h.is;refine(Qzw hA SL.o).mono ?_;rintro r w2⟨v',h1,h2,h3,h4⟩;exact⟨v',h1,⟨h2,fun k hk hg=>by have:=h4 k hk;have:=d5 k hg;omega⟩,h3⟩)
     obtain⟨n0,n1,n2,n3,n4,n5,n6,n7,cw⟩:=eight (K.o.1.book.get 0).1;have b8:Hi (∀w' G,GE V w' G b J→ZW 15 #[ZP b,ZI 0] w' (.agg (stN n0 n1 n2 n3 n4 n5 n6 n7)) fun E=>Qc Qb w' E):=O (fun w' G h=>by
      obtain⟨A,hA⟩:=h.is;have:=Qzo hA K.o.1.book 0;rw[cw]at this;exact this)
     obtain⟨N,hN⟩:∃N,Xp N J.sched∧N<549755813000:=by obtain⟨N,h1,h2⟩:=K.o.1.sok;exact⟨N,h1,by have:=KB.o;omega⟩
     have b9:Hi (∀w' G,GE V w' G b J→Cl 16 #[ZP b] w' fun r E=>∃p,r=.returned (ZP p)∧Qt E (Qn Qb w' E) p J.sched∧Qc Qb w' E):=O (fun w' G h=>by
      obtain⟨A,hA⟩:=h.is;exact Q0n hA hN.1 hN.2)
     have bg:Hi (∀w' F p,Qt w' F p J.sched→ZW 17 #[ZP p] w' (ZU J.sched.tick) fun E=>Qc Qb w' E):=O (fun w' F p h=>by
      obtain⟨A,hA⟩:=h;exact Qbo hA hN.1)
     have dj:Hi (∀w' G,GE V w' G b J→ZW 18 #[ZP b,ZU 1099511627776] w' (.tuple #[.agg ZH,.bool false]) fun E=>Qxn E (Qn G w' E) b J∧Qc G w' E):=O (fun w' G h=>by
      have:=Qzd h.is K.o.1 (by have:=KB.o;omega) K.o.2 1099511627776;rw[V3 ah.o.1]at this;exact this)
     have di:Hi (decide (x.kind.tmod 7<5)=true→∀w' G,GE V w' G b J→ZW 11 #[ZP b,.agg x.cells.toArray] w' (ZI 261) fun E=>Qxn E (Qn G w' E) b J∧Qc G w' E):=O (fun h5 w' G h=>by
      have d7:=HX.o.1;rw[Int.tmod_eq_emod_of_nonneg d7]at h5;simp only[decide_eq_true_eq]at h5;have:=Qzh h.is K.o.1 (by have:=KB.o;omega) K.o.2 x HX.o;rw[Q0y ah.o.1,(Qwj J x.kind.toNat x.s x.p x.after (by omega)).mpr ah.o.1]at this;exact this)
     obtain⟨tk,cz⟩:=Zx (J.sched.tick);rw[←cz]at bg;have eo:((H:Int) !=(H:Int))=false:=by simp
     have en:((H:Int)==(H:Int))=true:=by simp
     have ej:((tk:Int)==(tk:Int))=true:=by simp
     clear a0 cu az cw hN cz hk;refine Zo bo ?_;rintro r w5⟨rfl,h5,c5⟩;have S5:=O (S4.o.step h5 c5);have bw:=O (S5.o.chg.blk ar.o (fun h=>h));have da:=O (S5.o.chg.blk br.o (fun h=>h));clear h5 c5;generalize Qn G wr w5=G5 at S5;go_wp2_with fail;refine ZC [0,201,2,3,4,106,107,205,8,9] (fun wv=>Qc (Qb) (w5) wv) ?_;simp only[Z8,Zf,Ze,Zd];refine Xe (h:=?_);refine Yb ?_;go_wp2_with fail;refine(dl.o _ _ (S5.o.aB (Zg Qb w5).drew)).mono ?_;rintro r w6⟨rfl,c6⟩;have C6:Hi (Qc Qb w5 w6):=O (c6.aT);clear c6;go_wp2_with fail;refine⟨C6.o,?_⟩;iterate 3 (refine Xe (h:=?_))
     (refine Qy (h:=?_);try simp only[Act.put,Za,Zc,Zb]);iterate 1 (refine Qy (by kernel_rfl) (fun wv hv=>by(obtain⟨z0,z1,z2⟩:=L6 (hv.blk bw.o (fun h=>h)));go_simp;try rfl) ?_;try simp only[Act.put,Za,Zc,Zb])
     refine Yb ?_;go_wp2_with fail;refine(b7.o _ _ (S5.o.aB C6.o)).mono ?_;rintro r w7⟨rfl,rfl⟩;go_wp2_with fail;refine⟨C6.o,?_⟩;iterate 2 (refine Xe (h:=?_))
     refine Ky ?_;go_wp2_with fail;have S6:=O (S5.o.aB C6.o);have df:=O (C6.o.blk bw.o (fun h=>h));have db:=O (C6.o.blk da.o (fun h=>h));refine(ca.o _ _ S6.o).mono ?_;rintro r w8⟨v8,rfl,h8,c8⟩;have S8:=O (S6.o.aB c8);have dg:=O (c8.blk df.o (fun h=>h));have dc:=O (c8.blk db.o (fun h=>h));have V8:=O h8;clear h8 c8;go_wp2_with fail;refine(b8.o _ _ S8.o).mono ?_;rintro r w9⟨rfl,c9⟩;have S9:=O (S8.o.aB c9);have dh:=O (c9.blk dg.o (fun h=>h));have dd:=O (c9.blk dc.o (fun h=>h));have V9:=O (V8.o.aB c9);clear c9;go_wp2_with fail;refine(b9.o _ _ S9.o).mono ?_;rintro r ee⟨p,rfl,cn,ai⟩;have ce:=O (S9.o.aB ai);have bs:=O (ai.blk dh.o (fun h=>h));have bp:=O (ai.blk dd.o (fun h=>h));have dx:=O (V9.o.aB ai);have dv:=O cn;clear cn ai;go_wp2_with fail;refine(bg.o _ _ _ dv.o).mono ?_;rintro r aq⟨rfl,bk⟩;obtain⟨av,ac⟩:=Zx (aq.alloc (.cells (stN n0 n1 n2 n3 n4 n5 n6 n7) 46));have aj:Qc Qb ee av:=by rw[ac];exact bk.alloc _
     have cf:=O (ce.o.aB aj);have ei:=O (aj.blk bs.o (fun h=>h));have eh:=O (aj.blk bp.o (fun h=>h));have dy:=O (dx.o.aB aj);have a3:Hi (Qh av aq.heap.size (stN n0 n1 n2 n3 n4 n5 n6 n7) 46):=O (by rw[ac];exact Qh.new _ _ _);have a7:Hi (¬G5 aq.heap.size):=O (fun hk=>by have:=Qxn.obj.bd ce.o.is _ hk;have:=bk.size;omega);have cc:=O ac;clear bk aj ac;go_wp2_with fail;rw[←cc.o];refine(dj.o _ _ cf.o).mono ?_;rintro r aa⟨rfl,co,ax⟩;have au:=O (cf.o.step co ax);have bt:=O (au.o.chg.blk ar.o (fun h=>h));have bq:=O (au.o.chg.blk br.o (fun h=>h));have bz:=O (ax.blk a3.o a7.o);have a8:Hi (¬Qn G5 av aa aq.heap.size):=O (fun hk=>hk.elim a7.o (fun h=>by have:=a3.o.lt;omega));have cg:=O (dy.o.step ax);clear co ax;generalize Qn G5 av aa=ek at au cg a8;obtain⟨d4,ap⟩:=Zx (aa.alloc (.cells ZH 53));have ak:Qc Qb aa d4:=by rw[ap];exact(Zg _ _).alloc _
     have bj:=O (au.o.aB ak);have bu:=O (ak.blk bt.o (fun h=>h));have a4:=O (ak.blk bz.o (fun h=>h));have ch:=O (cg.o.aB ak);have a6:=O ap;obtain⟨e0,e1,e2,e3,e4,e5,e6,e7,e8⟩:=Av (show Qh (aa.alloc (.cells ZH 53)) aa.heap.size ZH 53 from Qh.new _ _ _);have bb:=bq.o.alloc (.cells ZH 53);have x0:=bb.at 0 (show x.cells.toArray[0]? =some (.int .u8 x.kind)from rfl);have dp:Hi ((aa.alloc (.cells ZH 53)).rangeAt (W.heap.size+1) 0 x.cells):=O (fun j u hu=>by rw[Nat.zero_add];exact bb.at j (by simpa using hu));clear ap ak bb;go_upto_region 21 with fail;go_cut [101] (fun c0 wz=>c0=.bool false∧∃bi,GE V wz bi b J∧Qh wz W.heap.size (Q0m z B H) 24∧Qh wz aq.heap.size (stN n0 n1 n2 n3 n4 n5 n6 n7) 46∧SAp wz bi v8 J.sent)
     case first=>
      by_cases h5:decide (x.kind.tmod 7<5)=true
      ·have b6:=O (di.o h5);go_wp2_with (with_reducible refine Qze (by kernel_rfl) 33 (.tmp 5) rfl (W.heap.size+1) 0 rfl x.cells _ dp.o underlying33 rfl (by kernel_rfl) ?_);try rw[←a6.o]
       clear x0 e0 e1 e2 e3 e4 e5 e6 e7 e8;refine(b6.o _ _ bj.o).mono ?_;rintro r aw⟨rfl,cp,ay⟩;have R:=O (bj.o.step cp ay);have dr:=O (Zt (R.o.chg.blk ar.o (fun h=>h)) (Zt (ay.blk a4.o a8.o) (ch.o.step ay)));clear cp ay;go_wp2_with fail;go_meet;exact⟨rfl,_,R.o,dr.o⟩
      ·have em:decide (x.kind.tmod 7<5)=false:=by simpa using h5
       clear h5;go_wp2_with fail;try rw[←a6.o]
       go_meet;exact⟨rfl,_,bj.o,bu.o,a4.o,ch.o⟩
     case rest=>
      obtain⟨rfl,bi,am,al,an,ao⟩:=hcut;obtain⟨aw,a9⟩:=Zx wc;rw[←a9]at am al an ao⊢;have R:=O am;have bv:=O al;have b3:=O an;have dz:=O ao;clear a9 am al an ao x0 e0 e1 e2 e3 e4 e5 e6 e7 e8;go_wp2_with fail;refine ZC [0,102,201,203,4,5,107,206,8,9,10,11,113,114,212,15,16,17,18,121,219,220,22,23,324] (fun wv=>Qc (Qb) (aw) wv) ?_;simp only[Z8,Zf,Ze,Zd];refine Xe (h:=?_);(refine Qy (h:=?_);try simp only[Act.put,Za,Zc,Zb]);refine Yb ?_;go_wp2_with fail;refine(ca.o _ _ (R.o.aB (Zg Qb aw).drew)).mono ?_;rintro r eg⟨ep,rfl,cq,ci⟩;have bd:Hi (Qc Qb aw eg):=O (ci.aT);have d3:=O cq;clear cq ci;go_wp2_with fail;refine⟨bd.o,?_⟩;refine Yb ?_;go_wp2_with fail;refine(Q0g SL.o d3.o.1 (dz.o.aB bd.o).1).mono ?_;rintro r eq⟨rfl,cj⟩;have be:=O (bd.o.aA cj);clear cj;go_wp2_with fail;refine⟨be.o,?_⟩;iterate 2 (refine Xe (h:=?_))
      iterate 1 (refine Qy (by kernel_rfl) (fun wv hv=>by(obtain⟨z0,z1,z2,z3,z4,z5,z6,z7⟩:=Ja (hv.blk b3.o (fun h=>h)));go_simp;try rfl) ?_;try simp only[Act.put,Za,Zc,Zb])
      refine Yb ?_;go_wp2_with fail;refine(b8.o _ _ (R.o.aB be.o)).mono ?_;rintro r es⟨rfl,ck⟩;have ag:=O (be.o.aA ck);clear ck;go_wp2_with fail;refine⟨ag.o,?_⟩;iterate 4 (refine Xe (h:=?_))
      (refine Qy (h:=?_);try simp only[Act.put,Za,Zc,Zb]);iterate 1 (refine Qy (by kernel_rfl) (fun wv hv=>by(obtain⟨z0,z1,z2⟩:=L6 (hv.blk bv.o (fun h=>h)));go_simp;try rfl) ?_;try simp only[Act.put,Za,Zc,Zb])
      refine Yb ?_;go_wp2_with fail;refine(b7.o _ _ (R.o.aB ag.o)).mono ?_;rintro r et⟨rfl,rfl⟩;go_wp2_with fail;refine⟨ag.o,?_⟩;iterate 4 (refine Xe (h:=?_))
      (refine Qy (h:=?_);try simp only[Act.put,Za,Zc,Zb]);refine Yb ?_;go_wp2_with fail;refine(b9.o _ _ (R.o.aB ag.o)).mono ?_;rintro r eu⟨p2,rfl,cr,cl⟩;have b4:=O (ag.o.aA cl);have dw:=O cr;clear cr cl;go_wp2_with fail;refine⟨b4.o,?_⟩;refine Yb ?_;go_wp2_with fail;refine(bg.o _ _ _ dw.o).mono ?_;rintro r ev⟨rfl,cm⟩;have b5:=O (b4.o.aA cm);clear cm;go_wp2_with fail;refine⟨b5.o,?_⟩;iterate 2 (refine Xe (h:=?_))
      refine Km ?_;go_wp2_with fail;refine Ky ?_;go_wp2;go_ret;exact⟨rfl,(CV.o.aA R.o.chg).aA b5.o⟩
  ·refine(dt.o _ hE).mono ?_;rintro r w3⟨rfl,c3⟩;have C3:=O (CV.o.aA c3);have hz:(Qxy z B H==0)=false:=by simp[hE]
   have d9:decide (Qxy z B H=0)=false:=by simp[hE]
   have eb:(Qxy z B H != 0)=true:=by simp[hE]
   clear c3 hE;generalize Qxy z B H=er at hz d9 eb⊢;go_wp2;go_ret;exact⟨rfl,C3.o⟩
end
theorem Uv{n:Int}(h:(Lit.int .u64 n).wf=true):∃k:Nat,n=(k:Int)∧k<18446744073709551616:=by
 refine⟨n.toNat,?_⟩;simp[Lit.wf]at h;have c:IntKind.u64.min=0:=by kernel_rfl
 have d:IntKind.u64.max=18446744073709551615:=by kernel_rfl
 omega
theorem Qum{n:Int}(h:(Lit.int .u8 n).wf=true):0≤n∧n<256:=by
 simp[Lit.wf]at h;have c:IntKind.u8.min=0:=by kernel_rfl
 have d:IntKind.u8.max=255:=by kernel_rfl
 omega
def Al:List (Option IntKind):=[some .u8,some .i64,some .i64,none,some .u64,some .u64,some .u64,some .u64,some .u64,some .u64,some .u64,some .u64,some .u64,some .i64,some .i64,some .u64,some .i64,some .i64,some .u64,some .u64]
theorem Yy.of_fits{x:List Value}(h:O2 Al x):∃a:Yy,x=a.cells∧a.wf:=by unfold Al at h;obtain⟨k,y0,rfl,wk,h1⟩:=h.int1;obtain⟨v0,y1,rfl,_,h2⟩:=h1.int1;obtain⟨v1,y2,rfl,_,h3⟩:=h2.int1;obtain⟨v2,y3,rfl,h4⟩:=h3.bool1;obtain⟨u4,y4,rfl,w4,h5⟩:=h4.int1;obtain⟨v3,rfl,_⟩:=Uv w4;clear w4;obtain⟨u5,y5,rfl,w5,h6⟩:=h5.int1;obtain⟨v4,rfl,_⟩:=Uv w5;clear w5;obtain⟨u6,y6,rfl,w6,h7⟩:=h6.int1;obtain⟨v5,rfl,_⟩:=Uv w6;clear w6;obtain⟨u7,y7,rfl,w7,h8⟩:=h7.int1;obtain⟨v6,rfl,_⟩:=Uv w7;clear w7;obtain⟨u8,y8,rfl,w8,h9⟩:=h8.int1;obtain⟨v7,rfl,_⟩:=Uv w8;clear w8;obtain⟨u9,y9,rfl,w9,z⟩:=h9.int1;obtain⟨v8,rfl,_⟩:=Uv w9;clear w9;obtain⟨u10,ac,rfl,c,B⟩:=z.int1;obtain⟨v9,rfl,_⟩:=Uv c;clear c;obtain⟨u11,ae,rfl,d,E⟩:=B.int1;obtain⟨v10,rfl,_⟩:=Uv d;clear d;obtain⟨u12,af,rfl,q,I⟩:=E.int1;obtain⟨v11,rfl,_⟩:=Uv q;clear q;obtain⟨v12,ag,rfl,_,J⟩:=I.int1;obtain⟨v13,ah,rfl,_,K⟩:=J.int1;obtain⟨p0,ai,rfl,_,R⟩:=K.int1;obtain⟨p1,aj,rfl,_,U⟩:=R.int1;obtain⟨p2,ak,rfl,_,V⟩:=U.int1;obtain⟨p3,al,rfl,_,Z⟩:=V.int1;obtain⟨u19,am,rfl,u,aa⟩:=Z.int1;obtain⟨va,rfl,ab⟩:=Uv u;clear u;have hz:=aa.nil0;subst hz;exact⟨⟨k,⟨v0,v1,v2,⟨v3,v4,v5⟩,⟨v6,v7,v8⟩,⟨v9,v10,v11⟩,v12,v13⟩,⟨p0,p1,p2,p3⟩,va⟩,rfl,(Qum wk).1,(Qum wk).2,ab⟩
theorem own:ownKnob prog.godebug=none:=by kernel_rfl
def Qzk:List (Option IntKind):=[some .u64,some .i64,some .u64]
theorem Qz7{x:List Value}(h:O2 Qzk x):∃(c:Nat)(k:Int)(d:Nat),x.toArray=#[ZU c,ZI k,ZU d]∧c<18446744073709551616∧d<18446744073709551616:=by unfold Qzk at h;obtain⟨u0,I,rfl,w0,z⟩:=h.int1;obtain⟨u1,J,rfl,_,B⟩:=z.int1;obtain⟨u2,K,rfl,w2,E⟩:=B.int1;have:=E.nil0;subst this;obtain⟨v0,rfl,q⟩:=Uv w0;obtain⟨v2,rfl,u⟩:=Uv w2;exact⟨v0,u1,v2,rfl,q,u⟩
theorem Q1n:O9 prog 5 24=some Qzk:=by kernel_rfl
theorem Q07:O9 prog 5 33=some Al:=by kernel_rfl
end Go.Proofs.YtigcnnkagkbflaaGreat
