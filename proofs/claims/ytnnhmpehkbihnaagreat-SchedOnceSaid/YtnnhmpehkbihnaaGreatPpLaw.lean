/- The statement SchedOnce holds for every input: no condition. -/
import Derived.Test.YtnnhmpehkbihnaaGreatPp29
import Derived.Deep.MidRow
namespace Go.Proofs.YtnnhmpehkbihnaaGreat
set_option linter.unusedVariables false
set_option maxRecDepth 100000
set_option maxHeartbeats 4000000
open Go.RowKit
open Go.Proofs.Tryz
section
attribute [local go_sem] Qq
attribute [local go_sem ↓] Xe Xn
attribute [local irreducible] Y4 Jm Jw
section
variable{w:World}{F:Fp}{b:Nat}{s:Qg}{N:Nat}
theorem Qo0(h:Ja w F b s)(ok:X6 N s)(hb:∀c∈s.tree,c.sp.id<64)(hN:N<549755813000)(a:Yg)(hw:a.wf)(K:a.kind%6=3):
  Cl 29 #[ptr b,.agg a.cells.toArray] w fun e w'=>e=.returned (.tuple #[])∧∃s',Ja w' (Qn F w w') b s'∧X6 (N+16) s'∧(∀c∈s'.tree,c.sp.id<64)∧Qc F w w':=by
 obtain⟨sb,us,now,ps,h,am,ai⟩:=h;obtain⟨m,hm,i1,i2,i3⟩:=Qvb a.s.id;replace i1:∀x,x=a.s.id→(IntKind.u64.wrap x).tmod 63=(m:Int):=fun x e=>by rw[e];exact i1
 obtain⟨W,W1,W2,F2,d,PP⟩:=Ev h am a m;obtain⟨hW,a1,af,c19,e1,hW1,k0,k1,kf,hW2,k2,U,an,aa,ab,ar,E⟩:=PP;have al:∀w' s',Ja w' (Qn F2 W2 w') b s'→Qc F2 W2 w'→Ja w' (Qn F w w') b s'∧Qc F w w':=fun w' s' g c=>E w' s' g (c.sub fun k K=>.inl K);have a4:=an.keep (Qc.refl Qb W2).drew (Je.none F2);have a2:=(Qc.refl Qb W2).drew.blk aa (fun h=>h);have D2:=O (Qc.refl Qb W2).drew;obtain⟨n,hn,j1,j2,j3⟩:=Qvb a.p.cls;replace j1:∀x,x=a.p.cls→(IntKind.u64.wrap x).tmod 63=(n:Int):=fun x e=>by rw[e];exact j1
 have J:=O (And.intro (And.intro i1 (And.intro i2 i3)) (And.intro j1 (And.intro j2 j3)));clear i1 i2 i3 j1 j2 j3;obtain⟨q,hq⟩:∃q:Z4,q=⟨a.p.id,1+(n:Int),a.p.len,a.p.at_⟩:=⟨_,rfl⟩;have a6:W1.cell? ⟨w.heap.size,16,none⟩=some (.int .i64 a.p.cls):=U.at 16 rfl;have aw:=U.frozen 16;obtain⟨R,ag⟩:=Zx (W2.setCell ⟨w.heap.size,16,none⟩ (.int .i64 (1+(n:Int))));have ak:Qc (fun k=>k=w.heap.size) W2 R:=by rw[ag];exact(Qc.refl (fun k=>k=w.heap.size) W2).setCell (a:=⟨w.heap.size,16,none⟩) _ (.inl rfl)
 have av:=an.keep ak (fun k K e=>ab (e▸K));have Z:Qh R w.heap.size ((a.withId (1+(m:Int))).withCls (1+(n:Int))).cells.toArray 74:=by rw[ag];exact aa.set' 16 (.int .i64 (1+(n:Int))) rfl
 have ah:=av.keep (Qc.refl Qb R).drew (Je.none F2);have z:=(Qc.refl Qb R).drew.blk Z (fun h=>h);have Jl:w.heap.size<W2.heap.size:=aa.lt;have ay:Bd F2 W2:=an.bd;have B:∀w' s',Ja w' (Qn F2 R w') b s'→Qc F2 R w'→Ja w' (Qn F w w') b s'∧Qc F w w':=fun w' s'⟨a9,bd,n',bg,hg,bf,ba⟩hc=>by
  have z3:=ak.size;have z4:=hc.size;have e:R.heap.size=W2.heap.size:=by rw[ag];simp
  have cc:Qc (fun k=>F2 k∨k=w.heap.size) W2 w':=(ak.sub fun k e=>.inr e).trans' (hc.sub fun k K=>.inl K);exact E w' s' ⟨a9,bd,n',bg,hg.more (fun k K=>K.elim .inl (fun K=>.inr ⟨by omega,K.2⟩)) (fun k K=>K.elim (fun K=>by have:=ay k K;omega) (fun K=>K.2)),bf,ba⟩ cc
 have HC:Hid (Cl 28 #[ptr sb,.agg #[.int .u64 (q.id:Int),.int .i64 q.cls,.int .i64 q.len,.int .u64 (q.at_:Int)],.int .u64 (d:Int)] R.drew fun e w'=>e=.returned (.int .i64 (s.pushE q))∧Jv sb us us w' (Qn F2 R w') b (s.push q d) d true ps∧Qc F2 R w'):=O (by
  obtain⟨G,hS,hG,ae,ao⟩:=ah.sched;refine(Qhx hS ok hN q d (by omega)).mono ?_;rintro e w3⟨rfl,h3,c3⟩;obtain⟨m1,m2⟩:=ao w3 _ h3 c3;exact⟨rfl,m1,m2.undrew⟩)
 have aq:Hid (∀c∈(s.push q d).tree,c.sp.id<64):=O (fun c hc=>hb c (by rw[←Quw q d];exact hc));have e4:(a.kind.tmod 6==0)=false∧(a.kind.tmod 6==1)=false∧(a.kind.tmod 6==2)=false∧a.kind.tmod 6=3:=by rw[Int.tmod_eq_emod_of_nonneg hw.1];simp;omega
 obtain⟨e4,e5,e6,e7⟩:=e4;have a7:=O (fun w3(c3:Qc F2 R w3)=>c3.blk Z ab);have b0:R.drew.cell? ⟨b,0,none⟩=some (ptr sb):=ah.blk.1.at 0 rfl;have b1:R.drew.cell? ⟨b,1,none⟩=some (.int .u64 (d:Int)):=ah.blk.1.at 1 rfl;have x0:R.drew.cell? ⟨w.heap.size,15,none⟩=some (.int .u64 a.p.id):=z.at 15 rfl;have x1:R.drew.cell? ⟨w.heap.size,16,none⟩=some (.int .i64 (1+(n:Int))):=z.at 16 rfl;have x2:R.drew.cell? ⟨w.heap.size,17,none⟩=some (.int .i64 a.p.len):=z.at 17 rfl;have x3:R.drew.cell? ⟨w.heap.size,18,none⟩=some (.int .u64 a.p.at_):=z.at 18 rfl;clear a4 a2 ah z;by_cases h0:s.pushE q=0
 ·have au:Hid (X6 (N+16) (s.push q d)):=O (ok.push d h0);have H0:=O h0;rw[h0]at HC;clear h0;have az:q.cls=1+(n:Int):=by rw[hq]
  have V:((1+n:Nat):Int)=1+(n:Int):=by omega
  have n1:1≤1+n:=Nat.le_add_right 1 n;have n2:1+n<64:=Nat.add_lt_add_left hn 1;have ax:(ps (1+n)).length+1≤4096:=by rw[ai (1+n) n1 n2,V,←az];obtain⟨c,l,hc,bi,_,hl,hr⟩:=Qbm H0.out;rw[U8 hl];obtain⟨lk,bj,_⟩:=ok.at hl;obtain⟨c',bh,a8,e1,_⟩:=lk.sp;have:=(Qhf (ok.tree.may c' (Qm.at_mem bh).1) a8).2.1;have h1:=lk.many;have h2:¬l.q.length=l.pk:=fun e=>hr (.inl e);clear hr;omega
  have a5:=O ax;have a3:Hid (∀I,Jv sb us us I (Qn F2 R I) b (s.push q d) d true ps→Qc F2 R I→∃G:Fp,¬G b∧¬G w.heap.size∧∃(ra:Option Addr)(rl rc:Nat)(w6:World),(Builtin.append_ #[27,27] 27 #[us (1+n),.slice (some ⟨I.heap.size,0,none⟩) 1 1]).run prog ((I.alloc (.cells #[.int .u64 a.p.id,.int .i64 (1+(n:Int)),.int .i64 a.p.len,.int .u64 a.p.at_] 34)).drew)=.ok (.slice ra rl rc) w6∧Qc G I w6∧
    Ja (w6.setCell ⟨b,2+(1+n),none⟩ (.slice ra rl rc)) (Qn F w (w6.setCell ⟨b,2+(1+n),none⟩ (.slice ra rl rc))) b (s.push q d)∧Qc F w (w6.setCell ⟨b,2+(1+n),none⟩ (.slice ra rl rc))):=O (fun I h4 c4=>by
   obtain⟨G,hp,bb,ae,ao⟩:=h4.rowOf (c:=1+n) n2;have z4:=c4.size;have z3:=ak.size;have bc:Qc Qb I ((I.alloc (.cells #[.int .u64 a.p.id,.int .i64 (1+(n:Int)),.int .i64 a.p.len,.int .u64 a.p.at_] 34)).drew):=((Qc.refl Qb I).alloc _).drew;have be:Qh ((I.alloc (.cells #[.int .u64 a.p.id,.int .i64 (1+(n:Int)),.int .i64 a.p.len,.int .u64 a.p.at_] 34)).drew) I.heap.size #[.int .u64 a.p.id,.int .i64 (1+(n:Int)),.int .i64 a.p.len,.int .u64 a.p.at_] 34:=(Qh.new I _ _).drew;obtain⟨v',w6,r6,p6,c6⟩:=hp.append a5.out q _ bc (a:=⟨I.heap.size,0,none⟩) (c:=1) (fun j u hu=>by
    rw[Addr.add_lit,Nat.zero_add,be.cell];rw[hq]at hu;simpa[Z4.cells]using hu) 27
   obtain⟨ra,rc,hv,_⟩:=p6.row;subst hv;obtain⟨m1,m2⟩:=h4.putRow (c:=1+n) n2 ao p6 c6;have c7:Qc F2 R (w6.setCell ⟨b,2+(1+n),none⟩ (.slice ra (ps (1+n)++[q]).length rc)):=c4.trans m2 (fun k K=>K.elim .inl (fun K=>.inr K.1));refine⟨G,ae,fun K=>(bb _ K).elim ab (fun e=>by omega),ra,_,rc,w6,r6,c6,?_⟩;refine B _ _ ⟨sb,upd us (1+n) _,d,upd ps (1+n) (ps (1+n)++[q]),m1.more (fun k K=>Qn.trans c4.size m2.size k K) (av.bd.ext c7),ar,fun c h1 h2=>?_⟩ c7;rw[Qxa ok d H0.out,az];by_cases e:c=1+n;·subst e;rw[Qh0,V,if_pos rfl,ai (1+n) n1 n2,V]
   ·rw[Qh1 _ _ e,if_neg (by omega),ai c h1 h2])
  generalize s.push q d=s2 at HC au aq a3;rw[hq]at HC;clear H0 hq az B av Z ak a5 ax n1 n2 V ay Jl;obtain⟨⟨i1,i2,i3⟩,j1,j2,j3⟩:=J.out;have HB:=O hb;have OK:=O ok;clear an U aa ab al E ar ai h ok hb;unfold ptr at*;unfold Yg.cells at hW;unfold Yg.cells;go_enter func29,ntmps29;go_wp2_with fail;rw[←hW];clear hW k2;refine Qi [(0,0),(0,1),(0,2),(0,3),(0,4),(0,5),(0,6),(0,7),(0,8),(0,9),(0,10),(0,11),(2,12)] (by kernel_rfl) (by kernel_rfl) ?_ ?_;·exact fun _ _ _ _ _ h=>h
  simp only[Zs,Zf,Ze,Zd];iterate 6 (refine Zz (by kernel_rfl) (by go_simp;try with_reducible rfl) ?_)
  try simp only[Act.put,Za,Zc,Zb]
  iterate 6 (refine Zz (by kernel_rfl) (by go_simp;try with_reducible rfl) ?_)
  try simp only[Act.put,Za,Zc,Zb]
  refine Jj ?_;go_wp2_with fail;refine Zu ?_;first|rw[←hW1]|rw[e1,←hW1]
  clear hW1 e1 am a1 c19 af;go_wp2_with fail;rw[←hW2];clear hW2 k0 k1 kf;rw[←ag];clear ag a6 aw;refine Qi [(0,0),(0,1),(0,2),(0,3),(0,4),(0,5),(0,6),(0,7),(0,8),(0,9),(2,10),(0,11)] (by kernel_rfl) (by kernel_rfl) ?_ ?_;·exact fun _ _ _ _ _ h=>h
  simp only[Zs,Zf,Ze,Zd];iterate 5 (refine Zz (by kernel_rfl) (by go_simp;try with_reducible rfl) ?_)
  try simp only[Act.put,Za,Zc,Zb]
  iterate 5 (refine Zz (by kernel_rfl) (by go_simp;try with_reducible rfl) ?_)
  try simp only[Act.put,Za,Zc,Zb]
  clear x0 x1 x2 x3 b0 b1;refine Jj ?_;go_wp2_with fail;refine HC.out.mono ?_;rintro e I⟨rfl,h4,c4⟩;obtain⟨G,ae,aj,ra,rl,rc,w6,r6,c6,g6,d6⟩:=a3.out I h4 c4;have FF:=O (And.intro g6 d6);have C6:=O c6;have a0:=O h4.blk.1;have ap:=O (a7.out I c4);have NG:=O (And.intro ae aj);obtain⟨v,hv⟩:=Zx (us (1+n));have ac:=O (fun(wv:World)(c:Qc G I wv)=>(show wv.cell? ⟨w.heap.size,16,none⟩=some (.int .i64 (1+(n:Int)))∧wv.cell? ⟨b,2+(1+n),none⟩=some v from⟨(c.blk ap.out NG.out.2).at 16 rfl,by rw[hv];exact(c.blk a0.out NG.out.1).at _ (Ou _ _ _ _ (by omega))⟩));have D4:=O (Qc.refl G I).drew;have x0:I.drew.cell? ⟨w.heap.size,15,none⟩=some (.int .u64 a.p.id):=(D4.out.blk ap.out aj).at 15 rfl;have x1:I.drew.cell? ⟨w.heap.size,16,none⟩=some (.int .i64 (1+(n:Int))):=(D4.out.blk ap.out aj).at 16 rfl;have x2:I.drew.cell? ⟨w.heap.size,17,none⟩=some (.int .i64 a.p.len):=(D4.out.blk ap.out aj).at 17 rfl;have x3:I.drew.cell? ⟨w.heap.size,18,none⟩=some (.int .u64 a.p.at_):=(D4.out.blk ap.out aj).at 18 rfl;have y6:=(c6.blk a0.out ae).frozen (2+(1+n));obtain⟨u6,bk⟩:∃u,w6.cell? ⟨b,2+(1+n),none⟩=some u:=⟨_,(c6.blk a0.out ae).at _ (Ou _ _ _ _ (by omega))⟩;rw[←hv]at r6;have k0:(0:Int)≤1+(n:Int):=by omega
  have k1:1+(n:Int)<64:=by omega
  have k2:(1+(n:Int)).toNat=1+n:=by omega
  clear h4 c4 HC a3 g6 d6 c6 ae aj hv;go_wp2_with fail;refine Zz (by kernel_rfl) (by go_simp;try with_reducible rfl) ?_;try simp only[Act.put,Za,Zc,Zb]
  refine Zu ?_;go_wp2_with fail;refine Z9 [(1,0),(1,1),(1,2),(1,3),(1,4),(1,5),(1,6),(1,7),(1,8),(1,9),(1,10),(1,11),(0,12),(0,13),(1,16),(1,17),(2,14),(2,15),(0,18),(3,19)] (fun wv=>Qc (G) (I) wv) (by kernel_rfl) (by kernel_rfl) ?_ (by(repeat' (first|(with_reducible first|exact Zg _ _|assumption|refine Zh ?_ _|refine Zi ?_ _|refine Zj ?_ |refine Zk ?_ _ ?_ |(apply Or.inl;rfl))|(apply Or.inl;simp;done)|(apply Or.inr;simp;first|done|omega)))) ?_;·exact fun _ _ _ _ _ h=>h
  simp only[Zs,Zf,Ze,Zd];iterate 3 (refine Q4 (by kernel_rfl) (fun wv hv=>by go_simp;try with_reducible rfl) ?_;try simp only[Act.put,Za,Zc,Zb])
  iterate 1 (refine Q4 (by kernel_rfl) (fun wv hv=>by(obtain⟨z0,z1⟩:=ac.out wv hv);go_simp;try with_reducible rfl) ?_;try simp only[Act.put,Za,Zc,Zb])
  iterate 3 (refine Q4 (by kernel_rfl) (fun wv hv=>by go_simp;try with_reducible rfl) ?_;try simp only[Act.put,Za,Zc,Zb])
  iterate 1 (refine Q4 (by kernel_rfl) (fun wv hv=>by(obtain⟨z0,z1⟩:=ac.out wv hv);go_simp;try with_reducible rfl) ?_;try simp only[Act.put,Za,Zc,Zb])
  iterate 3 (refine Q4 (by kernel_rfl) (fun wv hv=>by go_simp;try with_reducible rfl) ?_;try simp only[Act.put,Za,Zc,Zb])
  iterate 1 (refine Q4 (by kernel_rfl) (fun wv hv=>by(obtain⟨z0,z1⟩:=ac.out wv hv);go_simp;try with_reducible rfl) ?_;try simp only[Act.put,Za,Zc,Zb])
  try simp only[Act.put,Za,Zc,Zb]
  iterate 2 (refine Jr (by kernel_rfl) (by go_simp;try with_reducible rfl) ?_)
  iterate 2 (refine Q4 (by kernel_rfl) (fun wv hv=>by go_simp;try with_reducible rfl) ?_;try simp only[Act.put,Za,Zc,Zb])
  try simp only[Act.put,Za,Zc,Zb]
  refine Yc ?_;go_wp2_with fail;refine⟨D4.out.alloc _,?_⟩;refine Yc ?_;go_wp2_with (at_builtin;refine Lib.wpList_append_run _ rfl (.tmp 137) (.tmp 140) 27 27 rfl _ _ rfl rfl _ _ r6 ?_);clear r6;go_wp2_with fail;refine⟨C6.out,?_⟩;refine Jr (by kernel_rfl) (by go_simp;try with_reducible rfl) ?_;try simp only[Act.put,Za,Zc,Zb]
  refine V5 ?_;go_wp2_with fail;refine K8 ?_;go_wp2_with fail;exact bodyPost_end (results_none rfl _ _ _) rfl ⟨rfl,_,FF.out.1,au.out,aq.out,FF.out.2⟩
 ·rw[Qso h0]at HC aq;have LF:Hid (∀w3,Jv sb us us w3 (Qn F2 R w3) b s d true ps→Qc F2 R w3→Ja w3 (Qn F w w3) b s∧Qc F w w3):=O (fun w3 h3 c3=>B w3 _ ⟨sb,us,d,ps,h3,ar,ai⟩ c3);have au:Hid (X6 (N+16) s):=O (ok.more (Nat.le_add_right N 16));have e8:(s.pushE q==0)=false:=by simpa using h0
  generalize s.pushE q=er at HC e8;rw[hq]at HC;clear h0 hq B av Z ak ay Jl;obtain⟨⟨i1,i2,i3⟩,j1,j2,j3⟩:=J.out;have HB:=O hb;have OK:=O ok;clear an U aa ab al E ar ai h ok hb;unfold ptr at*;unfold Yg.cells at hW;unfold Yg.cells;go_enter func29,ntmps29;go_wp2_with fail;rw[←hW];clear hW k2;refine Qi [(0,0),(0,1),(0,2),(0,3),(0,4),(0,5),(0,6),(0,7),(0,8),(0,9),(0,10),(0,11),(2,12)] (by kernel_rfl) (by kernel_rfl) ?_ ?_;·exact fun _ _ _ _ _ h=>h
  simp only[Zs,Zf,Ze,Zd];iterate 6 (refine Zz (by kernel_rfl) (by go_simp;try with_reducible rfl) ?_)
  try simp only[Act.put,Za,Zc,Zb]
  iterate 6 (refine Zz (by kernel_rfl) (by go_simp;try with_reducible rfl) ?_)
  try simp only[Act.put,Za,Zc,Zb]
  refine Jj ?_;go_wp2_with fail;refine Zu ?_;first|rw[←hW1]|rw[e1,←hW1]
  clear hW1 e1 am a1 c19 af;go_wp2_with fail;rw[←hW2];clear hW2 k0 k1 kf;rw[←ag];clear ag a6 aw;refine Qi [(0,0),(0,1),(0,2),(0,3),(0,4),(0,5),(0,6),(0,7),(0,8),(0,9),(2,10),(0,11)] (by kernel_rfl) (by kernel_rfl) ?_ ?_;·exact fun _ _ _ _ _ h=>h
  simp only[Zs,Zf,Ze,Zd];iterate 5 (refine Zz (by kernel_rfl) (by go_simp;try with_reducible rfl) ?_)
  try simp only[Act.put,Za,Zc,Zb]
  iterate 5 (refine Zz (by kernel_rfl) (by go_simp;try with_reducible rfl) ?_)
  try simp only[Act.put,Za,Zc,Zb]
  clear x0 x1 x2 x3 b0 b1;refine Jj ?_;go_wp2_with fail;refine HC.out.mono ?_;rintro e w3⟨rfl,h3,c3⟩;have FF:=O (LF.out w3 h3 c3);clear h3 c3 HC;go_wp2_with fail;refine Zz (by kernel_rfl) (by go_simp;try with_reducible rfl) ?_;try simp only[Act.put,Za,Zc,Zb]
  refine Zu ?_;go_wp2_with fail;exact bodyPost_end (results_none rfl _ _ _) rfl ⟨rfl,_,FF.out.1,au.out,aq.out,FF.out.2⟩
end
end
section
attribute [local go_sem] Qq
attribute [local irreducible] Y4 Jm Jw
section
variable{w:World}{F:Fp}{b:Nat}{s:Qg}{N:Nat}
theorem Qrw(h:Ja w F b s)(ok:X6 N s)(q:∀c∈s.tree,c.sp.id<64)(k:N<549755813000)(a:Yg)(u:a.wf):
  Cl 29 #[ptr b,.agg a.cells.toArray] w fun e w'=>e=.returned (.tuple #[])∧∃s',Ja w' (Qn F w w') b s'∧X6 (N+16) s'∧(∀c∈s'.tree,c.sp.id<64)∧Qc F w w':=by
 have z:a.kind%6=0∨a.kind%6=1∨a.kind%6=2∨a.kind%6=3∨4≤a.kind%6:=by omega
 rcases z with d|d|d|d|d;·exact Qow h ok q k a u d
 ·exact Qoy h ok q k a u d
 ·exact Qoz h ok q k a u d
 ·exact Qo0 h ok q k a u d
 ·exact Qox h ok q k a u d
theorem Qka{w:World}:∀{L:List J7},(∀P∈L,P w fun _=>False)→Hu L w fun _=>False
 |[],_=>fun k c=>c.elim
 |P::L,h=>Zl (h P List.mem_cons_self) (Qka fun Q d=>h Q (List.mem_cons_of_mem _ d)) (fun k c=>c.elim) (fun k c=>c) (fun k c=>c) (fun k c=>c.elim)
theorem Ja.start{w w1:World}{sb:Nat}{most:Int}(h:Qs w1 (Qn Qb w w1) sb (Qg.new most))(z:Qc Qb w w1):
  Ja (w1.alloc (.cells (Y6 sb 0 (fun _=>.slice none 0 0) true) 32)) (Qn Qb w (w1.alloc (.cells (Y6 sb 0 (fun _=>.slice none 0 0) true) 32))) w1.heap.size (Qg.new most)∧Qc Qb w (w1.alloc (.cells (Y6 sb 0 (fun _=>.slice none 0 0) true) 32)):=by
 have q:Qc Qb w1 (w1.alloc (.cells (Y6 sb 0 (fun _=>.slice none 0 0) true) 32)):=(Qc.refl _ _).alloc _;have B:Qh (w1.alloc (.cells (Y6 sb 0 (fun _=>.slice none 0 0) true) 32)) w1.heap.size (Y6 sb 0 (fun _=>.slice none 0 0) true) 32:=Qh.new _ _ _;generalize w1.alloc (.cells (Y6 sb 0 (fun _=>.slice none 0 0) true) 32)=w2 at*;have s1:=z.size;have s2:=B.lt;have E:Qc Qb w w2:=z.trans' q;have u:Bd (Qn Qb w w2) w2:=fun k d=>((Qt k).1 d).2;refine⟨⟨sb,fun _=>.slice none 0 0,0,fun _=>[],?_,by omega,fun c _ _=>(O8 (s:=Qg.new most) rfl).symm⟩,E⟩;show Hu _ w2 _;unfold Qj5;refine Zl (G:=fun k=>k=w1.heap.size) (H:=Qn Qb w w1) ⟨B,rfl,fun k e=>e▸s2⟩ ?_ ?_ (fun k e=>(Qt k).2 (by omega)) (fun k d=>(Qt k).2 (by have:=(Qt k).1 d;omega)) u;·refine Zl (G:=Qn Qb w w1) (H:=fun _=>False) (Qs.obj.keep h q (Je.none _)) ?_ (fun k _ d=>d) (fun k d=>d) (fun k d=>d.elim) (fun k d=>by have:=(Qt k).1 d;omega);refine Qka fun P I=>?_;obtain⟨c,_,rfl⟩:=List.mem_map.1 I;exact Vu.nil (fun k d=>d.elim)
 ·intro k e d;have:=(Qt k).1 d;omega
theorem Qo1(sb:Nat):(Y6 sb 0 (fun _=>.slice none 0 0) true)=(Tryz.zeroCells32.setIfInBounds 0 (ptr sb)).setIfInBounds 66 (.bool true):=by kernel_rfl
theorem Qlv(most:Int)(l:List Yg)(a:Option Addr)(cap:Nat)(W:World)(k:most<1∨65536≤most):
  Cl 10 #[.int .i64 most,.slice a l.length cap] W fun e w'=>(e=.returned (.pointer none)∨∃q s,e=.returned (ptr q)∧Ja w' (Qn Qb W w') q s∧X6 2400 s∧(∀c∈s.tree,c.sp.id<64))∧Qc Qb W w':=by
 have u:=O (Qom most W k);clear k;go_enter func10,ntmps10;go_wp2_with fail;refine u.out.mono ?_;rintro e w1⟨rfl,d⟩;have z:=O d;clear d;go_wp2;go_ret;exact⟨.inl rfl,z.out⟩
theorem Qil(most:Int)(l:List Yg)(a:Option Addr)(cap:Nat)(W:World)(hl:l.length≤150)(hr:Yr Yg.cells 20 W a l)(hw:∀x∈l,x.wf)(hm:¬(most<1∨65536≤most)):
  Cl 10 #[.int .i64 most,.slice a l.length cap] W fun e w'=>(e=.returned (.pointer none)∨∃gb s,e=.returned (ptr gb)∧Ja w' (Qn Qb W w') gb s∧X6 2400 s∧(∀c∈s.tree,c.sp.id<64))∧Qc Qb W w':=by
 have HR:=O hr;have HW:=O hw;have R:=O (Qj0 most (by omega) (by omega) W);have ae:=O (X6.new (N:=0) (most:=most) (by omega) (by omega));clear hm hr hw;unfold ptr at*;go_enter func10,ntmps10;go_wp2_with fail;refine R.out.mono ?_;rintro e w1⟨sb,rfl,h1,c1⟩;obtain⟨W2,hW2⟩:=Zx (w1.alloc (.cells (Y6 sb 0 (fun _=>.slice none 0 0) true) 32));have ST:=O (Ja.start h1 c1);rw[←hW2]at ST;have I:=hW2;rw[Qo1]at I;clear h1 c1 R;unfold ptr at*;go_wp2_with fail;rw[←I];clear I hW2;go_loopw [8] (fun t8 wr=>∃(k:Nat)(s:Qg),t8=.int .i64 (k:Int)∧k≤l.length∧Ja wr (Qn Qb W wr) w1.heap.size s∧Qc Qb W wr∧X6 (16*k) s∧∀c∈s.tree,c.sp.id<64) (fun t8 _=>l.length-(intOf t8).toNat);case atStart=>exact⟨0,_,rfl,Nat.zero_le _,ST.out.1,ST.out.2,ae.out,nofun⟩
 case round=>
  obtain⟨k,s,rfl,J,hG,hc,K,E⟩:=hrel;have HC:=O hc;have HG:=O hG;have Z:=O K;have z:=O E;clear hc hG K E;by_cases d:k<l.length
  ·have hd:decide ((k:Int)<(l.length:Int))=true:=by simp;omega
   have ab:decide (k<l.length)=true:=by simpa using d
   have HP:=O (Qrw HG.out Z.out z.out (by omega) l[k] (HW.out _ (List.getElem_mem d)));obtain⟨g,o,rfl,hj⟩:=HR.out k d;have ai:IntKind.i64.wrap ((k:Int)+1)=(k:Int)+1:=by rw[IntWalk.i64_in _ (by omega)]
   have k0:(0:Int)≤(k:Int):=by omega
   have k1:(k:Int)<(l.length:Int):=by omega
   generalize V:l[k]=act at hj HP;have HL:=O (show wr.rangeAt g (o+k*20) act.cells from fun j u hu=>HC.out.same (hj j u hu));clear hj V;go_wp2_with (with_reducible refine wpList_load_mid rfl 74 (.tmp 28) rfl g (o+k*20) rfl act.cells _ HL.out underlying74 rfl (by kernel_rfl) ?_);generalize act.cells.toArray=ac at HP⊢;refine HP.out.mono ?_;rintro e w3⟨rfl,s3,g3,U,B,c3⟩;have q:=O (show Ja w3 (Qn Qb W w3) w1.heap.size s3∧Qc Qb W w3∧X6 (16*(k+1)) s3∧∀c∈s3.tree,c.sp.id<64 from by
    have cc:Qc Qb W w3:=HC.out.trans c3 (fun k J=>.inr ((Qt k).1 J).1);obtain⟨af,ag,n',aa,hg,ah,hq⟩:=g3;refine⟨⟨af,ag,n',aa,hg.more (fun k J=>Qn.trans HC.out.size c3.size k J) (fun k J=>((Qt k).1 J).2),ah,hq⟩,cc,?_,B⟩;rw[Nat.mul_add];exact U)
   clear g3 U B c3;go_wp2;go_roundw;case measure=>simp only[intOf];omega
   case rel=>exact⟨k+1,s3,by rw[←Int.natCast_one,←Int.natCast_add],by omega,q.out.1,q.out.2.1,q.out.2.2.1,q.out.2.2.2⟩
  ·have hd:decide ((k:Int)<(l.length:Int))=false:=by simp;omega
   have ab:decide (k<l.length)=false:=by simpa using d
   have q:=O (And.intro HG.out (And.intro (Z.out.more (show 16*k≤2400 by omega)) z.out));go_wp2;go_ret;exact⟨.inr ⟨_,s,rfl,q.out.1,q.out.2.1,q.out.2.2⟩,HC.out⟩
theorem Qim(most:Int)(l:List Yg)(a:Option Addr)(cap:Nat)(W:World)(hl:l.length≤150)(hr:Yr Yg.cells 20 W a l)(q:∀x∈l,x.wf):
  Cl 10 #[.int .i64 most,.slice a l.length cap] W fun e w'=>(e=.returned (.pointer none)∨∃k s,e=.returned (ptr k)∧Ja w' (Qn Qb W w') k s∧X6 2400 s∧(∀c∈s.tree,c.sp.id<64))∧Qc Qb W w':=by
 by_cases d:most<1∨65536≤most;·exact Qlv most l a cap W d
 ·exact Qil most l a cap W hl hr q d
end
end
section
variable{s:Qg}{N:Nat}
def Qg.fit(s:Qg)(i:Int):Nat:=s.pick.fitAt i
end
section
variable{p:Qe}{N:Nat}{dep:Int→Nat}
end
section
def Qzr:Xm:=⟨1,0,true,⟨0,0,256⟩,⟨0,0,0⟩,⟨0,0,0⟩,5,1000⟩
def Qzs:Xm:=⟨2,0,true,⟨0,0,0⟩,⟨0,0,256⟩,⟨0,0,0⟩,5,1000⟩
def Qeu:Z4:=⟨1,1,100,0⟩
def Qev:Z4:=⟨2,2,100,0⟩
def aw0:Qg:=.new 1500
def aw1:Qg:=aw0.add Qzr
def aw2:Qg:=aw1.add Qzs
def aw3:Qg:=aw2.push Qeu 0
def aw4:Qg:=aw3.push Qev 0
def aw5:Qg:=aw4.push Qeu 0
def aw6:Qg:=aw5.push Qev 0
def aw7:Qg:=(aw6.next 0).2
def aw8:Qg:=(aw7.next 1).2
def aw9:Qg:=(aw8.next 99).2
def aw10:Qg:=(aw9.next 99).2
def aw11:Qg:=(aw10.next 100).2
set_option maxRecDepth 100000
theorem Qz1:aw0.addE Qzr=0:=by decide+kernel
theorem Qz2:aw1.addE Qzs=0:=by decide+kernel
theorem Qz3:aw2.pushE Qeu=0:=by decide+kernel
theorem Qz4:aw3.pushE Qev=0:=by decide+kernel
theorem Qz5:aw4.pushE Qeu=0:=by decide+kernel
theorem Qz6:aw5.pushE Qev=0:=by decide+kernel
set_option maxRecDepth 100000
theorem Q0g:(aw6.next 0).1=some ⟨Qeu,1,100⟩:=by rfl
theorem Q0h:(aw7.next 1).1=some ⟨Qev,2,0⟩:=by rfl
theorem Q0i:(aw8.next 99).1=some ⟨Qev,2,0⟩:=by rfl
theorem Q0j:(aw9.next 99).1=none:=by rfl
theorem Q0k:aw10.tick=100:=by rfl
theorem Q0l:(aw10.next 100).1=some ⟨Qeu,1,200⟩:=by rfl
theorem Q0m:aw11.pushE ⟨0,9,5,0⟩=81:=by decide+kernel
theorem aw_ok0:X6 0 aw0:=X6.new (by decide) (by decide)
theorem aw_ok1:X6 0 aw1:=aw_ok0.add Qz1
theorem aw_ok2:X6 0 aw2:=aw_ok1.add Qz2
theorem aw_ok3:X6 16 aw3:=aw_ok2.push 0 Qz3
theorem aw_ok4:X6 32 aw4:=aw_ok3.push 0 Qz4
theorem aw_ok5:X6 48 aw5:=aw_ok4.push 0 Qz5
theorem aw_ok6:X6 64 aw6:=aw_ok5.push 0 Qz6
theorem aw_ok7:X6 80 aw7:=aw_ok6.next 0
theorem aw_ok8:X6 96 aw8:=aw_ok7.next 1
theorem aw_ok9:X6 112 aw9:=aw_ok8.next 99
theorem aw_ok10:X6 128 aw10:=aw_ok9.next 99
theorem Qyx:X6 144 aw11:=aw_ok10.next 100
end
section
attribute [local go_sem] Qq
attribute [local irreducible] Y4 Jm Jw
structure GSt(W w:World)(G:Fp)(b:Nat)(s:Qg):Prop where
 is:Qs w G b s
 lo:∀k,G k→W.heap.size≤k
 chg:Qc Qb W w
section
variable{W w w':World}{G:Fp}{b r:Nat}{s s':Qg}{cs:Array Value}{t:TypeId}
theorem GSt.step(h:GSt W w G b s)(h1:Qs w' (Qn G w w') b s')(d:Qc G w w'):GSt W w' (Qn G w w') b s':=
 ⟨h1,fun k c=>c.elim (h.lo k) (fun e=>Nat.le_trans h.chg.size e.1),h.chg.trans d fun k c=>.inr (h.lo k c)⟩
theorem GSt.keep(h:GSt W w G b s)(c:Qc Qb w w'):GSt W w' G b s:=⟨Qs.obj.keep h.is c (Je.none _),h.lo,h.chg.trans' c⟩
def Qh4(w:World)(G:Fp)(r:Nat)(cs:Array Value)(t:TypeId):Prop:=Qh w r cs t∧¬G r
theorem Qh4.step(h:Qh4 w G r cs t)(c:Qc G w w'):Qh4 w' (Qn G w w') r cs t:=
 ⟨c.blk h.1 h.2,fun d=>d.elim h.2 (fun e=>by have:=h.1.lt;omega)⟩
theorem Qh4.keep(h:Qh4 w G r cs t)(c:Qc Qb w w'):Qh4 w' G r cs t:=⟨c.blk h.1 (fun h=>h),h.2⟩
end
theorem Da{W w:World}{G:Fp}{b:Nat}{s:Qg}(h:GSt W w G b s)(o:Option ChM):
  ∃w',(storeCells ⟨w.heap.size,0,none⟩ (chO o).toList 0).run prog (w.alloc (.cells #[.int .u64 0,.int .i64 0,.int .i64 0,.int .u64 0,.int .u8 0,.int .u64 0] 50))=.ok () w'∧GSt W w' G b s∧Qh4 w' G w.heap.size (chO o) 50∧Qc Qb w w':=by
 have q:(chO o).size=6:=by cases o<;>rfl
 have c:∀v∈(chO o).toList,v.oneCell'=true:=by cases o<;>exact Qe5 _ _ _
 obtain⟨w',s3,d,z⟩:=Z1 (P:=prog) (vs:=chO o) (Qh.new w #[.int .u64 0,.int .i64 0,.int .i64 0,.int .u64 0,.int .u8 0,.int .u64 0] 50) q c;have u:Qc Qb w w':=((Qc.refl Qb w).alloc _).trans z (fun k e=>.inr (by omega));refine⟨w',s3,h.keep u,⟨d,fun B=>?_⟩,u⟩;have:=Qs.obj.bd h.is _ B;omega
def awS:Nat→Qg
 |0=>aw2
 |1=>aw4
 |_=>aw6
theorem Ew{w:World}{G:Fp}{b N:Nat}{s s':Qg}{o:Option ChM}(ok:X6 N s)(c:N<549755813000)(now:Nat)(d:(s.next now).1=o)(hs:(s.next now).2=s')(h:Qs w G b s):
  Cl 16 #[ptr b,.int .u64 (now:Int)] w fun e w'=>e=.returned (.tuple #[.agg (chO o),.bool o.isSome])∧Qs w' (Qn G w w') b s'∧Qc G w w':=by
 subst d hs;exact Qhz h ok c now
theorem Ex{w:World}{G:Fp}{b N:Nat}{s s':Qg}{c:Int}(ok:X6 N s)(d:N<549755813000)(p:Z4)(k:s.pushE p=c)(hs:s.push p 0=s')(h:Qs w G b s):
  Cl 28 #[ptr b,.agg #[.int .u64 (p.id:Int),.int .i64 p.cls,.int .i64 p.len,.int .u64 (p.at_:Int)],.int .u64 0] w fun e w'=>e=.returned (.int .i64 c)∧Qs w' (Qn G w w') b s'∧Qc G w w':=by
 subst k hs;exact Qhx h ok d p 0 (by decide)
theorem Qh5(W:World):Cl 8 #[] W fun e w'=>e=.returned (.bool true)∧Qc Qb W w':=by
 have ax:=O (fun w=>Qj0 1500 (by decide) (by decide) w);have NO:=O (fun w=>Qom 0 w (.inl (by decide)));have ae:Hid (∀w b G,Qs w G b aw0→Cl 27 #[.pointer (some ⟨b,0,none⟩),.agg #[.int .i64 1,.int .i64 0,.bool true,.int .u64 0,.int .u64 0,.int .u64 256,.int .u64 0,.int .u64 0,.int .u64 0,.int .u64 0,.int .u64 0,.int .u64 0,.int .i64 5,.int .i64 1000]] w fun e w'=>e=.returned (.int .i64 0)∧Qs w' (Qn G w w') b aw1∧Qc G w w'):=O (fun w b G h=>by
  have:=Qdw h aw_ok0 Qzr;rw[Qz1]at this;exact this)
 have aa:Hid (∀w b G,Qs w G b aw1→Cl 27 #[.pointer (some ⟨b,0,none⟩),.agg #[.int .i64 2,.int .i64 0,.bool true,.int .u64 0,.int .u64 0,.int .u64 0,.int .u64 0,.int .u64 0,.int .u64 256,.int .u64 0,.int .u64 0,.int .u64 0,.int .i64 5,.int .i64 1000]] w fun e w'=>e=.returned (.int .i64 0)∧Qs w' (Qn G w w') b aw2∧Qc G w w'):=O (fun w b G h=>by
  have:=Qdw h aw_ok1 Qzs;rw[Qz2]at this;exact this)
 have P3:Hid (∀w b G,Qs w G b aw2→Cl 28 #[.pointer (some ⟨b,0,none⟩),.agg #[.int .u64 1,.int .i64 1,.int .i64 100,.int .u64 0],.int .u64 0] w fun e w'=>e=.returned (.int .i64 0)∧Qs w' (Qn G w w') b aw3∧Qc G w w'):=O (fun w b G h=>Ex aw_ok2 (by decide) Qeu Qz3 rfl h);have P4:Hid (∀w b G,Qs w G b aw3→Cl 28 #[.pointer (some ⟨b,0,none⟩),.agg #[.int .u64 2,.int .i64 2,.int .i64 100,.int .u64 0],.int .u64 0] w fun e w'=>e=.returned (.int .i64 0)∧Qs w' (Qn G w w') b aw4∧Qc G w w'):=O (fun w b G h=>Ex aw_ok3 (by decide) Qev Qz4 rfl h);have P5:Hid (∀w b G,Qs w G b aw4→Cl 28 #[.pointer (some ⟨b,0,none⟩),.agg #[.int .u64 1,.int .i64 1,.int .i64 100,.int .u64 0],.int .u64 0] w fun e w'=>e=.returned (.int .i64 0)∧Qs w' (Qn G w w') b aw5∧Qc G w w'):=O (fun w b G h=>Ex aw_ok4 (by decide) Qeu Qz5 rfl h);have P6:Hid (∀w b G,Qs w G b aw5→Cl 28 #[.pointer (some ⟨b,0,none⟩),.agg #[.int .u64 2,.int .i64 2,.int .i64 100,.int .u64 0],.int .u64 0] w fun e w'=>e=.returned (.int .i64 0)∧Qs w' (Qn G w w') b aw6∧Qc G w w'):=O (fun w b G h=>Ex aw_ok5 (by decide) Qev Qz6 rfl h);have NX:Hid (∀w b G,Qs w G b aw6→Cl 16 #[.pointer (some ⟨b,0,none⟩),.int .u64 0] w fun e w'=>e=.returned (.tuple #[.agg (chO (some ⟨Qeu,1,100⟩)),.bool true])∧Qs w' (Qn G w w') b aw7∧Qc G w w'):=O (fun w b G h=>Ew aw_ok6 (by decide) 0 Q0g rfl h);have NY:Hid (∀w b G,Qs w G b aw7→Cl 16 #[.pointer (some ⟨b,0,none⟩),.int .u64 1] w fun e w'=>e=.returned (.tuple #[.agg (chO (some ⟨Qev,2,0⟩)),.bool true])∧Qs w' (Qn G w w') b aw8∧Qc G w w'):=O (fun w b G h=>Ew aw_ok7 (by decide) 1 Q0h rfl h);have NZ:Hid (∀w b G,Qs w G b aw8→Cl 16 #[.pointer (some ⟨b,0,none⟩),.int .u64 99] w fun e w'=>e=.returned (.tuple #[.agg (chO (some ⟨Qev,2,0⟩)),.bool true])∧Qs w' (Qn G w w') b aw9∧Qc G w w'):=O (fun w b G h=>Ew aw_ok8 (by decide) 99 Q0i rfl h);have NN:Hid (∀w b G,Qs w G b aw9→Cl 16 #[.pointer (some ⟨b,0,none⟩),.int .u64 99] w fun e w'=>e=.returned (.tuple #[.agg (chO none),.bool false])∧Qs w' (Qn G w w') b aw10∧Qc G w w'):=O (fun w b G h=>Ew aw_ok9 (by decide) 99 Q0j rfl h);have TK:Hid (∀w b G,Qs w G b aw10→Cl 18 #[.pointer (some ⟨b,0,none⟩)] w fun e w'=>e=.returned (.int .u64 100)∧Qc Qb w w'):=O (fun w b G h=>by
  obtain⟨A,h⟩:=h;have:=Qrj h aw_ok10;rw[Q0k]at this;exact this)
 have NW:Hid (∀w b G,Qs w G b aw10→Cl 16 #[.pointer (some ⟨b,0,none⟩),.int .u64 100] w fun e w'=>e=.returned (.tuple #[.agg (chO (some ⟨Qeu,1,200⟩)),.bool true])∧Qs w' (Qn G w w') b aw11∧Qc G w w'):=O (fun w b G h=>Ew aw_ok10 (by decide) 100 Q0l rfl h);have PL:Hid (∀w b G,Qs w G b aw11→Cl 28 #[.pointer (some ⟨b,0,none⟩),.agg #[.int .u64 0,.int .i64 9,.int .i64 5,.int .u64 0],.int .u64 0] w fun e w'=>e=.returned (.int .i64 81)∧Qs w' (Qn G w w') b (aw11.push ⟨0,9,5,0⟩ 0)∧Qc G w w'):=O (fun w b G h=>Ex Qyx (by decide) ⟨0,9,5,0⟩ Q0m rfl h);unfold ptr at*;go_enter func8,ntmps8;go_wp2_with fail;refine(ax.out _).mono ?_;rintro e w1⟨b,rfl,h1,c1⟩;have S1:=O (show GSt W w1 (Qn Qb W w1) b aw0 from⟨h1,fun k hk=>hk.elim (fun h=>h.elim) (fun h=>h.1),c1⟩);clear h1 c1 ax;unfold ptr at*;go_wp2_with fail;refine(NO.out _).mono ?_;rintro e w2⟨rfl,c2⟩;have S2:=O (S1.out.keep c2);clear c2 NO;generalize Qn Qb W w1=G0 at S1 S2;clear S1;go_wp2_with fail;refine(ae.out _ _ _ S2.out.is).mono ?_;rintro e w3⟨rfl,h3,c3⟩;have S3:=O (S2.out.step h3 c3);clear h3 c3 ae;generalize Qn G0 w2 w3=G3 at S3;clear S2;go_wp2_with fail;refine(aa.out _ _ _ S3.out.is).mono ?_;rintro e w4⟨rfl,h4,c4⟩;have S4:=O (S3.out.step h4 c4);clear h4 c4 aa;generalize Qn G3 w3 w4=G4 at S4;clear S3;go_wp2_with fail;go_loopw [7] (fun t7 wr=>∃(k:Nat)(G:Fp),t7=.int .i64 (k:Int)∧k≤2∧GSt W wr G b (awS k)) (fun t7 _=>2-(intOf t7).toNat);case atStart=>exact⟨0,_,rfl,by omega,S4.out⟩
 case round=>
  obtain⟨k,G,rfl,hk,hS⟩:=hrel;have S5:=O hS;clear hS S4;by_cases bo:k<2
  ·have hd:decide ((k:Int)<2)=true:=by simp;omega
   have bt:IntKind.i64.wrap ((k:Int)+1)=(k:Int)+1:=by rw[IntWalk.i64_in _ (by omega)]
   have PA:Hid (∃sm,Cl 28 #[.pointer (some ⟨b,0,none⟩),.agg #[.int .u64 1,.int .i64 1,.int .i64 100,.int .u64 0],.int .u64 0] wr (fun e w'=>e=.returned (.int .i64 0)∧GSt W w' (Qn G wr w') b sm)∧∀w G,GSt W w G b sm→Cl 28 #[.pointer (some ⟨b,0,none⟩),.agg #[.int .u64 2,.int .i64 2,.int .i64 100,.int .u64 0],.int .u64 0] w fun e w'=>e=.returned (.int .i64 0)∧GSt W w' (Qn G w w') b (awS (k+1))):=O (by
    rcases(show k=0∨k=1 by omega)with rfl|rfl;·exact⟨aw3,(P3.out _ _ _ S5.out.is).mono fun e w' h=>⟨h.1,S5.out.step h.2.1 h.2.2⟩,fun w G hG=>(P4.out _ _ _ hG.is).mono fun e w' h=>⟨h.1,hG.step h.2.1 h.2.2⟩⟩
    ·exact⟨aw5,(P5.out _ _ _ S5.out.is).mono fun e w' h=>⟨h.1,S5.out.step h.2.1 h.2.2⟩,fun w G hG=>(P6.out _ _ _ hG.is).mono fun e w' h=>⟨h.1,hG.step h.2.1 h.2.2⟩⟩)
   obtain⟨sm,pa,pb⟩:=PA.out;have PB:=O pb;have PC:=O pa;clear pa pb PA;go_wp2_with fail;refine PC.out.mono ?_;rintro e w5⟨rfl,h5⟩;have S6:=O h5;clear h5;go_wp2_with fail;refine(PB.out _ _ S6.out).mono ?_;rintro e w6⟨rfl,h6⟩;have S7:=O h6;clear h6;go_wp2_with fail;go_roundw;case measure=>simp only[intOf];omega
   case rel=>exact⟨k+1,_,by rw[←Int.natCast_one,←Int.natCast_add],by omega,S7.out⟩
  ·have hd:decide ((k:Int)<2)=false:=by simp;omega
   obtain rfl:k=2:=by omega
   have S8:=O (show GSt W wr G b aw6 from S5.out);clear S5 P3 P4 P5 P6 bo hk;go_wp2_with fail;refine(NX.out _ _ _ S8.out.is).mono ?_;rintro e w8⟨rfl,h8,c8⟩;obtain⟨W8,s8,g8,a8,n8⟩:=Da (S8.out.step h8 c8) (some ⟨Qeu,1,100⟩);have S9:=O g8;have A9:=O a8;clear h8 c8 g8 a8 n8 NX;generalize Qn G wr w8=G9 at S9 A9;clear S8;go_wp2_with fail;clear s8;refine(NY.out _ _ _ S9.out.is).mono ?_;rintro e au⟨rfl,a2,ag⟩;obtain⟨bc,bh,a1,a6,ba⟩:=Da (S9.out.step a2 ag) (some ⟨Qev,2,0⟩);have V:=O a1;have aj:=O a6;have am:=O ((A9.out.step ag).keep ba);clear a2 ag a1 a6 ba NY;generalize Qn G9 W8 au=bi at V aj am;clear S9 A9;go_wp2_with fail;clear bh;refine(NZ.out _ _ _ V.out.is).mono ?_;rintro e a5⟨rfl,av,K⟩;obtain⟨bm,bp,a7,ay,ao⟩:=Da (V.out.step av K) (some ⟨Qev,2,0⟩);have U:=O a7;have ah:=O ay;have al:=O ((am.out.step K).keep ao);have z:=O ((aj.out.step K).keep ao);clear av K a7 ay ao NZ;generalize Qn bi bc a5=bd at U ah al z;clear V am aj;go_wp2_with fail;clear bp;refine(NN.out _ _ _ U.out.is).mono ?_;rintro e bn⟨rfl,az,c⟩;obtain⟨bs,bf,a4,bj,J⟩:=Da (U.out.step az c) none;have I:=O a4;have an:=O ((al.out.step c).keep J);have q:=O ((z.out.step c).keep J);have B:=O ((ah.out.step c).keep J);clear az c a4 bj J NN;generalize Qn bd bm bn=bk at I an q B;clear U al z ah;go_wp2_with fail;clear bf;refine(TK.out _ _ _ I.out.is).mono ?_;rintro e be⟨rfl,u⟩;have ak:=O (I.out.keep u);have ar:=O (an.out.keep u);have Z:=O (q.out.keep u);have af:=O (B.out.keep u);clear u TK I an q B;go_wp2_with fail;refine(NW.out _ _ _ ak.out.is).mono ?_;rintro e ap⟨rfl,a0,d⟩;obtain⟨R,bl,bb,a3,E⟩:=Da (ak.out.step a0 d) (some ⟨Qeu,1,200⟩);have ai:=O bb;have aq:=O a3;have a9:=O ((ar.out.step d).keep E);have ab:=O ((Z.out.step d).keep E);have ac:=O ((af.out.step d).keep E);clear a0 d bb a3 E NW;generalize Qn bk be ap=br at ai aq a9 ab ac;clear ak ar Z af;obtain⟨x0,x1,x2,x3,x4,x5⟩:=Dm (show Qh R w8.heap.size #[.int .u64 1,.int .i64 1,.int .i64 100,.int .u64 0,.int .u8 1,.int .u64 100] _ from a9.out.1);obtain⟨y0,y1,y2,y3,y4,y5⟩:=Dm (show Qh R au.heap.size #[.int .u64 2,.int .i64 2,.int .i64 100,.int .u64 0,.int .u8 2,.int .u64 0] _ from ab.out.1);obtain⟨z0,z1,z2,z3,z4,z5⟩:=Dm (show Qh R a5.heap.size #[.int .u64 2,.int .i64 2,.int .i64 100,.int .u64 0,.int .u8 2,.int .u64 0] _ from ac.out.1);obtain⟨u0,u1,u2,u3,u4,u5⟩:=Dm (show Qh R ap.heap.size #[.int .u64 1,.int .i64 1,.int .i64 100,.int .u64 0,.int .u8 1,.int .u64 200] _ from aq.out.1);go_wp2_with fail;clear bl;refine(PL.out _ _ _ ai.out.is).mono ?_;rintro e bq⟨rfl,aw,c19⟩;have bg:=O (ai.out.step aw c19).chg;clear aw c19 PL x0 x1 x2 x3 x4 x5 y0 y1 y2 y3 y4 y5 z0 z1 z2 z3 z4 z5 u0 u1 u2 u3 u4 u5;go_wp2;go_ret;exact⟨rfl,bg.out⟩
theorem Qo2(n:Nat)(a:Option Addr)(cap:Nat)(w:World):Cl 9 #[.slice a n cap] w fun e w'=>e=.returned (.bool (decide (150<n)))∧w=w':=by
 go_enter func9,ntmps9;go_wp2;go_ret;refine⟨?_,rfl⟩;congr 2;by_cases h:150<n;·simp[h];omega
 ·simp[h];omega
theorem Qh6{f:Nat→Int}{B:Int}:∀n:Nat,(∀k,k<n→0≤f k∧f k≤B)→0≤Xh f n∧Xh f n≤n*B
 |0,_=>by simp[Xh]
 |n+1,h=>by
  have h1:=Qh6 n fun k c=>h k (by omega);have d:=h n (by omega);have e:Xh f (n+1)=Xh f n+f n:=rfl;rw[e];have:((n+1:Nat):Int)*B=(n:Int)*B+B:=by rw[Int.natCast_add,Int.add_mul];simp
  omega
theorem Qo3{L:List Z4}{i:Nat}{x:Z4}(c:L[i]? =some x):Q0 (L.take (i+1))=Q0 (L.take i)+x.len:=by rw[List.take_add_one,c,Do];simp[Q0]
theorem Qvc{L:List Z4}(h:∀x∈L,Uc x):0≤Q0 L∧Q0 L≤L.length*65535:=by
 induction L with
 |nil=>simp[Q0]
 |cons x L d=>
  have h1:=d fun y c=>h y (List.mem_cons_of_mem _ c);have k:=h x List.mem_cons_self;unfold Uc at k;simp only[Q0,List.length_cons];have:((L.length+1:Nat):Int)*65535=(L.length:Int)*65535+65535:=by omega
  omega
theorem Jv.rowAt{w:World}{F:Fp}{b sb now:Nat}{us:Nat→Value}{s:Qg}{ps:Nat→List Z4}(h:Jv sb us us w F b s now true ps){c:Nat}(hc:c<64):
  ∃a cap,us c=.slice a (ps c).length cap∧(ps c).length≤cap∧cap≤maxLen∧w.cell? ⟨b,2+c,none⟩=some (us c)∧∀w',Qc Qb w w'→∀(i:Nat)(x:Z4),(ps c)[i]? =some x→∃b2 o,a=some ⟨b2,o,none⟩∧w'.cell? ⟨b2,o+i*4+2,none⟩=some (.int .i64 x.len):=by
 obtain⟨G,K,_⟩:=h.rowOf hc;obtain⟨a,cap,e,h1,E,I⟩:=K.row;refine⟨a,cap,e,h1,E,h.blk.1.at _ (Ou _ _ _ _ hc),fun w' c' i x k=>?_⟩;have q:ps c≠[]:=fun e=>by rw[e]at k;cases k
 obtain⟨b2,o,B,J,_,z,d⟩:=I q;have hi:=(List.getElem?_eq_some_iff.1 k).1;refine⟨b2,o,J,?_⟩;have hf:=Ol (cells:=Z4.cells) (sz:=4) Z4.cells_length (ps c) i 2 hi (by omega);have u:(ps c)[i]=x:=(List.getElem?_eq_some_iff.1 k).2;rw[u]at hf;have:=d (i*4+2) (.int .i64 x.len) hf;rw[Nat.add_assoc];rw[(c'.blk z (fun h=>h)).cell];rw[z.cell]at this;exact this
theorem Qo4(most:Int)(l:List Yg)(a:Option Addr)(cap:Nat)(W:World)(hl:l.length≤maxLen)(hr:Yr Yg.cells 20 W a l)(hw:∀x∈l,x.wf):
  Cl 3 #[.int .i64 most,.slice a l.length cap] W fun e w'=>e=.returned (.bool true)∧Qc Qb W w':=by
 have AW:=O (Qh5 W);have LG:=O (fun w=>Qo2 l.length a cap w);by_cases ai:150<l.length;·rw[decide_eq_true ai]at LG;clear hr hw hl;go_enter func3,ntmps3;go_wp2_with fail;refine AW.out.mono ?_;rintro e w1⟨rfl,c1⟩;have C1:=O c1;clear c1;go_wp2_with fail;refine(LG.out w1).mono ?_;rintro e w2⟨rfl,rfl⟩;go_wp2;go_ret;exact⟨rfl,C1.out⟩
 ·have PL:=O (fun w1(c:Qc Qb W w1)=>Qim most l a cap w1 (by omega) (hr.below c.below) hw);rw[decide_eq_false ai]at LG;clear hr hw hl;go_enter func3,ntmps3;go_wp2_with fail;refine AW.out.mono ?_;rintro e w1⟨rfl,c1⟩;have C1:=O c1;clear c1;go_wp2_with fail;refine(LG.out w1).mono ?_;rintro e bq⟨rfl,rfl⟩;go_wp2_with fail;refine(PL.out w1 C1.out).mono ?_;rintro e w2⟨a6,c2⟩;have C2:=O (C1.out.trans' c2);clear c2;rcases a6 with rfl|⟨gb,s,rfl,hG,ok,al⟩;·go_wp2;go_ret;exact⟨rfl,C2.out⟩
  ·obtain⟨sb,us,now,ps,hA,a0,ac⟩:=hG;have KA:=O (fun w'(c:Qc Qb w2 w')=>hA.keep c (Je.none _));have a8:Hid (∀w',Qc Qb w2 w'→∀i:Int,Cl 11 #[.pointer (some ⟨sb,0,none⟩),.int .i64 i] w' fun e I=>e=.returned (.tuple #[.int .i64 (s.many i),.int .i64 (s.bytes i)])∧Qc Qb w' I):=O (fun w' c i=>by
    obtain⟨G,⟨A,hS⟩,_⟩:=(KA.out w' c).sched;exact Dr hS ok i)
   have a9:Hid (∀w',Qc Qb w2 w'→Cl 12 #[.pointer (some ⟨sb,0,none⟩)] w' fun e I=>∃t,e=.returned (.pointer (some ⟨t,0,none⟩))∧Zt I (Qn Qb w' I) t s.tree∧Qc Qb w' I):=O (fun w' c=>by
    obtain⟨G,⟨A,hS⟩,_⟩:=(KA.out w' c).sched;exact Qij hS ok)
   obtain⟨g,hg⟩:∃g:Nat→Int,g=fun k:Nat=>((s.qOf (k:Int)).length:Int):=⟨_,rfl⟩;obtain⟨f,hf⟩:∃f:Nat→Int,f=fun k:Nat=>Q0 (s.qOf (k:Int)):=⟨_,rfl⟩;have aj:Hid (s.many 0=Xh g 64∧s.bytes 0=Xh f 64):=O (by rw[hg,hf];exact Qxc ok (n:=64) (fun c hc=>by have:=al c hc;omega));have BD:Hid (∀k:Nat,(0≤g k∧g k≤4096)∧0≤f k∧f k≤16777216):=O (fun k=>by
    obtain⟨G,⟨A,hS⟩,_⟩:=hA.sched;rw[hg,hf];exact hS.bounds (k:Int))
   have Z0:Hid (Xh g 1=0∧Xh f 1=0):=O (by
    have e:s.qOf ((0:Nat):Int)=[]:=O8 (ok.leaf_none (ok.tree.zero (by decide)));constructor;·show Xh g 0+g 0=0;rw[hg];simp only[e];simp[Xh]
    ·show Xh f 0+f 0=0;rw[hf];simp only[e];simp[Xh,Q0])
   have ax:Hid (∀c:Nat,1≤c→c<64→((ps c).length:Int)=g c∧Q0 (ps c)=f c∧(∀x∈ps c,Uc x)∧(ps c).length≤4096):=O (fun c h1 h2=>by
    have e:=ac c h1 h2;have hb:=hA.sched;obtain⟨G,⟨A,hS⟩,_⟩:=hb;have bj:=hS.bounds (c:Int);rw[hg,hf,e];refine⟨rfl,rfl,fun x hx=>?_,by have:=bj.1.2;omega⟩;cases J:s.leaf (c:Int)with
    |none=>rw[O8 J]at hx;cases hx
    |some lf=>rw[U8 J]at hx;exact((ok.at J).1.good x hx).1)
   have a3:Hid (∀c:Nat,1≤c→c<64→(s.tree.at (c:Int)).isSome=false∧(ps c).length=0∨(s.tree.at (c:Int)).isSome=true∧(s.tree.get (c:Int)).sp.leaf=false∨(s.tree.at (c:Int)).isSome=true∧(s.tree.get (c:Int)).sp.leaf=true∧s.many (c:Int)=((ps c).length:Int)∧s.bytes (c:Int)=Q0 (ps c)):=O (fun c h1 h2=>by
    cases aq:s.tree.at (c:Int)with
    |none=>exact .inl ⟨rfl,by rw[ac c h1 h2,O8 (ok.leaf_none aq)];rfl⟩
    |some cl=>
     have bi:s.tree.get (c:Int)=cl:=Qhq s.tree aq;rw[bi];cases J:cl.sp.leaf with
     |false=>exact .inr (.inl ⟨rfl,rfl⟩)
     |true=>exact .inr (.inr ⟨rfl,rfl,by rw[ac c h1 h2];exact Quv ok aq J⟩))
   have f0:w2.cell? ⟨gb,0,none⟩=some (.pointer (some ⟨sb,0,none⟩)):=hA.blk.1.at 0 rfl;have OK:=O ok;clear hA ac al hg hf ok a0;unfold ptr at*;clear f0;go_wp2_with fail;go_loopw [6,7,8,9,10,11,12,13,14] (fun t6 t7 t8 _ _ _ _ _ _ wr=>∃c:Nat,t8=.int .i64 (c:Int)∧1≤c∧c≤64∧t6=.int .i64 (Xh g c)∧t7=.int .i64 (Xh f c)∧Qc Qb w2 wr) (fun _ _ t8 _ _ _ _ _ _ _=>64-(intOf t8).toNat);case atStart=>exact⟨1,rfl,by omega,by omega,by rw[Z0.out.1],by rw[Z0.out.2],Qc.refl _ _⟩
   case round=>
    obtain⟨c,rfl,ar,bb,rfl,rfl,hc⟩:=hrel;obtain⟨V,hV⟩:=Zx wr;rw[←hV]at hc⊢;clear hV;have K:=O hc;clear hc;by_cases Jl:c<64
    ·have hd:decide ((c:Int)<64)=true:=by simp;omega
     obtain⟨ra,bl,ah,an,bh,ak,z⟩:=(KA.out V K.out).rowAt Jl;have U:=O z;obtain⟨ae,ao,d,ab⟩:=ax.out c ar Jl;have E:=O (a3.out c ar Jl);have bd:=O (a8.out V K.out (c:Int));have f0:V.cell? ⟨gb,0,none⟩=some (.pointer (some ⟨sb,0,none⟩)):=(KA.out V K.out).blk.1.at 0 rfl;have u:=O (fun w'(c':Qc Qb V w')=>(show w'.cell? ⟨gb,0,none⟩=some (.pointer (some ⟨sb,0,none⟩))∧w'.cell? ⟨gb,2+c,none⟩=some (us c)from⟨(c'.blk (KA.out V K.out).blk.1 (fun h=>h)).at 0 rfl,(c'.blk (KA.out V K.out).blk.1 (fun h=>h)).at _ (Ou _ _ _ _ Jl)⟩));obtain⟨L,hL⟩:=Zx (ps c);rw[←hL]at ae ao d ab ah an U E;obtain⟨n,hn⟩:=Zx (L.length);have HN:=O hn;rw[←hn]at ae ab ah an E;rw[ah]at ak u;have bk:=O d;have SB:=O (fun i=>Qvc (L:=L.take i) (fun x hx=>d x (List.mem_of_mem_take hx)));have Z:=O (And.intro ae ao);have k0:(0:Int)≤(c:Int):=by omega
     have k1:(c:Int)<64:=by omega
     clear z hL hn d ah ae ao;go_wp2_with fail;go_loopw [9,10] (fun t9 ap wi=>∃i:Nat,ap=.int .i64 (i:Int)∧i≤n∧t9=.int .i64 (Q0 (L.take i))∧wi=V) (fun _ ap _=>n-(intOf ap).toNat);case atStart=>exact⟨0,rfl,Nat.zero_le _,rfl,rfl⟩
     case round=>
      obtain⟨i,rfl,hi,rfl,rfl⟩:=hrel;by_cases au:i<n
      ·have av:decide ((i:Int)<(n:Int))=true:=by simp;omega
       have a1:decide (i<n)=true:=by simpa using au
       obtain⟨x,hx⟩:∃x,L[i]? =some x:=⟨_,List.getElem?_eq_getElem (by have:=HN.out;omega)⟩;obtain⟨b2,o,rfl,bm⟩:=U.out _ (Qc.refl _ _) i x hx;have ST:=O (Qo3 hx);have az:=SB.out i;have R:=SB.out (i+1);rw[ST.out]at R;have be:(L.take i).length≤4096:=by simp;have:=HN.out;omega
       have bf:(L.take (i+1)).length≤4096:=by simp;have:=HN.out;omega
       obtain⟨q,hq⟩:=Zx (Q0 (L.take i));rw[←hq]at az R ST⊢;clear hq;have ew:IntKind.i64.wrap (q+x.len)=q+x.len:=by rw[IntWalk.i64_in _ (by omega)]
       have bp:IntKind.i64.wrap ((i:Int)+1)=(i:Int)+1:=by rw[IntWalk.i64_in _ (by omega)]
       have i0:(0:Int)≤(i:Int):=by omega
       have i1:(i:Int)<(n:Int):=by omega
       clear hx az R be bf;go_wp2_with fail;go_roundw;case measure=>simp only[intOf];omega
       case rel=>exact⟨i+1,by rw[←Int.natCast_one,←Int.natCast_add],by omega,by rw[ST.out],by first|trivial|rfl⟩
      ·have av:decide ((i:Int)<(n:Int))=false:=by simp;omega
       have a1:decide (i<n)=false:=by simpa using au
       have am:i=n:=by omega
       have TK:=O (show L.take i=L by rw[am,HN.out,List.take_length]);rw[TK.out];clear au am hi TK;go_wp2_with fail;refine bd.out.mono ?_;rintro e w3⟨rfl,c3⟩;have C3:=O c3;obtain⟨f3,r3⟩:=u.out w3 c3;have a7:=O (a9.out w3 (K.out.trans' c3));clear c3 f0 ak av a1;go_wp2_with fail;refine a7.out.mono ?_;rintro e w4⟨tb,rfl,hT,c4⟩;have C4:=O (C3.out.trans' c4);have HG:=O (Gh hT (c:Int));clear hT c4 a7;unfold ptr at*;go_wp2_with fail;refine HG.out.mono ?_;rintro e w5⟨rfl,c5⟩;have C5:=O (C4.out.trans' c5);clear c5 HG;obtain⟨sp,ay⟩:=Zx ((s.tree.get (c:Int)).sp);rw[←ay]at E⊢;clear ay;obtain⟨W6,s6,a2,c6⟩:=Z1 (P:=prog) (vs:=spA sp) (Qh.new w5 #[.int .i64 0,.int .i64 0,.bool false,.int .u64 0,.int .u64 0,.int .u64 0,.int .u64 0,.int .u64 0,.int .u64 0,.int .u64 0,.int .u64 0,.int .u64 0,.int .i64 0,.int .i64 0] 40) rfl (Lc _);have C6:=O (show Qc Qb wr W6 from C5.out.trans' (((Qc.refl Qb w5).alloc _).trans c6 fun k e=>.inr (by omega)));have g2:W6.cell? ⟨w5.heap.size,2,none⟩=some (.bool sp.leaf):=a2.at 2 rfl;obtain⟨f6,r6⟩:=u.out W6 C6.out;clear a2 c6 f3 r3;generalize(s.tree.at (c:Int)).isSome=is at E⊢;generalize s.many (c:Int)=mc at E⊢;generalize s.bytes (c:Int)=bc at E⊢;have hz:(spA sp).size=14:=rfl;generalize spA sp=bo at s6 hz⊢;generalize sp.leaf=lf at E g2;have bg:=BD.out c;obtain⟨b1,b2⟩:=bg;have aw:=Qh6 (f:=g) (B:=4096) c (fun k _=>(BD.out k).1);have a5:=Qh6 (f:=f) (B:=16777216) c (fun k _=>(BD.out k).2);have ag:=O (show Xh g (c+1)=Xh g c+(n:Int)from by rw[Z.out.1];rfl);have aa:=O (show Xh f (c+1)=Xh f c+Q0 L from by rw[Z.out.2];rfl);have a4:0≤Q0 L∧Q0 L≤16777216:=by rw[Z.out.2];exact b2
       generalize Xh g c=q1 at aw ag⊢;generalize Xh f c=q2 at a5 aa⊢;generalize Q0 L=q3 at aa a4 E⊢;have e1:IntKind.i64.wrap (q1+(n:Int))=q1+(n:Int):=by rw[IntWalk.i64_in _ (by omega)]
       have e0:Go.RowKit.wrap64 q1=q1:=by unfold Go.RowKit.wrap64;omega
       have e2:IntKind.i64.wrap (q2+q3)=q2+q3:=by rw[IntWalk.i64_in _ (by omega)]
       have e3:IntKind.i64.wrap ((c:Int)+1)=(c:Int)+1:=by rw[IntWalk.i64_in _ (by omega)]
       have D6:=O (K.out.trans' C6.out);have kd:=E.out;clear b1 b2 aw a5 a4 ab an bh;rcases kd with⟨rfl,ba⟩|⟨rfl,rfl⟩|⟨rfl,rfl,rfl,rfl⟩
       ·subst ba;clear E;go_wp2_with fail;clear s6;go_roundw;case measure=>simp only[intOf];omega
        case rel=>exact⟨c+1,by rw[←Int.natCast_one,←Int.natCast_add],by omega,by omega,by rw[ag.out];first|rw[e0];simp|simp,by rw[aa.out],D6.out⟩
       ·clear E;go_wp2_with fail;clear s6;go_roundw;case measure=>simp only[intOf];omega
        case rel=>exact⟨c+1,by rw[←Int.natCast_one,←Int.natCast_add],by omega,by omega,by rw[ag.out],by rw[aa.out],D6.out⟩
       ·clear E;go_wp2_with fail;clear s6;go_roundw;case measure=>simp only[intOf];omega
        case rel=>exact⟨c+1,by rw[←Int.natCast_one,←Int.natCast_add],by omega,by omega,by rw[ag.out],by rw[aa.out],D6.out⟩
    ·have hd:decide ((c:Int)<64)=false:=by simp;omega
     obtain rfl:c=64:=by omega
     have af:=O (a8.out V K.out 0);rw[aj.out.1,aj.out.2]at af;have f0:V.cell? ⟨gb,0,none⟩=some (.pointer (some ⟨sb,0,none⟩)):=(KA.out V K.out).blk.1.at 0 rfl;have u:=O (fun w'(c':Qc Qb V w')=>(show w'.cell? ⟨gb,66,none⟩=some (.bool true)from(c'.blk (KA.out V K.out).blk.1 (fun h=>h)).at 66 (O9 _ _ _ _)));generalize Xh g 64=q1 at af⊢;generalize Xh f 64=q2 at af⊢;clear Jl ar bb;go_wp2_with fail;refine af.out.mono ?_;rintro e w3⟨rfl,c3⟩;have bn:=u.out w3 c3;have FF:=O ((C2.out.trans' K.out).trans' c3);clear c3 f0;go_wp2;go_ret;exact⟨rfl,FF.out⟩
end
theorem V8{n:Int}(h:(Lit.int .u64 n).wf=true):∃k:Nat,n=(k:Int)∧k<18446744073709551616:=by
 refine⟨n.toNat,?_⟩;simp[Lit.wf]at h;have e1:IntKind.u64.min=0:=by kernel_rfl
 have c:IntKind.u64.max=18446744073709551615:=by kernel_rfl
 omega
theorem Qy3{n:Int}(h:(Lit.int .u8 n).wf=true):0≤n∧n<256:=by
 simp[Lit.wf]at h;have e1:IntKind.u8.min=0:=by kernel_rfl
 have c:IntKind.u8.max=255:=by kernel_rfl
 omega
def Qh7:List (Option IntKind):=[some .u8,some .i64,some .i64,none,some .u64,some .u64,some .u64,some .u64,some .u64,some .u64,some .u64,some .u64,some .u64,some .i64,some .i64,some .u64,some .i64,some .i64,some .u64,some .u64]
theorem Yg.of_fits{x:List Value}(h:Um Qh7 x):∃a:Yg,x=a.cells∧a.wf:=by unfold Qh7 at h;obtain⟨k,y0,rfl,wk,h1⟩:=h.int1;obtain⟨v0,y1,rfl,_,h2⟩:=h1.int1;obtain⟨v1,y2,rfl,_,h3⟩:=h2.int1;obtain⟨v2,y3,rfl,h4⟩:=h3.bool1;obtain⟨u4,y4,rfl,w4,h5⟩:=h4.int1;obtain⟨v3,rfl,_⟩:=V8 w4;clear w4;obtain⟨u5,y5,rfl,w5,h6⟩:=h5.int1;obtain⟨v4,rfl,_⟩:=V8 w5;clear w5;obtain⟨u6,y6,rfl,w6,h7⟩:=h6.int1;obtain⟨v5,rfl,_⟩:=V8 w6;clear w6;obtain⟨u7,y7,rfl,w7,h8⟩:=h7.int1;obtain⟨v6,rfl,_⟩:=V8 w7;clear w7;obtain⟨u8,y8,rfl,w8,h9⟩:=h8.int1;obtain⟨v7,rfl,_⟩:=V8 w8;clear w8;obtain⟨u9,y9,rfl,w9,R⟩:=h9.int1;obtain⟨v8,rfl,_⟩:=V8 w9;clear w9;obtain⟨u10,al,rfl,q,z⟩:=R.int1;obtain⟨v9,rfl,_⟩:=V8 q;clear q;obtain⟨u11,ae,rfl,d,K⟩:=z.int1;obtain⟨v10,rfl,_⟩:=V8 d;clear d;obtain⟨u12,ac,rfl,u,J⟩:=K.int1;obtain⟨v11,rfl,_⟩:=V8 u;clear u;obtain⟨v12,am,rfl,_,V⟩:=J.int1;obtain⟨v13,af,rfl,_,Z⟩:=V.int1;obtain⟨p0,ah,rfl,_,I⟩:=Z.int1;obtain⟨p1,ag,rfl,_,ab⟩:=I.int1;obtain⟨p2,aj,rfl,_,U⟩:=ab.int1;obtain⟨p3,ai,rfl,_,aa⟩:=U.int1;obtain⟨u19,ak,rfl,c,E⟩:=aa.int1;obtain⟨va,rfl,B⟩:=V8 c;clear c;have hz:=E.nil0;subst hz;exact⟨⟨k,⟨v0,v1,v2,⟨v3,v4,v5⟩,⟨v6,v7,v8⟩,⟨v9,v10,v11⟩,v12,v13⟩,⟨p0,p1,p2,p3⟩,va⟩,rfl,(Qy3 wk).1,(Qy3 wk).2,B⟩
theorem Q0n:Ul prog 5 74=some Qh7:=by kernel_rfl
theorem own:ownKnob prog.godebug=none:=by kernel_rfl
section
open Go.ChangeShapes Go.WideShapes Go.ChangeAt
theorem Qyy:laidOutB prog=true:=by kernel_rfl
theorem Qxp:Tryz.checked.prog.funcNamed Rows.schedOnceRow.func=some 3:=by kernel_rfl
theorem Qzt:joinedFacts prog 3 f3 Rows.schedOnceSpec Rows.schedOnceRow=true:=by
 unfold joinedFacts;simp only[Bool.and_eq_true];repeat' (with_reducible apply And.intro)
 all_goals as_aux_lemma=>kernel_rfl
theorem Qin{H:Type}(enc:TypeId×Value→H):Qrx enc prog 3 f3:=by intro W base z Z p d E R Jl;have c:∀(j:Nat)t v,f3.params[j]? =some t→z[j]? =some v→Value.okWide prog W .any base t v:=d;have I:=E;rw[Tryz.params3]at I c;obtain⟨v0,v1,U,V,p0,p1,rfl,rfl,rfl,h0,h1⟩:=trodAll_two I;obtain⟨most,rfl,rfl,rfl,_⟩:=open_int underlying3 (c 0 3 v0 rfl rfl) h0;obtain⟨J,K,q,u⟩:=Qo5 underlying22 Q0n (by kernel_rfl) (by decide) (c 1 22 v1 rfl rfl) h1;obtain⟨l,rfl,hl⟩:=Qe7 Yg.cells Yg.wf J (fun x B=>Yg.of_fits (q x B));obtain⟨a,cap,rfl,_,_,k⟩:=K.row;exact(Qo4 most l a cap W (by simpa using u) k hl).mono fun e w' h=>⟨h.1,h.2.below⟩
theorem Qdx(os:Os)(c:os.Started)(H:Type)(enc:TypeId×Value→H):
  ReturnsInHanded {} Tryz.checked os 3 .any (Rows.schedOnceSpec.pre6 enc prog f3 Rows.schedOnceRow.domain false) (Rows.schedOnceSpec.post enc prog f3 false true false false):=
 Qe6 (C:=Tryz.checked) (tb:=4) own c (by kernel_rfl) func3
  (ChangeSpec.witness6 (enc:=enc) (C:=Tryz.checked) false ⟨#[],#[.int .i64 0,.slice none 0 0],[]⟩ 8 (by kernel_rfl) (by kernel_rfl) (by kernel_rfl) (by kernel_rfl))
  Qyy (by kernel_rfl) rfl underlying4 rfl (fun k d=>by
   match k,d with
   |[d0,d1],_=>rfl) (Qin enc)
theorem schedOnce_holds:Rows.SchedOnceSaid:=
 OpenClaim.holds_of_wide 3 f3 rfl rfl rfl rfl rfl rfl rfl ⟨rfl,rfl,rfl,rfl,rfl⟩ rfl rfl rfl rfl rfl Qxp func3 Qzt
  (of_decide_eq_true (by kernel_rfl)) (by unfold Func.isWrapper;first|(rw[if_pos (by decide+kernel)];kernel_rfl)|(rw[if_neg (by decide+kernel)];exact⟨rfl,rfl⟩))
  (fun os c H enc _=>Qdx os c H enc)
end
end Go.Proofs.YtnnhmpehkbihnaaGreat
