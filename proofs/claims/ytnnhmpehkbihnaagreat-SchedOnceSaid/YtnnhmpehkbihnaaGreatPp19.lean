/- A part of the proof: no condition. -/
import Derived.Test.YtnnhmpehkbihnaaGreatPp18
namespace Go.Proofs.YtnnhmpehkbihnaaGreat
set_option linter.unusedVariables false
set_option maxRecDepth 100000
set_option maxHeartbeats 4000000
open Go.RowKit
open Go.Proofs.Tryz
section
attribute [local go_sem] Qq
attribute [local irreducible] Y4 Jm
section
variable{A:Og}{w:World}{F:Fp}{b:Nat}{p:Qe}{N:Nat}{dep:Int→Nat}
def Vb(w:World)(F:Fp)(b:Nat)(p:Qe):Prop:=∃A,Qo A w F b p
theorem Vb.obj:Ky Vb where
 bd:=fun⟨A,h⟩=>(Qo.obj A).bd h
 own:=fun⟨A,h⟩=>(Qo.obj A).own h
 keep:=fun⟨A,h⟩hc d=>⟨A,(Qo.obj A).keep h hc d⟩
 more:=fun⟨A,h⟩hs c=>⟨A,(Qo.obj A).more h hs c⟩
theorem Qo.ne(h:Qo A w F b p):b≠A.m:=by obtain⟨l,z,u,G,H,h1,⟨_,q,_,c,_,_,d,_⟩,k,_⟩:=h;rintro rfl;exact k _ h1.2.1 (d _ c.at_)
theorem Qo.mlt(h:Qo A w F b p):F A.m:=by obtain⟨l,E,u,G,H,h1,⟨_,q,_,c,_,_,d,_⟩,z,B,k⟩:=h;exact k _ (d _ c.at_)
theorem Qe.set_set(p:Qe){x y:Qv}(h:x.id=y.id):(p.set x).set y=p.set y:=by
 unfold Qe.set;rw[List.map_map];refine List.map_congr_left fun z _=>?_;simp only[Function.comp];by_cases c:z.id=x.id;·rw[if_pos c,if_pos h,if_pos (c.trans h)]
 ·rw[if_neg c]
theorem Qk7{x:Qv}{i:Int}{q:Qv}(h:p.at i=some q):Qe.at (p++[x]) i=some q:=by unfold Qe.at at*;rw[List.find?_append,h];rfl
def Xw(s:Xm):Qv:=⟨s.id,s.par,s.leaf,s.shares,0,Kq s.upper,⟨[],0⟩,[],0⟩
theorem Qqu{s:Xm}{q:Qv}(h1:1≤s.id)(hn:p.at s.id=none)(c:p.at s.par=some q)(hl:q.leaf=false):
  p.put s=Qe.set (p++[Xw s]) {q with mem:=if s.shares then q.mem.add s.id s.share else q.mem,under:=q.under+1}:=by
 unfold Qe.put;rw[c];dsimp only;rw[hn,hl];have:¬s.id<1:=by omega
 simp[this,Xw]
theorem Quc(h:Qo A w F b p)(s:Xm)(h1:1≤s.id)(hn:p.at s.id=none){q:Qv}(hq:p.at s.par=some q)(hl:q.leaf=false)(cc:q.under≤65536):
  Cl 69 #[ptr b,spV s] w fun e w'=>e=.returned (.bool true)∧Vb w' (Qn F w w') b (p.put s)∧Qc F w w':=by
 have R:=(Qo.obj A).bd h;obtain⟨W,hW⟩:=Zx (w.alloc (.cells #[.int .i64 s.id,.int .i64 s.par,.bool s.leaf,.int .u64 (s.real.f:Int),.int .u64 (s.real.l:Int),.int .u64 (s.real.r:Int),.int .u64 (s.share.f:Int),.int .u64 (s.share.l:Int),.int .u64 (s.share.r:Int),.int .u64 (s.upper.f:Int),.int .u64 (s.upper.l:Int),.int .u64 (s.upper.r:Int),.int .i64 s.pk,.int .i64 s.bt] 40));have S0:Hid (J0 W w.heap.size s):=O (by rw[hW];exact J0.new w s);have C0:Hid (Qc Qb w W):=O (by rw[hW];exact(Qc.refl _ _).alloc _);have hP:=(Qo.obj A).keep h C0.out (Je.none F);have au:=O (V6 hP s.par);rw[Xc hq]at au;have aw:=O (V6 hP s.id);rw[Ef hn]at aw;obtain⟨q0,q1,q2,q3,q4,q5,q6,q7⟩:=Q7 (hP.cell hq);rw[hl]at q1;obtain⟨a0,a1,a2,a3,a4,a5,a6,a7,a8,a9,br,bf,bg,bm⟩:=(show J0 (w.alloc _) _ _ from hW▸S0.out).cells;have Jl:¬s.id<1:=by omega
 have ap:=O (fun w=>Qcf s w);have bh:=O (fun w=>Qjp s.upper w);have bi:=O hP.blk;have bw:=O hP.ne;have ba:Hid (w.heap.size≠A.m):=O (fun e=>by have:=R _ h.mlt;omega);obtain⟨am,I⟩:=Zx (p.put s);rw[←I];rw[Qqu h1 hn hq hl]at I;have ai:=O I;clear I;have bd:=O Qjq;have bp:=O Qdd;have al:Hid (∀w0 w1 w2 w3 w4 vb pf pt,Qc Qb W w0→Qc Qb w0 w1→Qc Qb w1 w2→Qc Qb w2 w3→Ue w1 (Qn Qb w0 w1) vb (Kq s.upper)→Jb w2 (Qn Qb w1 w2) pf ⟨[],0⟩→Zo w3 (Qn Qb w2 w3) pt []→
   w4=w3.alloc (.cells #[.int .i64 s.par,.bool s.leaf,.bool s.shares,.int .u64 0,ptr vb,ptr pf,ptr pt,.int .i64 0] 143)→
   ∃w5 K,(Instr.mapUpdate 136 (.map (some A.m)) (.int .i64 s.id) (.pointer (some ⟨w3.heap.size,0,none⟩))).run prog w4=.ok () w5∧Qo K w5 (Qn F W w5) b (p++[Xw s])∧Qc F W w5∧K.ad s.par=A.ad s.par∧K.pf s.par=A.pf s.par):=O (by
  rintro w0 w1 w2 w3 w4 vb pf pt c0 c1 c2 c3 hL hF hT rfl;have c4:Qc Qb w3 (w3.alloc (.cells #[.int .i64 s.par,.bool s.leaf,.bool s.shares,.int .u64 0,ptr vb,ptr pf,ptr pt,.int .i64 0] 143)):=(Qc.refl _ _).alloc _;have hx:=Qye (A:=A) (x:=Xw s) c1 c2 c3 c4 hL hF hT (Qh.new _ _ _);have cW:Qc Qb W (w3.alloc (.cells #[.int .i64 s.par,.bool s.leaf,.bool s.shares,.int .u64 0,ptr vb,ptr pf,ptr pt,.int .i64 0] 143)):=(((c0.trans' c1).trans' c2).trans' c3).trans' c4;have bo:=(V4.obj _).more hx (O1 c0.size (Nat.le_refl _)) (Qcg _ _);obtain⟨w5,r1,r2,r3,r4⟩:=hP.newC (x:=Xw s) hn cW bo;have ar:s.par≠s.id:=fun e=>by rw[e]at hq;rw[hq]at hn;cases hn
  exact⟨w5,_,r1,r2,r3,by simp[Og.put,Xw,ar],by simp[Og.put,Xw,ar]⟩)
 have J:Qe.at (p++[Xw s]) s.par=some q:=Qk7 hq;unfold spV ptr at*;clear h hP hl;go_enter func69,ntmps69;go_wp2_with fail;rw[←hW]at a0 a1 a2 a3 a4 a5 a6 a7 a8 a9 br bf bg bm⊢;clear hW;refine au.out.mono ?_;rintro e w1⟨rfl,rfl⟩;go_wp2_with fail;refine aw.out.mono ?_;rintro e w1⟨rfl,rfl⟩;go_wp2_with fail;refine Z9 [(1,0),(1,1),(1,2),(1,3),(1,4),(1,5),(1,6),(1,7),(1,8),(1,9),(0,10),(1,12),(1,13),(2,11),(2,14),(2,15),(2,16),(0,17),(2,18),(3,19)] (fun wv=>Qc (fun k=>k=A.m) (W) wv) (by kernel_rfl) (by kernel_rfl) ?_ (by(repeat' (first|(with_reducible first|exact Zg _ _|assumption|refine Zh ?_ _|refine Zi ?_ _|refine Zj ?_ |refine Zk ?_ _ ?_ |(apply Or.inl;rfl))|(apply Or.inl;simp;done)|(apply Or.inr;simp;first|done|omega)))) ?_;·exact fun _ _ _ _ _ h=>h
 simp only[Zs,Zf,Ze,Zd];iterate 3 (refine Q4 (by kernel_rfl) (fun wv hv=>by go_simp;try with_reducible rfl) ?_;try simp only[Act.put,Za,Zc,Zb])
 iterate 7 (refine Q4 (by kernel_rfl) (fun wv hv=>by(have zz:=hv.blk S0.out ba.out;have yy:=hv.blk bi.out bw.out;have y0:=Zv yy;obtain⟨z0,z1,z2,z3,z4,z5,z6,z7,z8,z9,bc,bt,bx,be⟩:=(show J0 wv w.heap.size s from zz).cells);go_simp;try with_reducible rfl) ?_;try simp only[Act.put,Za,Zc,Zb])
 obtain⟨b0,b1,b2,b3,b4,b5,b6,b7,b8,b9,ab,aa,ac,ae⟩:=(show J0 W.drew w.heap.size s from S0.out.keep (Qc.refl _ _).drew).cells;refine Jr (by kernel_rfl) (by go_simp;try with_reducible rfl) ?_;clear b0 b1 b2 b3 b4 b5 b6 b7 b8 b9 ab aa ac ae;iterate 2 (refine Q4 (by kernel_rfl) (fun wv hv=>by(have zz:=hv.blk S0.out ba.out;obtain⟨z0,z1,z2,z3,z4,z5,z6,z7,z8,z9,bc,bt,bx,be⟩:=(show J0 wv w.heap.size s from zz).cells);go_simp;try with_reducible rfl) ?_;try simp only[Act.put,Za,Zc,Zb])
 refine Yc ?_;go_wp2_with fail;refine(ap.out _).mono ?_;rintro e w0⟨rfl,c0⟩;have D0:=O c0.undrew;clear c0;go_wp2_with fail;refine⟨D0.out.none,?_⟩;refine Yc ?_;go_wp2_with fail;refine(bh.out _).mono ?_;rintro e w1⟨vb,rfl,hL,c1⟩;have E1:=O c1;have D1:=O (D0.out.trans' c1);have bb:=O hL;clear c1 hL;go_wp2_with fail;refine⟨D1.out.none,?_⟩;refine Yc ?_;go_wp2_with fail;refine(bd.out _).mono ?_;rintro e w2⟨pf,rfl,hF,c2⟩;have E2:=O c2;have D2:=O (D1.out.trans' c2);have bz:=O hF;clear c2 hF;go_wp2_with fail;refine⟨D2.out.none,?_⟩;refine Yc ?_;go_wp2_with fail;refine(bp.out _).mono ?_;rintro e w3⟨pt,rfl,hT,c3⟩;have E3:=O c3;have D3:=O (D2.out.trans' c3);have cb:=O hT;have NN:=O (al.out w0 w1 w2 w3 _ vb pf pt D0.out E1.out E2.out E3.out bb.out bz.out cb.out rfl);clear c3 hT al;unfold ptr at*;go_wp2_with fail;refine⟨D3.out.none,?_⟩;refine Jr (by kernel_rfl) (by go_simp;try with_reducible rfl) ?_;refine Yc ?_;go_wp2_with fail;refine⟨D3.out.none.alloc _,?_⟩;obtain⟨w5,K,bj,av,ax,an,ay⟩:=NN.out;have bs:=O av;have aq:=O ax;have u:=O (And.intro an ay);clear av ax an ay NN;refine V5 ?_;go_wp2_with fail;refine K8 ?_;clear bj;have S5:=O (aq.out.blk S0.out (fun hk=>by have:=R _ hk;omega));obtain⟨b0,b1,b2,b3,b4,b5,b6,b7,b8,b9,ab,aa,ac,ae⟩:=(show J0 w5 w.heap.size s from S5.out).cells;go_wp2_with fail;refine(ap.out _).mono ?_;rintro e w6⟨rfl,c6⟩;have d:=(Qo.obj K).same bs.out c6;obtain⟨d,Z⟩:=(Qo.obj K).two d.1 (R.later C0.out) aq.out d.2;have ah:Hid (∀V P' q',Qo K V (Qn F W V) b P'→Qc F W V→P'.at s.par=some q'→q'.under=q.under→∀w8,w8=V.setCell ⟨A.ad s.par,7,none⟩ (.int .i64 ((q.under:Int)+1))→Vb w8 (Qn F w w8) b (P'.set {q' with under:=q.under+1})∧Qc F w w8):=O (by
  rintro V P' q' h7 ca U hu w8 rfl;obtain⟨bk,ao⟩:=Qe.at_mem U;have E:=h7.cell U;have e0:K.ad q'.id=A.ad s.par:=by rw[ao];exact u.out.1
  obtain⟨k1,k2⟩:=h7.setC (c:=q') (c':={q' with under:=q.under+1}) bk rfl rfl rfl rfl
   (by rw[e0];exact(Qc.refl (fun k=>k=A.ad s.par) V).setCell (a:=⟨A.ad s.par,7,none⟩) (.int .i64 ((q.under:Int)+1)) (.inl rfl))
   (by rw[ao,u.out.1];rw[u.out.1]at E;exact E.set' 7 (.int .i64 ((q.under:Int)+1)) rfl)
  obtain⟨m1,m2⟩:=(Qo.obj K).two k1 (R.later C0.out) ca k2;have c8:Qc F w (V.setCell ⟨A.ad s.par,7,none⟩ (.int .i64 ((q.under:Int)+1))):=C0.out.none.trans' m2;exact⟨⟨K,(Qo.obj K).more m1 (Yl C0.out.size) (R.ext c8)⟩,c8⟩)
 have ew:IntKind.i64.wrap ((q.under:Int)+1)=(q.under:Int)+1:=by rw[IntWalk.i64_in _ (by omega)]
 rcases Bool.eq_false_or_eq_true s.shares with B|B
 ·have z:=d.drew.cell J;rw[u.out.1,u.out.2]at z;obtain⟨_,_,_,_,_,e5,_,_⟩:=Q7 z;have af:s.share.May:=by unfold Xm.shares at B;simp only[Bool.and_eq_true,decide_eq_true_eq]at B;exact B.2
  have bv:Hid (Cl 127 #[ptr (A.pf s.par),.int .i64 s.id,cV s.share] w6.drew fun e w'=>(∃r,e=.returned (.bool r))∧Qo K w' (Qn F W w') b ((p++[Xw s]).set {q with mem:=q.mem.add s.id s.share})∧Qc F W w'):=O (by
   obtain⟨G,hF,_,ag⟩:=d.drew.famAt J;rw[u.out.2]at hF ag;refine(Qjs hF s.id s.share af).mono ?_;rintro e V⟨hr,hf,c7⟩;obtain⟨m1,m2⟩:=ag _ V _ (Qc.refl Qb _) hf c7;obtain⟨n1,n2⟩:=(Qo.obj K).two (w1:=w6) m1 (R.later C0.out) Z m2.undrew;exact⟨hr,n1,n2⟩)
  have ak:=(Qe.at_mem J).2;have U:((p++[Xw s]).set {q with mem:=q.mem.add s.id s.share}).at s.par=some {q with mem:=q.mem.add s.id s.share}:=by have:=Vi (p:=p++[Xw s]) (x:={q with mem:=q.mem.add s.id s.share}) (y:=q) (by show Qe.at _ q.id=_;rw[ak];exact J);rw[←ak];exact this
  have az:=O U;have SS:=O (Qe.set_set (p++[Xw s]) (x:={q with mem:=q.mem.add s.id s.share}) (y:={q with mem:=q.mem.add s.id s.share,under:=q.under+1}) rfl);have aj:Hid (am=((p++[Xw s]).set {q with mem:=q.mem.add s.id s.share}).set {q with mem:=q.mem.add s.id s.share,under:=q.under+1}):=O (by rw[ai.out,if_pos B];exact SS.out.symm);obtain⟨g0,g1,g2,g3,g4,g5,g6,g7,g8,g9,bn,bl,bu,bq⟩:=(show J0 w6.drew w.heap.size s from c6.drew.blk S5.out (fun h=>h)).cells;unfold ptr cV at*;clear d Z z af ak U b0 b1 b2 b3 b4 b5 b6 b7 b8 b9 ab aa ac ae c6;rw[B];go_wp2_with fail;refine Qi [(0,0),(0,1),(0,2),(0,3),(0,4),(0,5),(0,6),(0,7),(2,8)] (by kernel_rfl) (by kernel_rfl) ?_ ?_;·exact fun _ _ _ _ _ h=>h
  simp only[Zs,Zf,Ze,Zd];iterate 8 (refine Zz (by kernel_rfl) (by go_simp;try with_reducible rfl) ?_)
  clear g0 g1 g2 g3 g4 g5 g6 g7 g8 g9 bn bl bu bq e5;refine Jj ?_;go_wp2_with fail;refine bv.out.mono ?_;rintro e V⟨⟨r,rfl⟩,h7,c7⟩;have E:=h7.cell az.out;rw[u.out.1]at E;obtain⟨_,_,_,_,_,_,_,e7⟩:=Q7 E;have z7:=E.frozen 7;have FF:=O (ah.out V _ _ h7 c7 az.out rfl _ rfl);clear h7 c7 E;go_wp2_with fail;refine Zu ?_;go_wp2_with fail;go_ret;exact⟨rfl,by rw[aj.out];exact FF.out⟩
 ·have z:=d.cell J;rw[u.out.1]at z;obtain⟨_,_,_,_,_,_,_,e7⟩:=Q7 z;have z7:=z.frozen 7;have FF:=O (ah.out w6 _ q d Z J rfl _ rfl);have aj:Hid (am=(p++[Xw s]).set {q with under:=q.under+1}):=O (by rw[ai.out,if_neg (by rw[B];decide)]);rw[B];clear d Z c6 z b0 b1 b2 b3 b4 b5 b6 b7 b8 b9 ab aa ac ae;go_wp2_with fail;go_ret;exact⟨rfl,by rw[aj.out];exact FF.out⟩
end
section
variable{A:Og}{w:World}{F:Fp}{b:Nat}{p:Qe}{N:Nat}{dep:Int→Nat}
theorem Qo.delC(h:Qo A w F b p)(i:Int)(I ty:TypeId):
  ∃w',(Builtin.delete_ #[136,I] ty #[.map (some A.m),.int .i64 i]).run prog w=.ok (.tuple #[]) w'∧Qo A w' (Qn F w w') b (p.filter fun x=>!decide (x.id=i))∧Qc F w w':=by
 obtain⟨l,K,hs⟩:=h;obtain⟨G,u,J,_,q⟩:=Ju 1 (Y8 A b l) rfl hs;obtain⟨w',d,B,c⟩:=Uq (P:=prog) u.map underlying136 underlying3 I ty i;have z:Qc G w w':=c.sub fun k E=>E▸u.at_;have h1:Xy Qv.id (V4 A) w' (Qn G w w') A.m A.ad (Yw Qv.id i l):=(u.del (V4.obj A) i B c).more (fun k E=>.inl E) (u.bd.ext z);exact⟨w',d,⟨Yw Qv.id i l,K.filter _,q w' (fun w G=>Xy Qv.id (V4 A) w G A.m A.ad (Yw Qv.id i l)) z h1⟩,z.sub J⟩
theorem drop_eq{i:Int}{c q:Qv}(h1:1≤i)(hc:p.at i=some c)(d:c.under=0)(ha:p.awake i=false)(k:p.at c.par=some q):
  p.drop i=(p.set {q with mem:=q.mem.drop i,under:=q.under-1}).filter fun x=>!decide (x.id=i):=by
 unfold Qe.drop;rw[hc];dsimp only;rw[ha,d,k];have:¬i<1:=by omega
 simp[this]
theorem Qqv(h:Qo A w F b p)(J:Qp dep N p){i:Int}{c q:Qv}(h1:1≤i)(hc:p.at i=some c)(hu:c.under=0)(ha:p.awake i=false)(E:p.at c.par=some q)(am:1≤q.under):
  Cl 111 #[ptr b,.int .i64 i] w fun e w'=>e=.returned (.bool true)∧Qo A w' (Qn F w w') b (p.drop i)∧Qc F w w':=by
 have V:=(Qo.obj A).bd h;have HA:=O (V6 h i);rw[Xc hc]at HA;have U:=O (U7 h J i);rw[ha]at U;have ae:=(J.ok q (Qe.at_mem E).1).under;obtain⟨ag,d⟩:=Zx (p.drop i);rw[←d];rw[drop_eq h1 hc hu ha E]at d;have aa:=O d;obtain⟨_,c1,_,_,_,_,_,c7⟩:=Q7 (h.cell hc);rw[hu]at c7;have Jl:¬i<1:=by omega
 have K:=(Qe.at_mem E).2;have ew:IntKind.i64.wrap ((q.under:Int)-1)=((q.under-1:Nat):Int):=by rw[IntWalk.i64_in _ (by omega)];omega
 have ai:Hid (∀w1,Qc Qb w w1→Cl 173 #[ptr (A.pf c.par),.int .i64 i] w1 fun e w'=>(∃r,e=.returned (.bool r))∧Qo A w' (Qn F w w') b (p.set {q with mem:=q.mem.drop i})∧Qc F w w'):=O (by
  intro w1 cc;obtain⟨G,hF,an,ac⟩:=h.famAt E;refine(Qgq (Jb.obj.keep hF cc (Je.none G)) i).mono ?_;rintro e w2⟨rfl,hf,c2⟩;obtain⟨m1,m2⟩:=ac w1 w2 _ cc hf c2;exact⟨⟨_,rfl⟩,m1,m2⟩)
 have B:(p.set {q with mem:=q.mem.drop i}).at c.par=some {q with mem:=q.mem.drop i}:=by have:=Vi (p:=p) (x:={q with mem:=q.mem.drop i}) (y:=q) (by show p.at q.id=_;rw[K];exact E);rw[←K];exact this
 have SS:=O (Qe.set_set p (x:={q with mem:=q.mem.drop i}) (y:={q with mem:=q.mem.drop i,under:=q.under-1}) rfl);have af:Hid (∀w2,Qo A w2 (Qn F w w2) b (p.set {q with mem:=q.mem.drop i})→Qc F w w2→∀w3,w3=w2.setCell ⟨A.ad c.par,7,none⟩ (.int .i64 ((q.under-1:Nat):Int))→
   w3.cell? ⟨b,0,none⟩=some (.map (some A.m))∧∃I,(Builtin.delete_ #[136,3] 0 #[.map (some A.m),.int .i64 i]).run prog w3=.ok (.tuple #[]) I∧Qo A I (Qn F w I) b ag∧Qc F w I):=O (by
  rintro w2 R aj w3 rfl;obtain⟨ak,ab⟩:=Qe.at_mem B;have z:=R.cell B;have e0:A.ad ({q with mem:=q.mem.drop i}:Qv).id=A.ad c.par:=by rw[ab]
  obtain⟨k1,k2⟩:=R.setC (c:={q with mem:=q.mem.drop i}) (c':={q with mem:=q.mem.drop i,under:=q.under-1}) ak rfl rfl rfl rfl
   (by rw[e0];exact(Qc.refl (fun k=>k=A.ad c.par) w2).setCell (a:=⟨A.ad c.par,7,none⟩) (.int .i64 ((q.under-1:Nat):Int)) (.inl rfl))
   (by rw[ab];exact z.set' 7 (.int .i64 ((q.under-1:Nat):Int)) rfl)
  obtain⟨m1,m2⟩:=(Qo.obj A).two k1 V aj k2;refine⟨Zv m1.blk,?_⟩;obtain⟨I,Z,h4,c4⟩:=m1.delC i 3 0;obtain⟨n1,n2⟩:=(Qo.obj A).two h4 V m2 c4;refine⟨I,Z,?_,n2⟩;rw[aa.out,←SS.out];exact n1)
 have ah:=O B;have HC:=O (h.cell hc);have HQ:=O (h.cell E);have HL:=O (fun w'(cc:Qc Qb w w')=>((Qo.obj A).keep h cc (Je.none F)).look1 c.par);rw[Xc E]at HL;have HB:=O h.blk;unfold ptr at*;clear h J hc E hu ha d ae K B;go_enter func111,ntmps111;go_wp2_with fail;refine HA.out.mono ?_;rintro e w1⟨rfl,rfl⟩;go_wp2_with fail;refine U.out.mono ?_;rintro e w1⟨rfl,u⟩;have C1:=O u;obtain⟨d0,_,_,_,_,_,_,_⟩:=Q7 (u.drew.blk HC.out (fun h=>h));obtain⟨_,_,_,_,_,q5,_,_⟩:=Q7 (u.drew.blk HQ.out (fun h=>h));have hL:=HL.out _ u.drew;have y0:=Zv (u.drew.blk HB.out (fun h=>h));unfold ptr at*;clear u c1 c7;go_wp2_with fail;refine Qi [(0,0),(0,1),(0,2),(0,3),(0,4),(0,5),(0,6),(0,7),(0,8),(2,9)] (by kernel_rfl) (by kernel_rfl) ?_ ?_;·exact fun _ _ _ _ _ h=>h
 simp only[Zs,Zf,Ze,Zd];iterate 9 (refine Zz (by kernel_rfl) (by go_simp;try with_reducible rfl) ?_)
 refine Jj ?_;go_wp2_with fail;refine Zu ?_;go_wp2_with fail;refine(ai.out _ C1.out.drew).mono ?_;rintro e w2⟨⟨r,rfl⟩,R,c2⟩;have z:=R.cell ah.out;obtain⟨_,_,_,_,_,_,_,e7⟩:=Q7 z;have z7:=z.frozen 7;obtain⟨t0,I,al,h4,c4⟩:=af.out w2 R c2 _ rfl;have H4:=O (And.intro h4 c4);clear R c2 z h4 c4 d0 q5 hL y0;go_wp2;go_ret;exact⟨rfl,H4.out⟩
end
section
variable{A:Og}{w:World}{F:Fp}{b:Nat}{p:Qe}{N:Nat}{dep:Int→Nat}
def Og.lim(A:Og)(i:Int)(c:Value):Og:=⟨A.m,A.ad,fun j=>if j=i then c else A.vl j,A.pf,A.pt⟩
theorem Qwu{i:Int}{d:Value}{c:Qv}(h:c.id≠i):Qaj (A.lim i d) c=Qaj A c:=by unfold Qaj Og.lim;simp only[h,if_false]
theorem Qo.renewed(h:Qo A w F b p){c c':Qv}(hc:c∈p)(K:c'.id=c.id)(hm:c'.mem=c.mem)(ht:c'.tree=c.tree){w0 w1 w2:World}{B:Nat}(aa:Qc Qb w w0)(c1:Qc Qb w0 w1)(hl:Ue w1 (Qn Qb w0 w1) B c'.limit)
  (c2:Qc (fun k=>k=A.ad c.id) w1 w2) (hb:Qh w2 (A.ad c.id) (Qbc c' (ptr B) (A.pf c.id) (A.pt c.id)) 143):Qo (A.lim c.id (ptr B)) w2 (Qn F w w2) b (p.set c')∧Qc F w w2:=by
 have an:=(Qo.obj A).bd h;obtain⟨l,hp,hs⟩:=h;obtain⟨H,h1,h2,_,h3⟩:=Ju 1 (Y8 A b l) rfl hs;have ag:c∈l:=hp.mem_iff.2 hc;obtain⟨G,k1,k2,k3⟩:=h1.ex;have ac:=(k1 c ag).2;obtain⟨al,G0,R0,g0,ah,d0,s0,s1⟩:=ac;obtain⟨_,G1,R1,g1,af,d1,s2,s3⟩:=ah;obtain⟨_,G2,R2,g2,ai,d2,s4,s5⟩:=af;obtain⟨_,G3,R3,g3,_,d3,s6,_⟩:=ai;have cc:Qc (G c.id) w w2:=(aa.none.trans' c1.none).trans' (c2.sub fun k d=>d▸s0 _ g0.2.1);have cH:Qc H w w2:=cc.sub fun k d=>(k2 _ k d).1;have u:Bd (G c.id) w:=al;have cA:Qc Qb w w1:=aa.trans' c1;have z1:=c1.size;have z2:=c2.size;have z0:=aa.size;have V:∀k,G2 k→k≠A.ad c.id:=fun k d e=>d0 (A.ad c.id) g0.2.1 (s3 _ (s4 _ (e▸d)));have R:∀k,G3 k→k≠A.ad c.id:=fun k d e=>d0 (A.ad c.id) g0.2.1 (s3 _ (s5 _ (s6 _ (e▸d))));have z:∀k,G2 k→G c.id k:=fun k d=>s1 _ (s3 _ (s4 _ d));have q:∀k,G3 k→G c.id k:=fun k d=>s1 _ (s3 _ (s5 _ (s6 _ d)));have ak:A.ad c.id<w.heap.size:=u _ (s0 _ g0.2.1);have f2:Jb w2 G2 (A.pf c.id) c'.mem:=by rw[hm];exact Jb.obj.keep (Jb.obj.keep g2 cA (Je.none _)) c2 (fun k d e=>V k d e)
 have f3:Zo w2 G3 (A.pt c.id) c'.tree:=by rw[ht];exact Zo.obj.keep (Zo.obj.keep g3 cA (Je.none _)) c2 (fun k d e=>R k d e)
 have f1:Dd (ptr B) c'.limit w2 (Qn Qb w0 w1):=.inr ⟨B,rfl,Ue.obj.keep hl c2 (fun k d e=>by have:=((Qt k).1 d).1;omega)⟩;have ab:Bd (Qn (G c.id) w w2) w2:=u.ext cc;have hX:V4 (A.lim c.id (ptr B)) w2 (Qn (G c.id) w w2) (A.ad c.id) c':=by
  refine⟨by rw[K];rfl,?_⟩;have e2:(A.lim c.id (ptr B)).vl c'.id=ptr B:=by simp[Og.lim,K]
  unfold Qaj;rw[e2];show Hu [Qa8 (A.ad c'.id) (Qbc c' (ptr B) (A.pf c'.id) (A.pt c'.id)) 143,Dd (ptr B) c'.limit,fun w F=>Jb w F (A.pf c'.id) c'.mem,fun w F=>Zo w F (A.pt c'.id) c'.tree] w2 _;rw[K];have Z:∀{U:Fp},(∀k,U k→Qn (G c.id) w w2 k)→Bd U w2:=fun hU=>ab.sub hU;have u1:∀k,Qn Qb w0 w1 k→Qn (G c.id) w w2 k:=fun k d=>.inr ⟨by have:=((Qt k).1 d).1;omega,by have:=((Qt k).1 d).2;omega⟩;refine Zl (G:=fun k=>k=A.ad c.id) (H:=fun k=>Qn Qb w0 w1 k∨G2 k∨G3 k) ⟨hb,rfl,fun k e=>e▸hb.lt⟩ ?_ ?_ (fun k e=>e▸ .inl (s0 _ g0.2.1)) ?_ ab
  ·refine Zl (G:=Qn Qb w0 w1) (H:=fun k=>G2 k∨G3 k) f1 ?_ ?_ (fun k d=>.inl d) (fun k d=>.inr d) (Z fun k d=>d.elim (u1 k) (fun d=>d.elim (fun d=>.inl (z k d)) (fun d=>.inl (q k d))));·refine Zl (G:=G2) (H:=G3) f2 (Yv f3 (Z fun k d=>.inl (q k d))) (fun k a b=>d2 k a (s6 _ b)) (fun k d=>.inl d) (fun k d=>.inr d) (Z fun k d=>d.elim (fun d=>.inl (z k d)) (fun d=>.inl (q k d)))
   ·intro k d I;have:=((Qt k).1 d).1;rcases I with I|I;·have:=u k (z k I);omega
    ·have:=u k (q k I);omega
  ·rintro k rfl d;rcases d with d|d|d;·have:=((Qt _).1 d).1;omega
   ·exact V _ d rfl
   ·exact R _ d rfl
  ·intro k d;rcases d with d|d|d;·exact u1 k d
   ·exact .inl (z k d)
   ·exact .inl (q k d)
 have am:=h1.map.lt;have hC:Xy Qv.id (V4 (A.lim c.id (ptr B))) w2 (Qn H w w2) A.m A.ad (Dc Qv.id c' l):=by
  refine⟨?_,h1.bd.ext cH,.inl h1.at_,fun i=>if i=c.id then Qn (G c.id) w w2 else G i,?_,?_,?_⟩;·rw[Qiz];exact h1.map.keep cc fun E=>(k2 _ _ E).2 rfl
  ·intro y hy;rcases Qfj (x:=c) h1.nodup hy with rfl|⟨hy,aj⟩;·dsimp only;rw[K,if_pos rfl];exact hX
   ·dsimp only;have J:y.id≠c.id:=by rw[←K];exact aj
    rw[if_neg J];have ae:=(V4.obj A).keep (k1 y hy) cc (fun k a b=>J (k3 _ _ k a b));exact⟨ae.1,by rw[Qwu J];exact ae.2⟩
  ·intro i k E;try dsimp only at E
   split at E
   ·rcases E with E|E;·exact⟨.inl (k2 _ k E).1,(k2 _ k E).2⟩
    ·exact⟨.inr E,by omega⟩
   ·exact⟨.inl (k2 i k E).1,(k2 i k E).2⟩
  ·intro i j k a b;try dsimp only at a b
   split at a<;>split at b;·rename_i e1 e2;rw[e1,e2]
   ·rename_i e1 e2;rcases a with a|a;·rw[e1];exact k3 _ _ k a b
    ·have:=h1.bd k (k2 j k b).1;omega
   ·rename_i e1 e2;rcases b with b|b;·rw[e2];exact k3 _ _ k a b
    ·have:=h1.bd k (k2 i k a).1;omega
   ·exact k3 _ _ k a b
 have e3:=h3 w2 (fun w G=>Xy Qv.id (V4 (A.lim c.id (ptr B))) w G A.m A.ad (Dc Qv.id c' l)) cH hC;exact⟨⟨Dc Qv.id c' l,hp.map _,e3⟩,cH.sub h2⟩
theorem Qyf{i:Int}{c:Qv}{g:Qv→Qv}(hn:(p.map Qv.id).Nodup)(hc:p.at i=some c)(q:(g c).id=c.id):(p.map fun x=>if x.id=i then g x else x)=p.set (g c):=by
 obtain⟨u,d⟩:=Qe.at_mem hc;unfold Qe.set;refine List.map_congr_left fun x k=>?_;rw[q,d];by_cases e:x.id=i;·rw[if_pos e,if_pos e];have h1:=Qe.at_of hn k;rw[e,hc]at h1;rw[Option.some.inj h1]
 ·rw[if_neg e,if_neg e]
theorem Qwv{x y:Qv}(h:x.id≠y.id):(p.set x).set y=(p.set y).set x:=by
 unfold Qe.set;rw[List.map_map,List.map_map];refine List.map_congr_left fun z _=>?_;simp only[Function.comp];by_cases h1:z.id=x.id;·rw[if_pos h1,if_neg h,if_neg (fun e=>h (h1.symm.trans e)),if_pos h1]
 ·rw[if_neg h1];by_cases c:z.id=y.id;·rw[if_pos c,if_neg (fun e=>h e.symm)]
  ·rw[if_neg c,if_neg h1]
def Vx(c:Qv)(s:Xm):Qv:={c with shares:=s.shares,total:=0,limit:=Kq s.upper}
theorem Qg2{s:Xm}{c q:Qv}(d:Qp dep N p)(h1:1≤s.id)(hc:p.at s.id=some c)(ha:p.awake s.id=false)(B:p.at c.par=some q):
  p.renew s=if s.shares then((p.set {q with mem:=q.mem.drop s.id}).set (Vx c s)).set {q with mem:=(q.mem.drop s.id).add s.id s.share}else(p.set {q with mem:=q.mem.drop s.id}).set (Vx c s):=by
 obtain⟨k,E⟩:=d.pid hc (by omega) B;have z:=(Qe.at_mem hc).2;have key:∀f:Q9→Q9,((p.fam s.id f).map fun x=>if x.id=s.id then{x with shares:=s.shares,total:=0,limit:=Kq s.upper}else x)=(p.set {q with mem:=f q.mem}).set (Vx c s):=fun f=>by rw[Eg hc B];have u:(p.set {q with mem:=f q.mem}).at s.id=some c:=(Kr (x:={q with mem:=f q.mem}) (show s.id≠q.id from fun e=>k e.symm)).trans hc;exact Qyf (g:=fun x=>{x with shares:=s.shares,total:=0,limit:=Kq s.upper}) (by rw[Qsg];exact d.nd) u rfl
 have e:p.renew s=((p.fam s.id fun f=>if s.shares then(f.drop s.id).add s.id s.share else f.drop s.id).map fun x=>if x.id=s.id then{x with shares:=s.shares,total:=0,limit:=Kq s.upper}else x):=by
  unfold Qe.renew;rw[hc];dsimp only;rw[ha];have:¬s.id<1:=by omega
  simp[this]
 rw[e,key];cases hs:s.shares with
 |false=>simp
 |true=> simp only[if_true];rw[←Qwv (p:=p.set {q with mem:=q.mem.drop s.id}) (x:={q with mem:=(q.mem.drop s.id).add s.id s.share}) (y:=Vx c s) (show q.id≠c.id from by rw[z];exact k)];rw[Qe.set_set p (x:={q with mem:=q.mem.drop s.id}) (y:={q with mem:=(q.mem.drop s.id).add s.id s.share}) rfl]
end
section
variable{A:Og}{w:World}{F:Fp}{b:Nat}{p:Qe}{N:Nat}{dep:Int→Nat}
theorem Qnz(h:Qo A w F b p)(ab:Qp dep N p)(s:Xm){c q:Qv}(h1:1≤s.id)(hc:p.at s.id=some c)(ha:p.awake s.id=false)(hq:p.at c.par=some q):
  Cl 109 #[ptr b,spV s] w fun e w'=>e=.returned (.bool true)∧Vb w' (Qn F w w') b (p.renew s)∧Qc F w w':=by
 have am:=(Qo.obj A).bd h;obtain⟨W,hW⟩:=Zx (w.alloc (.cells #[.int .i64 s.id,.int .i64 s.par,.bool s.leaf,.int .u64 (s.real.f:Int),.int .u64 (s.real.l:Int),.int .u64 (s.real.r:Int),.int .u64 (s.share.f:Int),.int .u64 (s.share.l:Int),.int .u64 (s.share.r:Int),.int .u64 (s.upper.f:Int),.int .u64 (s.upper.l:Int),.int .u64 (s.upper.r:Int),.int .i64 s.pk,.int .i64 s.bt] 40));have S0:Hid (J0 W w.heap.size s):=O (by rw[hW];exact J0.new w s);have C0:Hid (Qc Qb w W):=O (by rw[hW];exact(Qc.refl _ _).alloc _);have hP:=(Qo.obj A).keep h C0.out (Je.none F);have bc:=(Qo.obj A).bd hP;have HA:=O (V6 hP s.id);rw[Xc hc]at HA;have an:=O (U7 hP ab s.id);rw[ha]at an;obtain⟨a0,a1,a2,a3,a4,a5,a6,a7,a8,a9,ay,ao,aq,av⟩:=(show J0 (w.alloc _) _ _ from hW▸S0.out).cells;have Jl:¬s.id<1:=by omega
 have bi:=O (fun w=>Qcf s w);have bf:=O (fun w=>Qjp s.upper w);obtain⟨bo,E⟩:=Zx (p.renew s);rw[←E];rw[Qg2 ab h1 hc ha hq]at E;have ai:=O E;obtain⟨al,af⟩:=ab.pid hc (by omega) hq;obtain⟨ax,I⟩:=Qe.at_mem hc;have bd:Hid (∀w1,Qc Qb W w1→Cl 173 #[ptr (A.pf c.par),.int .i64 s.id] w1 fun e w'=>(∃r,e=.returned (.bool r))∧Qo A w' (Qn F W w') b (p.set {q with mem:=q.mem.drop s.id})∧Qc F W w'):=O (by
  intro w1 cc;obtain⟨G,hF,bn,U⟩:=hP.famAt hq;refine(Qgq (Jb.obj.keep hF cc (Je.none G)) s.id).mono ?_;rintro e w2⟨rfl,hf,c2⟩;obtain⟨m1,m2⟩:=U w1 w2 _ cc hf c2;exact⟨⟨_,rfl⟩,m1,m2⟩)
 have ae:(p.set {q with mem:=q.mem.drop s.id}).at s.id=some c:=(Kr (x:={q with mem:=q.mem.drop s.id}) (show s.id≠q.id from fun e=>al e.symm)).trans hc;have aw:(p.set {q with mem:=q.mem.drop s.id}).at c.par=some {q with mem:=q.mem.drop s.id}:=by have:=Vi (p:=p) (x:={q with mem:=q.mem.drop s.id}) (y:=q) (by show p.at q.id=_;rw[af];exact hq);rw[←af];exact this
 have ar:((p.set {q with mem:=q.mem.drop s.id}).set (Vx c s)).at c.par=some {q with mem:=q.mem.drop s.id}:=(Kr (x:=Vx c s) (show c.par≠c.id from fun e=>al (by rw[af,e,I]))).trans aw;have ag:F (A.ad s.id):=by obtain⟨G,g1,g2,_⟩:=hP.part ax 0 rfl;rw[←I];exact g2 _ g1.2.1
 have bk:Hid (w.heap.size≠A.ad s.id):=O (fun e=>by have:=am _ ag;omega);have nF:¬F w.heap.size:=fun hk=>by have:=am _ hk;omega
 have NF:=O nF;have au:Hid (∀w2 w3 w4 u,Qo A w2 (Qn F W w2) b (p.set {q with mem:=q.mem.drop s.id})→Qc F W w2→Qc Qb w2 w3→Qc Qb w3 w4→Ue w4 (Qn Qb w3 w4) u (Kq s.upper)→∀d,d=((w4.setCell ⟨A.ad s.id,2,none⟩ (.bool s.shares)).setCell ⟨A.ad s.id,3,none⟩ (.int .u64 0)).setCell ⟨A.ad s.id,4,none⟩ (ptr u)→
   Qo (A.lim s.id (ptr u)) d (Qn F W d) b ((p.set {q with mem:=q.mem.drop s.id}).set (Vx c s))∧Qc F W d):=O (by
  rintro w2 w3 w4 u h2 be c3 c4 hL d rfl;have aa:=c4.blk (c3.blk (h2.cell ae) (fun h=>h)) (fun h=>h);have ba:=(Qe.at_mem ae).1;have r:=h2.renewed (c:=c) (c':=Vx c s) ba rfl rfl rfl c3 c4 hL (w2:=((w4.setCell ⟨A.ad s.id,2,none⟩ (.bool s.shares)).setCell ⟨A.ad s.id,3,none⟩ (.int .u64 0)).setCell ⟨A.ad s.id,4,none⟩ (ptr u))
   (by rw[I];exact(((Qc.refl (fun k=>k=A.ad s.id) w4).setCell (a:=⟨A.ad s.id,2,none⟩) _ (.inl rfl)).setCell (a:=⟨A.ad s.id,3,none⟩) _ (.inl rfl)).setCell (a:=⟨A.ad s.id,4,none⟩) _ (.inl rfl))
   (by rw[I];exact((aa.set' 2 (.bool s.shares) rfl).set' 3 (.int .u64 0) rfl).set' 4 (ptr u) rfl)
  rw[I]at r;obtain⟨r1,r2⟩:=r;exact(Qo.obj _).two r1 bc be r2)
 have ah:Hid (∀A' w' p',Qo A' w' (Qn F W w') b p'→Qc F W w'→Vb w' (Qn F w w') b p'∧Qc F w w'):=O (fun A' w' p' h' c'=>by
  have c2:Qc F w w':=C0.out.none.trans' c';exact⟨⟨A',(Qo.obj A').more h' (Yl C0.out.size) (am.ext c2)⟩,c2⟩)
 have HC:=O (hP.cell hc);have HQ:=O (hP.cell hq);have HL:=O (fun w'(cc:Qc Qb W w')=>((Qo.obj A).keep hP cc (Je.none F)).look1 c.par);rw[Xc hq]at HL;have HB:=O hP.blk;have bh:=O ae;have bj:=O ar;have bg:=O bc;have bm:Hid (s.shares=true→∀d u,Qo (A.lim s.id (ptr u)) d (Qn F W d) b ((p.set {q with mem:=q.mem.drop s.id}).set (Vx c s))→Qc F W d→Cl 127 #[ptr (A.pf c.par),.int .i64 s.id,cV s.share] d fun e w'=>(∃r,e=.returned (.bool r))∧Qo (A.lim s.id (ptr u)) w' (Qn F W w') b (((p.set {q with mem:=q.mem.drop s.id}).set (Vx c s)).set {q with mem:=(q.mem.drop s.id).add s.id s.share})∧Qc F W w'):=O (by
  intro hs d u h5 c5;have ap:s.share.May:=by unfold Xm.shares at hs;simp only[Bool.and_eq_true,decide_eq_true_eq]at hs;exact hs.2
  obtain⟨G,hF,_,U⟩:=h5.famAt bj.out;refine(Qjs hF s.id s.share ap).mono ?_;rintro e w7⟨hr,hf,c7⟩;obtain⟨m1,m2⟩:=U _ w7 _ (Qc.refl Qb _) hf c7;obtain⟨n1,n2⟩:=(Qo.obj _).two m1 bg.out c5 m2;exact⟨hr,n1,n2⟩)
 unfold spV ptr cV at*;clear h hP ab hc hq ha E af I ax ae aw ar al nF ag;go_enter func109,ntmps109;go_wp2_with fail;rw[←hW]at a0 a1 a2 a3 a4 a5 a6 a7 a8 a9 ay ao aq av⊢;clear hW;refine HA.out.mono ?_;rintro e w1⟨rfl,rfl⟩;go_wp2_with fail;refine an.out.mono ?_;rintro e w1⟨rfl,z⟩;have C1:=O z;obtain⟨d0,_,_,_,_,_,_,_⟩:=Q7 (z.drew.blk HC.out (fun h=>h));obtain⟨_,_,_,_,_,q5,_,_⟩:=Q7 (z.drew.blk HQ.out (fun h=>h));have hL:=HL.out _ z.drew;have y0:=Zv (z.drew.blk HB.out (fun h=>h));obtain⟨z0,z1,z2,z3,z4,z5,z6,z7,z8,z9,K,V,Z,R⟩:=(show J0 w1.drew w.heap.size s from z.drew.blk S0.out (fun h=>h)).cells;unfold ptr at*;clear z a0 a1 a2 a3 a4 a5 a6 a7 a8 a9 ay ao aq av;go_wp2_with fail;refine Qi [(0,0),(0,1),(0,2),(0,3),(0,4),(0,5),(0,6),(0,7),(0,8),(0,9),(0,10),(0,11),(2,12)] (by kernel_rfl) (by kernel_rfl) ?_ ?_;·exact fun _ _ _ _ _ h=>h
 simp only[Zs,Zf,Ze,Zd];iterate 12 (refine Zz (by kernel_rfl) (by go_simp;try with_reducible rfl) ?_)
 refine Jj ?_;go_wp2_with fail;refine Zu ?_;go_wp2_with fail;refine(bd.out _ C1.out.drew).mono ?_;rintro e w2⟨⟨r,rfl⟩,h2,c2⟩;have H2:=O (And.intro h2 c2);have S2:=O (c2.blk S0.out NF.out);have bb:=O (h2.cell bh.out);clear h2 c2 d0 q5 hL y0 z0 z1 z2 z3 z4 z5 z6 z7 z8 z9 K V Z R;obtain⟨z0,z1,z2,z3,z4,z5,z6,z7,z8,z9,K,V,Z,R⟩:=(show J0 w2.drew w.heap.size s from(Qc.refl Qb w2).drew.blk S2.out (fun h=>h)).cells;go_wp2_with fail;refine Z9 [(1,0),(1,1),(1,2),(0,3),(1,5),(1,6),(2,4),(2,7),(0,8),(0,9),(2,10),(0,11),(0,12),(2,13),(0,14),(0,15),(3,16)] (fun wv=>Qc (fun k=>k=A.ad s.id) (w2) wv) (by kernel_rfl) (by kernel_rfl) ?_ (by(repeat' (first|(with_reducible first|exact Zg _ _|assumption|refine Zh ?_ _|refine Zi ?_ _|refine Zj ?_ |refine Zk ?_ _ ?_ |(apply Or.inl;rfl))|(apply Or.inl;simp;done)|(apply Or.inr;simp;first|done|omega)))) ?_;·exact fun _ _ _ _ _ h=>h
 simp only[Zs,Zf,Ze,Zd];iterate 3 (refine Q4 (by kernel_rfl) (fun wv hv=>by go_simp;try with_reducible rfl) ?_;try simp only[Act.put,Za,Zc,Zb])
 refine Jr (by kernel_rfl) (by go_simp;try with_reducible rfl) ?_;(refine Q4 (by kernel_rfl) (fun wv hv=>by go_simp;try with_reducible rfl) ?_;try simp only[Act.put,Za,Zc,Zb]);clear z0 z1 z2 z3 z4 z5 z6 z7 z8 z9 K V Z R;iterate 1 (refine Q4 (by kernel_rfl) (fun wv hv=>by(have zz:=hv.blk S2.out bk.out;obtain⟨z0,z1,z2,z3,z4,z5,z6,z7,z8,z9,K,V,Z,R⟩:=(show J0 wv w.heap.size s from zz).cells);go_simp;try with_reducible rfl) ?_;try simp only[Act.put,Za,Zc,Zb])
 refine Yc ?_;go_wp2_with fail;refine(bi.out _).mono ?_;rintro e w3⟨rfl,c3⟩;have D3:=O c3.undrew;clear c3;go_wp2_with fail;refine⟨D3.out.none,?_⟩;refine Yc ?_;go_wp2_with fail;refine(bf.out _).mono ?_;rintro e w4⟨u,rfl,az,c4⟩;have D4:=O c4;have R5:=O (au.out w2 w3 w4 u H2.out.1 H2.out.2 D3.out c4 az _ rfl);have aa:=c4.blk (D3.out.blk bb.out (fun h=>h)) (fun h=>h);have B4:=O aa;have aj:=O (D3.out.trans' c4);have z2:=aa.frozen 2;have y2:=(Q7 aa).2.2.1;clear c4 az au;go_wp2_with fail;refine⟨aj.out.none,?_⟩;iterate 2 (refine Jr (by kernel_rfl) (by go_simp;try with_reducible rfl) ?_)
 refine Yc ?_;go_wp2_with fail;refine⟨(aj.out.none (F:=fun k=>k=A.ad s.id)).setCell (a:=⟨A.ad s.id,2,none⟩) _ (.inl rfl),?_⟩;have b5:=B4.out.set' 2 (.bool s.shares) rfl;have z3:=b5.frozen 3;have y3:=(Q7 b5).2.2.2.1;iterate 2 (refine Jr (by kernel_rfl) (by go_simp;try with_reducible rfl) ?_)
 refine Yc ?_;go_wp2_with fail;refine⟨((aj.out.none (F:=fun k=>k=A.ad s.id)).setCell (a:=⟨A.ad s.id,2,none⟩) _ (.inl rfl)).setCell (a:=⟨A.ad s.id,3,none⟩) _ (.inl rfl),?_⟩;have b6:=b5.set' 3 (.int .u64 0) rfl;have z4:=b6.frozen 4;have y4:=(Q7 b6).2.2.2.2.1;iterate 2 (refine Jr (by kernel_rfl) (by go_simp;try with_reducible rfl) ?_)
 refine V5 ?_;go_wp2_with fail;refine K8 ?_;clear z2 y2 b5 z3 y3 b6 z4 y4;obtain⟨d,ac⟩:=Zx (((w4.setCell ⟨A.ad s.id,2,none⟩ (.bool s.shares)).setCell ⟨A.ad s.id,3,none⟩ (.int .u64 0)).setCell ⟨A.ad s.id,4,none⟩ (.pointer (some ⟨u,0,none⟩)));have Q5:=O (show Qo (A.lim s.id (.pointer (some ⟨u,0,none⟩))) d (Qn F W d) b ((p.set {q with mem:=q.mem.drop s.id}).set (Vx c s))∧Qc F W d from by rw[ac];exact R5.out);have e2:d.cell? ⟨A.ad s.id,2,none⟩=some (.bool s.shares):=by rw[ac];exact(Q7 (((B4.out.set' 2 (.bool s.shares) rfl).set' 3 (.int .u64 0) rfl).set' 4 (.pointer (some ⟨u,0,none⟩)) rfl)).2.2.1
 have S5:=O (Q5.out.2.blk S0.out NF.out);rw[←ac];clear ac R5;rcases Bool.eq_false_or_eq_true s.shares with J|J;·rw[J]at e2;have B:=ai.out;rw[if_pos J]at B;have ak:=O B;clear B;have bl:=O (bm.out J d u Q5.out.1 Q5.out.2);obtain⟨z0,z1,z2,z3,z4,z5,z6,z7,z8,z9,K,V,Z,R⟩:=(show J0 d w.heap.size s from S5.out).cells;go_wp2_with fail;refine bl.out.mono ?_;rintro e w7⟨⟨r,rfl⟩,h7,c7⟩;have FF:=O (ah.out _ _ _ h7 c7);clear h7 c7;go_wp2;go_ret;exact⟨rfl,by rw[ak.out];exact FF.out⟩
 ·rw[J]at e2;have B:=ai.out;rw[if_neg (by rw[J];decide)]at B;have ak:=O B;clear B;have FF:=O (ah.out _ _ _ Q5.out.1 Q5.out.2);go_wp2;go_ret;exact⟨rfl,by rw[ak.out];exact FF.out⟩
end
section
variable{A:Og}{w:World}{F:Fp}{b:Nat}{p:Qe}{N:Nat}{dep:Int→Nat}
theorem Qww{w0 w1 w2 w3 z d:World}{x:Qv}{c:Value}{pf pt:Nat}(c1:Qc Qb w1 w2)(K:Qc Qb w2 w3)(J:Qc Qb w3 z)(aa:w0.heap.size<w1.heap.size)(I:Qc (fun k=>k=w0.heap.size) z d)
  (hl:Dd c x.limit w2 (Qn Qb w1 w2)) (hf:Jb w3 (Qn Qb w2 w3) pf x.mem) (ht:Zo z (Qn Qb w3 z) pt x.tree) (R:Qh d w0.heap.size (Qbc x c pf pt) 143):
  V4 (A.put x.id w0.heap.size c pf pt) d (Qn Qb w0 d) w0.heap.size x:=by
 have s1:=c1.size;have s2:=K.size;have s3:=J.size;have Z:=I.size;have Jl:=R.lt;refine⟨by simp[Og.put],?_⟩;have e1:(A.put x.id w0.heap.size c pf pt).ad x.id=w0.heap.size:=by simp[Og.put]
 have e2:(A.put x.id w0.heap.size c pf pt).vl x.id=c:=by simp[Og.put]
 have V:(A.put x.id w0.heap.size c pf pt).pf x.id=pf:=by simp[Og.put]
 have e4:(A.put x.id w0.heap.size c pf pt).pt x.id=pt:=by simp[Og.put]
 unfold Qaj;rw[e1,e2,V,e4];have E:∀{u v:World},w1.heap.size≤u.heap.size→Je (Qn Qb u v) (fun k=>k=w0.heap.size):=fun h k q e=>by have:=((Qt k).1 q).1;omega
 have h1:Dd c x.limit d (Qn Qb w1 w2):=(Dd.good _ _).keep ((Dd.good _ _).keep hl (K.trans' J) (Je.none _)) I (E (Nat.le_refl _));have h2:Jb d (Qn Qb w2 w3) pf x.mem:=Jb.obj.keep (Jb.obj.keep hf J (Je.none _)) I (E s1);have h3:Zo d (Qn Qb w3 z) pt x.tree:=Zo.obj.keep ht I (E (by omega));have B:∀{U:Fp},(∀k,U k→k<d.heap.size)→Bd U d:=fun h=>h;refine Zl (G:=fun k=>k=w0.heap.size) (H:=Qn Qb w1 z) ⟨R,rfl,fun k e=>e▸Jl⟩ ?_ (fun k e q=>by have:=((Qt k).1 q).1;omega) (fun k e=>(Qt k).2 ⟨by omega,by omega⟩) (O1 (by omega) Z) (Qcg _ _);refine Zl (G:=Qn Qb w1 w2) (H:=Qn Qb w2 z) h1 ?_ (Qg1 (Nat.le_refl _)) (O1 (Nat.le_refl _) (by omega)) (O1 s1 (Nat.le_refl _)) (B fun k q=>by have:=((Qt k).1 q).2;omega);exact Zl (G:=Qn Qb w2 w3) (H:=Qn Qb w3 z) h2 (Yv h3 (B fun k q=>by have:=((Qt k).1 q).2;omega)) (Qg1 (Nat.le_refl _)) (O1 (Nat.le_refl _) s3) (O1 s2 (Nat.le_refl _)) (B fun k q=>by have:=((Qt k).1 q).2;omega)
structure Qwx(A:Og)(w:World)(l:List Qv)(b' m' r:Nat)(wr:World)(lm dn:List Qv):Prop where
 it:Ka wr A.m r (Ye Qv.id A.ad l) (Ye Qv.id A.ad lm)
 sub:lm.Sublist l
 perm:(dn++lm).Perm l
 chg:Qc Qb w wr
 blk:Qh wr b' #[.map (some m')] 138
 co:∃(A':Og)(G:Fp),A'.m=m'∧Xy Qv.id (V4 A') wr G m' A'.ad dn∧∀k,G k→w.heap.size≤k∧k≠r∧k≠b'
 nb:w.heap.size≤b'∧w.heap.size≤r∧b'≠r∧w.heap.size≤m'∧m'≠r∧m'≠b'
theorem Qqw(m:Nat)(w:World):(binOp .eql 136 (.map (some m)) (.map none)).run prog w=.ok (.bool false) w:=by kernel_rfl
attribute [local go_sem] Qqw
theorem Qwx.step{l:List Qv}{b' m' r:Nat}{wr:World}{lm dn:List Qv}(h:Qwx A w l b' m' r wr lm dn)(I:(l.map Qv.id).Nodup){x:Qv}(hx:x∈lm){w2 w3 w4 w5 U R:World}
  (z:Ka w2 A.m r (Ye Qv.id A.ad l) (Kx x.id (Ye Qv.id A.ad lm))) (d:Qc (fun k=>k=r) wr w2) (aa:w3=w2.alloc (.cells (Qbc x (A.vl x.id) (A.pf x.id) (A.pt x.id)) 143))
  (c4:Qc Qb w3 w4) (c5:Qc Qb w4 w5) (c6:Qc Qb w5 U) {V:Value} {pf pt:Nat} (hl:Dd V x.limit w4 (Qn Qb w3 w4)) (hf:Jb w5 (Qn Qb w4 w5) pf x.mem) (ht:Zo U (Qn Qb w5 U) pt x.tree)
  (ae:R=((U.setCell ⟨w2.heap.size,4,none⟩ V).setCell ⟨w2.heap.size,5,none⟩ (ptr pf)).setCell ⟨w2.heap.size,6,none⟩ (ptr pt)) (a0:A.m<w.heap.size):
  Qh R b' #[.map (some m')] 138∧∃K,(Instr.mapUpdate 136 (.map (some m')) (.int .i64 x.id) (.pointer (some ⟨w2.heap.size,0,none⟩))).run prog R=.ok () K∧
   Qwx A w l b' m' r K (Yw Qv.id x.id lm) (dn++[x])∧Qat K r<Qat wr r:=by
 obtain⟨B,G',ar,au,ah⟩:=h.co;obtain⟨n1,n2,n3,n4,n5,n6⟩:=h.nb;have ai:=I.sublist (h.sub.map Qv.id);have s1:=h.chg.size;have s2:=d.size;have al:Qc Qb w2 w3:=by rw[aa];exact(Qc.refl _ _).alloc _
 have ab:Qh w3 w2.heap.size (Qbc x (A.vl x.id) (A.pf x.id) (A.pt x.id)) 143:=by rw[aa];exact Qh.new _ _ _
 have ac:=ab.lt;have s4:=c4.size;have s5:=c5.size;have s6:=c6.size;have ay:r<w2.heap.size:=by obtain⟨o2,h2,_⟩:=z.walk;exact(Array.getElem?_eq_some_iff.1 h2).1
 have an:=c6.blk (c5.blk (c4.blk ab (fun h=>h)) (fun h=>h)) (fun h=>h);have af:Qc (fun k=>k=w2.heap.size) U R:=by rw[ae];exact(((Qc.refl (fun k=>k=w2.heap.size) U).setCell (a:=⟨w2.heap.size,4,none⟩) _ (.inl rfl)).setCell (a:=⟨w2.heap.size,5,none⟩) _ (.inl rfl)).setCell (a:=⟨w2.heap.size,6,none⟩) _ (.inl rfl)
 have av:Qh R w2.heap.size (Qbc x V pf pt) 143:=by rw[ae];exact((an.set' 4 V rfl).set' 5 (ptr pf) rfl).set' 6 (ptr pt) rfl
 have hX:=Qww (A:=B) c4 c5 c6 ac af hl hf ht av;have q:Qc Qb w2 R:=(((al.trans' c4).trans' c5).trans' c6).trans af (fun k e=>.inr (by rw[e];exact Nat.le_refl _));have s7:=q.size;have c:=d.blk h.blk (by omega);have az:=c.lt;have aj:=au.keep (V4.obj B) d (fun k E e=>(ah k E).2.1 e);have Z:=(aj.keep (V4.obj B) q (Je.none G')).imp (Is':=V4 (B.put x.id w2.heap.size V pf pt)) (fun y hy G2 aw=>by
  have ag:y.id≠x.id:=fun e=>by have hn:=((h.perm.map Qv.id).nodup_iff).2 I;rw[List.map_append,List.nodup_append]at hn;exact hn.2.2 _ (List.mem_map.2 ⟨y,hy,rfl⟩) _ (List.mem_map.2 ⟨x,hx,rfl⟩) e
  refine⟨?_,?_⟩;·show B.ad y.id=(if y.id=x.id then w2.heap.size else B.ad y.id);rw[if_neg ag]
  ·rw[Qny ag];exact aw.2)
 obtain⟨K,ax,am,c8⟩:=J9 (P:=prog) Z.map underlying136 underlying3 x.id (.pointer (some ⟨w2.heap.size,0,none⟩));have ao:Vp Qv.id x.id dn=none:=by
  cases ha:Vp Qv.id x.id dn with
  |none=>rfl
  |some y=> obtain⟨hy,ap⟩:=Yh ha;have hn:=((h.perm.map Qv.id).nodup_iff).2 I;rw[List.map_append,List.nodup_append]at hn;exact(hn.2.2 _ (List.mem_map.2 ⟨y,hy,rfl⟩) _ (List.mem_map.2 ⟨x,hx,rfl⟩) ap).elim
 have aq:=Z.put (V4.obj _) hX (fun k a b2=>by
  have h1:=((Qt k).1 a).1;have:=aj.bd k b2;omega) ao am c8
 have J:Qc (fun k=>k=m') w2 K:=(q.none).trans' c8;have u:Ka K A.m r (Ye Qv.id A.ad l) (Kx x.id (Ye Qv.id A.ad lm)):=z.keep J (by omega) (by omega);have ak:=G8 (key:=Qv.id) ai hx;refine⟨q.blk c (fun h=>h),K,ax,⟨?_,List.filter_sublist.trans h.sub,?_,?_,J.blk c (by omega),⟨B.put x.id w2.heap.size V pf pt,_,ar,aq,?_⟩,h.nb⟩,?_⟩;·rw[←La];exact u
 ·refine List.Perm.trans ?_ h.perm;rw[List.append_assoc];exact List.Perm.append_left dn ak.symm
 ·exact(h.chg.trans d (fun k e=>.inr (by rw[e];omega))).trans J (fun k e=>.inr (by rw[e];omega))
 ·intro k E;rcases E with E|E;·exact ah k E
  ·rcases(Qt k).1 E with⟨h1,_⟩;omega
 ·rw[u.left_eq,h.it.left_eq,La];have:=ak.length_eq;simp only[Ye,List.length_map,List.length_cons]at*;omega
end
end
inductive PT where
 |nil
 |look(k:Nat)(r:PT)
 |lookp(k:Nat)(r:PT)
 |walk(k:Nat)(r:PT)
 |fork(i:Nat)(x:PT)(j:Nat)(y:PT)
inductive PO where
 |nil
 |look(o:Oper)(r:PO)
 |lookp(o:Oper)(r:PO)
 |walk(o:Oper)(r:PO)
 |fork(o:Oper)(x:PO)(p:Oper)(y:PO)
section
variable{P:Program}{ops:Array Oper}{Q:Exit→Act→World→Prop}{D:World→Prop}
def U9(ops:Array Oper):PT→PO
 | .nil=>.nil
 | .look k r=>match ops[k]? with|some o=>.look o (U9 ops r)|none=>.nil
 | .lookp k r=>match ops[k]? with|some o=>.lookp o (U9 ops r)|none=>.nil
 | .walk k r=>match ops[k]? with|some o=>.walk o (U9 ops r)|none=>.nil
 | .fork i x j y=>match ops[i]? with|some o=>(match ops[j]? with|some p=>.fork o (U9 ops x) p (U9 ops y)|none=>.nil)|none=>.nil
def Qjt:PT→List Nat
 | .nil=>[]
 | .look _ r=>Qjt r
 | .lookp _ r=>Qjt r
 | .walk k r=>k::Qjt r
 | .fork i x j y=>i::j::(Qjt x++Qjt y)
def Jw(P:Program)(ops:Array Oper)(Q:Exit→Act→World→Prop)(D:World→Prop):PO→Act→World→Prop
 | .nil,a,w=>Q .normal a w
 | .look o r,a,w=>if Region.wanted o (yielded ops a.tmps)then∃v,(execOp a.eval o).run P w=.ok (.value v) w∧Jw P ops Q D r (a.put o.dst v) w else Jw P ops Q D r (a.put o.dst undef) w
 | .lookp o r,a,w=>if Region.wanted o (yielded ops a.tmps)then∃v,(∀w',D w'→(execOp a.eval o).run P w'=.ok (.value v) w')∧Jw P ops Q D r (a.put o.dst v) w else Jw P ops Q D r (a.put o.dst undef) w
 | .walk o r,a,w=>wpList P ops (Exit.then (fun c w'=>D w'∧Jw P ops Q D r c w') Q) [o] a w
 | .fork o x p y,a,w=>wpList P ops (Exit.then (fun c w'=>D w'∧Jw P ops Q D x c w') Q) [o] a w∧wpList P ops (Exit.then (fun c w'=>D w'∧Jw P ops Q D y c w') Q) [p] a w
def xfB(ops:Array Oper)(late:List Nat):PT→Nat→Array Bool→Bool
 | .nil,0,listed=>(Region.ready .any ops listed).isEmpty
 | .look k r,n+1,listed=>Qjr ops late k listed&&(late.all fun j=>listed.getD j true||Jy ops ops.size j k)&&xfB ops late r n (listed.setIfInBounds k true)
 | .lookp k r,n+1,listed=>Qjr ops late k listed&&xfB ops late r n (listed.setIfInBounds k true)
 | .walk k r,n+1,listed=>decide (Region.ready .any ops listed=[k])&&late.contains k&&xfB ops late r n (listed.setIfInBounds k true)
 | .fork i x j y,n+1,listed=>decide (Region.ready .any ops listed=[i,j])&&late.contains i&&late.contains j&&xfB ops late x n (listed.setIfInBounds i true)&&xfB ops late y n (listed.setIfInBounds j true)
 |_,_,_=>false
theorem Qdh{late:List Nat}(u:Region.noSelect ops=true)(U:∀c(a:Act)(d:Tmp)v w,Q (.panic c) (a.put (some d) v) w→Q (.panic c) a w):
  ∀(r:PT)(n:Nat)(q:Array Bool)(a:Act)(w:World),Ji ops q→D w→xfB ops late r n q=true→Jw P ops Q D (U9 ops r) a w→
   Qdf P ops Q D (fun j=>late.contains j) (fun _=>false) n q a w
 | .nil,0,q,a,w,hcl,hC,hB,h=>⟨by simpa[xfB]using hB,h⟩
 | .look k r,n+1,q,a,w,hcl,hC,hB,h=>by
  simp only[xfB,Bool.and_eq_true]at hB;obtain⟨⟨R,ag⟩,B⟩:=hB;obtain⟨z,hf,hl,o,d,h0,hd⟩:=G7 R;simp only[U9,h0]at h;simp only[Jw]at h;have K:∃v,YieldsIf P ops (fun w'=>w'=w) o v a∧Jw P ops Q D (U9 ops r) (a.put o.dst v) w:=by
   by_cases I:Region.wanted o (yielded ops a.tmps)=true;·simp only[I,if_true]at h;obtain⟨v,h1,J⟩:=h;exact⟨v,.inl ⟨I,fun w' e=>by rw[e];exact h1⟩,J⟩
   ·simp only[I]at h;exact⟨undef,.inr ⟨by simpa using I,rfl⟩,h⟩
  obtain⟨v,K,hK⟩:=K;exact Oh (F:=ops.size) h0 hl (Region.noSelect_spec u) (fun c E w' hq=>by rw[hd]at hq;exact U c E d _ w' hq) _ q a w hcl
   (.inr fun j oj hj hl hu=>by
    have:=List.all_eq_true.1 ag j (by simpa using hl);rw[hu]at this;simpa using this) (Region.free_spec h0 hf) z K rfl
   (Qdh u U r n _ _ w (hcl.set z) hC B hK)
 | .lookp k r,n+1,q,a,w,hcl,hC,hB,h=>by
  simp only[xfB,Bool.and_eq_true]at hB;obtain⟨R,B⟩:=hB;obtain⟨z,hf,hl,o,d,h0,hd⟩:=G7 R;simp only[U9,h0]at h;simp only[Jw]at h;have K:∃v,YieldsIf P ops D o v a∧Jw P ops Q D (U9 ops r) (a.put o.dst v) w:=by
   by_cases I:Region.wanted o (yielded ops a.tmps)=true;·simp only[I,if_true]at h;obtain⟨v,h1,J⟩:=h;exact⟨v,.inl ⟨I,h1⟩,J⟩
   ·simp only[I]at h;exact⟨undef,.inr ⟨by simpa using I,rfl⟩,h⟩
  obtain⟨v,K,hK⟩:=K;exact Oh (F:=ops.size) h0 hl (Region.noSelect_spec u) (fun c E w' hq=>by rw[hd]at hq;exact U c E d _ w' hq) _ q a w hcl
   (.inl ⟨fun _ h=>h,fun j oj hj hl hu=>by cases hl⟩) (Region.free_spec h0 hf) z K hC
   (Qdh u U r n _ _ w (hcl.set z) hC B hK)
 | .walk k r,n+1,q,a,w,hcl,hC,hB,h=>by
  simp only[xfB,Bool.and_eq_true,decide_eq_true_eq]at hB;obtain⟨⟨h1,hl⟩,B⟩:=hB;have z:k∈Region.ready .any ops q:=by rw[h1];simp
  obtain⟨_,o,h0,_⟩:=mem_ready.1 z;simp only[U9,h0]at h;simp only[Jw]at h;refine⟨fun J=>(by rw[h1]at J;cases J),fun i hi=>?_⟩;rw[h1]at hi;have ab:i=k:=by simpa using hi
  subst ab;refine wpOp_mono (fun E w' h'=>⟨⟨fun h=>absurd (show late.contains i=false from h) (by rw[hl];decide),fun _ _=>h'.1⟩,?_⟩) (Yp h0 h);exact Qdh u U r n _ E w' (hcl.set z) h'.1 B h'.2
 | .fork i x j y,n+1,q,a,w,hcl,hC,hB,h=>by
  simp only[xfB,Bool.and_eq_true,decide_eq_true_eq]at hB;obtain⟨⟨⟨⟨h1,ac⟩,af⟩,ae⟩,aa⟩:=hB;have V:i∈Region.ready .any ops q:=by rw[h1];simp
  have Z:j∈Region.ready .any ops q:=by rw[h1];simp
  obtain⟨_,o,h0,_⟩:=mem_ready.1 V;obtain⟨_,p,p0,_⟩:=mem_ready.1 Z;simp only[U9,h0,p0]at h;simp only[Jw]at h;refine⟨fun J=>(by rw[h1]at J;cases J),fun k hk=>?_⟩;rw[h1]at hk;rcases(show k=i∨k=j by simpa using hk)with rfl|rfl;·refine wpOp_mono (fun E w' h'=>⟨⟨fun h=>absurd (show late.contains k=false from h) (by rw[ac];decide),fun _ _=>h'.1⟩,?_⟩) (Yp h0 h.1);exact Qdh u U x n _ E w' (hcl.set V) h'.1 ae h'.2
  ·refine wpOp_mono (fun E w' h'=>⟨⟨fun h=>absurd (show late.contains k=false from h) (by rw[af];decide),fun _ _=>h'.1⟩,?_⟩) (Yp p0 h.2);exact Qdh u U y n _ E w' (hcl.set Z) h'.1 aa h'.2
 | .nil,n+1,q,a,w,hcl,hC,hB,h=>by simp[xfB]at hB
 | .look _ _,0,q,a,w,hcl,hC,hB,h=>by simp[xfB]at hB
 | .lookp _ _,0,q,a,w,hcl,hC,hB,h=>by simp[xfB]at hB
 | .walk _ _,0,q,a,w,hcl,hC,hB,h=>by simp[xfB]at hB
 | .fork _ _ _ _,0,q,a,w,hcl,hC,hB,h=>by simp[xfB]at hB
theorem Lb{id:Nat}{a:Act}{w:World}{l:List Oper}(k:PT)(D:World→Prop)(E:P.follows .mixedOrders=true)
  (u:(Region.noSelect l.toArray&&xfB l.toArray (Qjt k) k l.toArray.size (Array.replicate l.toArray.size false))=true)
  (I:∀c(a:Act)(d:Tmp)v w,Q (.panic c) (a.put (some d) v) w→Q (.panic c) a w) (B:D w.drew) (h:Jw P l.toArray Q D (U9 l.toArray k) a w.drew):
  (Code.region id l.toArray true).wp P Q a w:=by
 simp only[Bool.and_eq_true]at u;obtain⟨q,u⟩:=u;refine wp_region_any E ?_;have z:Ji l.toArray (Array.replicate l.toArray.size false):=fun j J _ hl=>by rw[getD_replicate_false]at hl;cases hl
 exact Qbd _ _ _ _ (Qdh (P:=P) (D:=D) q I k _ _ a _ z B u h)
variable{r x y:PO}{a:Act}{o p:Oper}{w:World}
theorem Qdi(h:Q .normal a w):Jw P ops Q D .nil a w:=h
theorem Lk{v:Value}(c:Region.wanted o (yielded ops a.tmps)=true)(d:(execOp a.eval o).run P w=.ok (.value v) w)(h:Jw P ops Q D r (a.put o.dst v) w):Jw P ops Q D (.look o r) a w:=by simp only[Jw,c,if_true];exact⟨v,d,h⟩
theorem Vc{v:Value}(c:Region.wanted o (yielded ops a.tmps)=true)(d:∀w',D w'→(execOp a.eval o).run P w'=.ok (.value v) w')(h:Jw P ops Q D r (a.put o.dst v) w):Jw P ops Q D (.lookp o r) a w:=by simp only[Jw,c,if_true];exact⟨v,d,h⟩
theorem Uk(h:wpList P ops (Exit.then (fun c w'=>D w'∧Jw P ops Q D r c w') Q) [o] a w):Jw P ops Q D (.walk o r) a w:=h
theorem Qk8(h1:wpList P ops (Exit.then (fun c w'=>D w'∧Jw P ops Q D x c w') Q) [o] a w)(d:wpList P ops (Exit.then (fun c w'=>D w'∧Jw P ops Q D y c w') Q) [p] a w):Jw P ops Q D (.fork o x p y) a w:=⟨h1,d⟩
end
section
attribute [local go_sem] Qq
attribute [local irreducible] Y4 Jm Jw
def rootC:Qv:=⟨0,0,false,false,0,none,⟨[],0⟩,[],0⟩
theorem Qn0{w d:World}{m bc pf pt:Nat}{Gf Gt:Fp}(cE:Qc Qb w d)(hm:Xs d m [])(I:Qh d bc (Qbc rootC (.pointer none) pf pt) 143)(hf:Jb d Gf pf ⟨[],0⟩)(ht:Zo d Gt pt [])
  (m1:w.heap.size≤m) (b1:w.heap.size≤bc) (nm:m≠bc) (f1:∀k,Gf k→w.heap.size≤k∧k≠m∧k≠bc) (t1:∀k,Gt k→w.heap.size≤k∧k≠m∧k≠bc) (ab:Je Gf Gt):
  ∃c,(Instr.mapUpdate 136 (.map (some m)) (.int .i64 0) (.pointer (some ⟨bc,0,none⟩))).run prog d=.ok () c∧Qc Qb w c∧∀w',w'=c.alloc (.cells #[.map (some m)] 138)→Vb w' (Qn Qb w w') c.heap.size Qe.new∧Qc Qb w w':=by
 obtain⟨c,J,V,c5⟩:=J9 (P:=prog) hm underlying136 underlying3 0 (ptr bc);have u:Qc Qb w c:=cE.trans c5 (fun k e=>.inr (by rw[e];exact m1));refine⟨c,J,u,?_⟩;rintro w' rfl;have c6:Qc Qb c (c.alloc (.cells #[.map (some m)] 138)):=(Qc.refl _ _).alloc _;have U:=u.trans' c6;refine⟨?_,U⟩;have bf:=Jb.obj.bd hf;have bt:=Zo.obj.bd ht;have bb:=I.lt;have E:=hm.lt;obtain⟨A,hA⟩:∃A:Og,A=⟨m,fun _=>bc,fun _=>.pointer none,fun _=>pf,fun _=>pt⟩:=⟨_,rfl⟩;have hx:V4 A d (fun k=>k=bc∨Gf k∨Gt k) bc rootC:=by
  subst hA;refine⟨rfl,?_⟩;refine Zl (G:=fun k=>k=bc) (H:=fun k=>Gf k∨Gt k) ⟨I,rfl,fun k e=>e▸bb⟩ ?_ ?_ (fun k e=>.inl e) (fun k e=>.inr e) ?_
  ·refine Zl (G:=fun _=>False) (H:=fun k=>Gf k∨Gt k) (.inl ⟨rfl,rfl,fun k h=>h.elim⟩) ?_ (fun k h _=>h.elim) (fun k h=>h.elim) (fun k h=>h) ?_;·exact Zl (G:=Gf) (H:=Gt) hf (Yv ht bt) ab (fun k h=>.inl h) (fun k h=>.inr h) (fun k h=>h.elim (bf k) (bt k))
   ·exact fun k h=>h.elim (bf k) (bt k)
  ·rintro k rfl h;rcases h with h|h;·exact(f1 _ h).2.2 rfl
   ·exact(t1 _ h).2.2 rfl
  ·rintro k(rfl|h|h);·exact bb
   ·exact bf k h
   ·exact bt k h
 have Z:Xy Qv.id (V4 A) d (fun k=>k=m) m A.ad []:=Xy.new hm (fun k e=>e▸E) rfl;have z:=Z.put (V4.obj A) hx (by
  rintro k(rfl|h|h) rfl;·exact nm rfl
  ·exact(f1 _ h).2.1 rfl
  ·exact(t1 _ h).2.1 rfl) rfl V c5
 have aa:(fun i=>if i=rootC.id then bc else A.ad i)=A.ad:=by subst hA;funext i;simp
 rw[aa]at z;have q:=z.keep (V4.obj A) c6 (Je.none _);have K:A.m=m:=by rw[hA]
 refine⟨A,[rootC],List.Perm.refl _,?_⟩;have ac:∀k,(k=m∨k=bc∨Gf k∨Gt k)→w.heap.size≤k:=by
  rintro k(rfl|rfl|h|h);·exact m1
  ·exact b1
  ·exact(f1 k h).1
  ·exact(t1 k h).1
 have B:Qh (c.alloc (.cells #[.map (some m)] 138)) c.heap.size #[.map (some m)] 138:=Qh.new _ _ _;refine Zl (G:=fun k=>k=c.heap.size) (H:=fun k=>k=m∨k=bc∨Gf k∨Gt k) ⟨by rw[K];exact B,rfl,fun k e=>e▸B.lt⟩ (Yv (by rw[K];exact q) q.bd) ?_ ?_ ?_ (Qcg _ _);·intro k e h;have:=z.bd k h;have R:k=c.heap.size:=e;omega
 ·intro k e;have R:k=c.heap.size:=e;exact(Qt k).2 ⟨by rw[R];exact u.size,by rw[R];exact B.lt⟩
 ·intro k h;exact(Qt k).2 ⟨ac k h,q.bd k h⟩
theorem Qud(w:World):Cl 67 #[] w fun e w'=>∃b,e=.returned (ptr b)∧Vb w' (Qn Qb w w') b Qe.new∧Qc Qb w w':=by
 have aa:=@run_makeMap prog;have E:=O Qjq;have J:=O Qdd;have MN:Hid (∀w1:World,Xs (w1.alloc (.map #[] 0)) w1.heap.size []):=O Xs.new;unfold ptr at*;have z:Hid (∀w1 w2 w3 pf pt,w1=w.alloc (.map #[] 0)→Jb w2 (Qn Qb w1 w2) pf ⟨[],0⟩→Qc Qb w1 w2→Zo w3 (Qn Qb w2 w3) pt []→Qc Qb w2 w3→
   ∃u,(Instr.mapUpdate 136 (.map (some w.heap.size)) (.int .i64 0) (.pointer (some ⟨w3.heap.size,0,none⟩))).run prog (w3.alloc (.cells #[.int .i64 0,.bool false,.bool false,.int .u64 0,.pointer none,.pointer (some ⟨pf,0,none⟩),.pointer (some ⟨pt,0,none⟩),.int .i64 0] 143))=.ok () u∧
    ∀w',w'=u.alloc (.cells #[.map (some w.heap.size)] 138)→Vb w' (Qn Qb w w') u.heap.size Qe.new∧Qc Qb w w'):=O (by
  rintro w1 w2 w3 pf pt rfl hf q ht d;have V:Qc Qb w (w.alloc (.map #[] 0)):=(Qc.refl _ _).alloc _;have B:Qc Qb w3 (w3.alloc (.cells (Qbc rootC (.pointer none) pf pt) 143)):=(Qc.refl _ _).alloc _;have s1:(w.alloc (.map #[] 0)).heap.size=w.heap.size+1:=by simp
  have s2:=q.size;have s3:=d.size;obtain⟨u,h1,_,h2⟩:=Qn0 (w:=w) (m:=w.heap.size) (bc:=w3.heap.size) (pf:=pf) (pt:=pt) (Gf:=Qn Qb (w.alloc (.map #[] 0)) w2) (Gt:=Qn Qb w2 w3) (((V.trans' q).trans' d).trans' B)
   ((((Xs.new w).keep q (fun h=>h)).keep d (fun h=>h)).keep B (fun h=>h)) (Qh.new _ _ _) (Jb.obj.keep (Jb.obj.keep hf d (Je.none _)) B (Je.none _)) (Zo.obj.keep ht B (Je.none _)) (Nat.le_refl _) (by omega) (by omega)
   (fun k K=>by have:=(Qt k).1 K;omega) (fun k K=>by have:=(Qt k).1 K;omega) (Qg1 (Nat.le_refl _))
  exact⟨u,h1,h2⟩)
 go_enter func67,ntmps67;go_wp2_with fail;refine(E.out _).mono ?_;rintro e w2⟨pf,rfl,hf,q⟩;have U:=O hf;have R:=O q;clear hf q;go_wp2_with fail;refine(J.out _).mono ?_;rintro e w3⟨pt,rfl,ht,d⟩;obtain⟨u,Z,c⟩:=z.out _ w2 w3 pf pt rfl U.out R.out ht d;have I:=O c;unfold ptr at*;clear ht d c z U R;go_wp2_with fail;go_ret;exact⟨_,rfl,I.out _ rfl⟩
end
end Go.Proofs.YtnnhmpehkbihnaaGreat
