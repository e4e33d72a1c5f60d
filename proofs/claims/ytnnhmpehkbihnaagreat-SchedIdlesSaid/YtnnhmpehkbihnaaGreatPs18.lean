/- A part of the proof: no condition. -/
import Derived.Test.YtnnhmpehkbihnaaGreatPs17
namespace Go.Proofs.YtnnhmpehkbihnaaGreat
set_option linter.unusedVariables false
set_option maxRecDepth 100000
set_option maxHeartbeats 4000000
open Go.RowKit
open Go.Proofs.Tryz
section
attribute [local go_sem] Qp
attribute [local irreducible] Kl J9
section
variable{A:Dz}{w:World}{F:Fp}{b:Nat}{p:Qe}{N:Nat}{dep:Int→Nat}
def Yr(w:World)(F:Fp)(b:Nat)(p:Qe):Prop:=∃A,Qo A w F b p
theorem Yr.obj:Hf Yr where
 bd:=fun⟨A,h⟩=>(Qo.obj A).bd h
 own:=fun⟨A,h⟩=>(Qo.obj A).own h
 aB:=fun⟨A,h⟩hc d=>⟨A,(Qo.obj A).aB h hc d⟩
 more:=fun⟨A,h⟩hs c=>⟨A,(Qo.obj A).more h hs c⟩
theorem Qo.ne(h:Qo A w F b p):b≠A.m:=by obtain⟨l,z,u,G,H,h1,⟨_,q,_,k,_,_,d,_⟩,c,_⟩:=h;rintro rfl;exact c _ h1.2.1 (d _ k.at_)
theorem Qo.mlt(h:Qo A w F b p):F A.m:=by obtain⟨l,E,B,G,H,h1,⟨_,q,_,k,_,_,c,_⟩,u,z,d⟩:=h;exact d _ (c _ k.at_)
theorem Qe.set_set(p:Qe){x y:Qx}(h:x.id=y.id):(p.set x).set y=p.set y:=by
 unfold Qe.set;rw[List.map_map];refine List.map_congr_left fun z _=>?_;simp only[Function.comp];by_cases c:z.id=x.id;·rw[if_pos c,if_pos h,if_pos (c.trans h)]
 ·rw[if_neg c]
theorem Qep{x:Qx}{i:Int}{q:Qx}(h:p.at i=some q):Qe.at (p++[x]) i=some q:=by unfold Qe.at at*;rw[List.find?_append,h];rfl
def Y0(s:Yk):Qx:=⟨s.id,s.par,s.leaf,s.aJ,0,Ha s.aN,⟨[],0⟩,[],0⟩
theorem Qlr{s:Yk}{q:Qx}(h1:1≤s.id)(hn:p.at s.id=none)(c:p.at s.par=some q)(hl:q.leaf=false):
  p.put s=Qe.set (p++[Y0 s]) {q with mem:=if s.aJ then q.mem.add s.id s.share else q.mem,aM:=q.aM+1}:=by
 unfold Qe.put;rw[c];dsimp only;rw[hn,hl];have:¬s.id<1:=by omega
 simp[this,Y0]
theorem Qpl(h:Qo A w F b p)(s:Yk)(h1:1≤s.id)(hn:p.at s.id=none){q:Qx}(hq:p.at s.par=some q)(hl:q.leaf=false)(cd:q.aM≤65536):
  Cl 69 #[ptr b,Fb s] w fun e w'=>e=.returned (.bool true)∧Yr w' (Qn F w w') b (p.put s)∧Qc F w w':=by
 have K:=(Qo.obj A).bd h;obtain⟨W,hW⟩:=Zx (w.alloc (.cells (Z4 s.leaf s) 40));have S0:Hi (Xx W w.heap.size s):=O (by rw[hW];exact Xx.new w s);have C0:Hi (Qc Qb w W):=O (by rw[hW];exact(Zg _ _).alloc _);have hP:=(Qo.obj A).aB h C0.o (Jl.none F);have ak:=O (Hw hP s.par);rw[Xz hq]at ak;have al:=O (Hw hP s.id);rw[Ep hn]at al;obtain⟨q0,q1,q2,q3,q4,q5,q6,q7⟩:=Ja (hP.cell hq);rw[hl]at q1;obtain⟨a0,a1,a2,a3,a4,a5,a6,a7,a8,a9,bj,bk,bl,bm⟩:=(show Xx (w.alloc _) _ _ from hW▸S0.o).cells;have Xg:¬s.id<1:=by omega
 have ao:=O (fun w=>Ns s w);have bf:=O (fun w=>Qdj s.aN w);have bb:=O hP.blk;have bt:=O hP.ne;have ay:Hi (w.heap.size≠A.m):=O (fun e=>by have:=K _ h.mlt;omega);obtain⟨az,I⟩:=Zx (p.put s);rw[←I];rw[Qlr h1 hn hq hl]at I;have ae:=O I;clear I;have bi:=O Qei;have ba:=O Bw;have ap:Hi (∀w0 w1 w2 w3 w4 vb pf pt,Qc Qb W w0→Qc Qb w0 w1→Qc Qb w1 w2→Qc Qb w2 w3→Ho w1 (Qn Qb w0 w1) vb (Ha s.aN)→J0 w2 (Qn Qb w1 w2) pf ⟨[],0⟩→Jg w3 (Qn Qb w2 w3) pt []→
   w4=w3.alloc (.cells #[.int .i64 s.par,.bool s.leaf,.bool s.aJ,.int .u64 0,ptr vb,ptr pf,ptr pt,.int .i64 0] 143)→
   ∃w5 J,(Instr.mapUpdate 136 (.map (some A.m)) (.int .i64 s.id) (.pointer (some ⟨w3.heap.size,0,none⟩))).run prog w4=.ok () w5∧Qo J w5 (Qn F W w5) b (p++[Y0 s])∧Qc F W w5∧J.ad s.par=A.ad s.par∧J.pf s.par=A.pf s.par):=O (by
  rintro w0 w1 w2 w3 w4 vb pf pt c0 c1 c2 c3 hL hF hT rfl;have c4:Qc Qb w3 (w3.alloc (.cells #[.int .i64 s.par,.bool s.leaf,.bool s.aJ,.int .u64 0,ptr vb,ptr pf,ptr pt,.int .i64 0] 143)):=(Zg _ _).alloc _;have hx:=Qtf (A:=A) (x:=Y0 s) c1 c2 c3 c4 hL hF hT (Qh.new _ _ _);have cW:Qc Qb W (w3.alloc (.cells #[.int .i64 s.par,.bool s.leaf,.bool s.aJ,.int .u64 0,ptr vb,ptr pf,ptr pt,.int .i64 0] 143)):=(((c0.aA c1).aA c2).aA c3).aA c4;have bw:=(Um.obj _).more hx (G5 c0.size (Zv _)) (Td _ _);obtain⟨w5,r1,r2,r3,r4⟩:=hP.newC (x:=Y0 s) hn cW bw;have aw:s.par≠s.id:=fun e=>by rw[e]at hq;rw[hq]at hn;cases hn
  exact⟨w5,_,r1,r2,r3,by simp[Dz.put,Y0,aw],by simp[Dz.put,Y0,aw]⟩)
 have R:Qe.at (p++[Y0 s]) s.par=some q:=Qep hq;unfold Fb ptr at*;clear h hP hl;go_enter func69,ntmps69;go_wp2_with fail;rw[←hW]at a0 a1 a2 a3 a4 a5 a6 a7 a8 a9 bj bk bl bm⊢;clear hW;refine Zy ak ?_;rintro w1 rfl;go_wp2_with fail;refine Zy al ?_;rintro w1 rfl;go_wp2_with fail;refine Jp [(1,0),(1,1),(1,2),(1,3),(1,4),(1,5),(1,6),(1,7),(1,8),(1,9),(0,10),(1,12),(1,13),(2,11),(2,14),(2,15),(2,16),(0,17),(2,18),(3,19)] (fun wv=>Qc (fun k=>k=A.m) (W) wv) Zq (by kernel_rfl) (fun _ _ _ _ _ h=>h) (Zj (Zg _ _)) ?_;simp only[Jk,Zf,Ze,Zd];iterate 3 (refine Qy (by kernel_rfl) (fun wv hv=>by go_simp;try rfl) ?_;try simp only[Act.put,Za,Zc,Zb])
 iterate 7 (refine Qy (by kernel_rfl) (fun wv hv=>by(have zz:=hv.blk S0.o ay.o;have yy:=hv.blk bb.o bt.o;have y0:=Jf yy;obtain⟨z0,z1,z2,z3,z4,z5,z6,z7,z8,z9,bz,ca,cb,cc⟩:=(show Xx wv w.heap.size s from zz).cells);go_simp;try rfl) ?_;try simp only[Act.put,Za,Zc,Zb])
 obtain⟨b0,b1,b2,b3,b4,b5,b6,b7,b8,b9,V,Z,aa,ab⟩:=(show Xx W.drew w.heap.size s from S0.o.aB (Zg _ _).drew).cells;refine Xe (by kernel_rfl) (by go_simp;try rfl) ?_;clear b0 b1 b2 b3 b4 b5 b6 b7 b8 b9 V Z aa ab;iterate 2 (refine Qy (by kernel_rfl) (fun wv hv=>by(have zz:=hv.blk S0.o ay.o;obtain⟨z0,z1,z2,z3,z4,z5,z6,z7,z8,z9,bz,ca,cb,cc⟩:=(show Xx wv w.heap.size s from zz).cells);go_simp;try rfl) ?_;try simp only[Act.put,Za,Zc,Zb])
 refine Yb ?_;go_wp2_with fail;refine Zz (ao.o _) ?_;intro w0 c0;have D0:=O c0.undrew;clear c0;go_wp2_with fail;refine⟨D0.o.none,?_⟩;refine Yb ?_;go_wp2_with fail;refine(bf.o _).mono ?_;rintro e w1⟨vb,rfl,hL,c1⟩;have E1:=O c1;have D1:=O (D0.o.aA c1);have be:=O hL;clear c1 hL;go_wp2_with fail;refine⟨D1.o.none,?_⟩;refine Yb ?_;go_wp2_with fail;refine(bi.o _).mono ?_;rintro e w2⟨pf,rfl,hF,c2⟩;have E2:=O c2;have D2:=O (D1.o.aA c2);have bc:=O hF;clear c2 hF;go_wp2_with fail;refine⟨D2.o.none,?_⟩;refine Yb ?_;go_wp2_with fail;refine(ba.o _).mono ?_;rintro e w3⟨pt,rfl,hT,c3⟩;have E3:=O c3;have D3:=O (D2.o.aA c3);have bh:=O hT;have NN:=O (ap.o w0 w1 w2 w3 _ vb pf pt D0.o E1.o E2.o E3.o be.o bc.o bh.o rfl);clear c3 hT ap;unfold ptr at*;go_wp2_with fail;refine⟨D3.o.none,?_⟩;refine Xe (by kernel_rfl) (by go_simp;try rfl) ?_;refine Yb ?_;go_wp2_with fail;refine⟨D3.o.none.alloc _,?_⟩;obtain⟨w5,J,bv,aq,au,ar,ax⟩:=NN.o;have bg:=O aq;have am:=O au;have u:=O (Zt ar ax);clear aq au ar ax NN;refine Km ?_;go_wp2_with fail;refine Ky ?_;clear bv;have S5:=O (am.o.blk S0.o (fun hk=>by have:=K _ hk;omega));obtain⟨b0,b1,b2,b3,b4,b5,b6,b7,b8,b9,V,Z,aa,ab⟩:=(show Xx w5 w.heap.size s from S5.o).cells;go_wp2_with fail;refine Zz (ao.o _) ?_;intro w6 c6;have d:=(Qo.obj J).same bg.o c6;obtain⟨d,ac⟩:=(Qo.obj J).two d.1 (K.later C0.o) am.o d.2;have af:Hi (∀w7 P' q',Qo J w7 (Qn F W w7) b P'→Qc F W w7→P'.at s.par=some q'→q'.aM=q.aM→∀w8,w8=w7.setCell ⟨A.ad s.par,7,none⟩ (.int .i64 ((q.aM:Int)+1))→Yr w8 (Qn F w w8) b (P'.set {q' with aM:=q.aM+1})∧Qc F w w8):=O (by
  rintro w7 P' q' h7 bo U hu w8 rfl;obtain⟨bu,av⟩:=Qe.aE U;have E:=h7.cell U;have e0:J.ad q'.id=A.ad s.par:=by rw[av];exact u.o.1
  obtain⟨k1,k2⟩:=h7.setC (c:=q') (c':={q' with aM:=q.aM+1}) bu rfl rfl rfl rfl
   (by rw[e0];exact(Zg (fun k=>k=A.ad s.par) w7).setCell (a:=⟨A.ad s.par,7,none⟩) (.int .i64 ((q.aM:Int)+1)) (.inl rfl))
   (by rw[av,u.o.1];rw[u.o.1]at E;exact E.set' 7 (.int .i64 ((q.aM:Int)+1)) rfl)
  obtain⟨m1,m2⟩:=(Qo.obj J).two k1 (K.later C0.o) bo k2;have c8:Qc F w (w7.setCell ⟨A.ad s.par,7,none⟩ (.int .i64 ((q.aM:Int)+1))):=C0.o.none.aA m2;exact⟨⟨J,(Qo.obj J).more m1 (Ke C0.o.size) (K.ext c8)⟩,c8⟩)
 have ew:IntKind.i64.wrap ((q.aM:Int)+1)=(q.aM:Int)+1:=by rw[IntWalk.i64_in _ (by omega)]
 rcases Bool.eq_false_or_eq_true s.aJ with B|B
 ·have z:=d.drew.cell R;rw[u.o.1,u.o.2]at z;obtain⟨_,_,_,_,_,e5,_,_⟩:=Ja z;have ag:s.share.May:=by unfold Yk.aJ at B;simp only[Zw,decide_eq_true_eq]at B;exact B.2
  have bd:Hi (Cl 127 #[ptr (A.pf s.par),.int .i64 s.id,cV s.share] w6.drew fun e w'=>(∃r,e=.returned (.bool r))∧Qo J w' (Qn F W w') b ((p++[Y0 s]).set {q with mem:=q.mem.add s.id s.share})∧Qc F W w'):=O (by
   obtain⟨G,hF,_,ah⟩:=d.drew.famAt R;rw[u.o.2]at hF ah;refine(Qeh hF s.id s.share ag).mono ?_;rintro e w7⟨hr,hf,c7⟩;obtain⟨m1,m2⟩:=ah _ w7 _ (Zg Qb _) hf c7;obtain⟨n1,n2⟩:=(Qo.obj J).two (w1:=w6) m1 (K.later C0.o) ac m2.undrew;exact⟨hr,n1,n2⟩)
  have aj:=(Qe.aE R).2;have U:((p++[Y0 s]).set {q with mem:=q.mem.add s.id s.share}).at s.par=some {q with mem:=q.mem.add s.id s.share}:=by have:=Hq (p:=p++[Y0 s]) (x:={q with mem:=q.mem.add s.id s.share}) (y:=q) (by show Qe.at _ q.id=_;rw[aj];exact R);rw[←aj];exact this
  have an:=O U;have SS:=O (Qe.set_set (p++[Y0 s]) (x:={q with mem:=q.mem.add s.id s.share}) (y:={q with mem:=q.mem.add s.id s.share,aM:=q.aM+1}) rfl);have ai:Hi (az=((p++[Y0 s]).set {q with mem:=q.mem.add s.id s.share}).set {q with mem:=q.mem.add s.id s.share,aM:=q.aM+1}):=O (by rw[ae.o,if_pos B];exact SS.o.symm);obtain⟨g0,g1,g2,g3,g4,g5,g6,g7,g8,g9,bp,bq,br,bs⟩:=(show Xx w6.drew w.heap.size s from c6.drew.blk S5.o (fun h=>h)).cells;unfold ptr cV at*;clear d ac z ag aj U b0 b1 b2 b3 b4 b5 b6 b7 b8 b9 V Z aa ab c6;rw[B];go_wp2_with fail;refine Qj [(0,0),(0,1),(0,2),(0,3),(0,4),(0,5),(0,6),(0,7),(2,8)] Zq (by kernel_rfl) (fun _ _ _ _ _ h=>h) ?_;simp only[Jk,Zf,Ze,Zd];iterate 8 (refine Jq (by kernel_rfl) (by go_simp;try rfl) ?_)
  clear g0 g1 g2 g3 g4 g5 g6 g7 g8 g9 bp bq br bs e5;refine J7 ?_;go_wp2_with fail;refine Zo bd ?_;rintro e w7⟨⟨r,rfl⟩,h7,c7⟩;have E:=h7.cell an.o;rw[u.o.1]at E;obtain⟨_,_,_,_,_,_,_,e7⟩:=Ja E;have z7:=E.frozen 7;have FF:=O (af.o w7 _ _ h7 c7 an.o rfl _ rfl);clear h7 c7 E;go_wp2_with fail;refine Jo ?_;go_wp2_with fail;go_ret;exact⟨rfl,by rw[ai.o];exact FF.o⟩
 ·have z:=d.cell R;rw[u.o.1]at z;obtain⟨_,_,_,_,_,_,_,e7⟩:=Ja z;have z7:=z.frozen 7;have FF:=O (af.o w6 _ q d ac R rfl _ rfl);have ai:Hi (az=(p++[Y0 s]).set {q with aM:=q.aM+1}):=O (by rw[ae.o,if_neg (by rw[B];decide)]);rw[B];clear d ac c6 z b0 b1 b2 b3 b4 b5 b6 b7 b8 b9 V Z aa ab;go_wp2_with fail;go_ret;exact⟨rfl,by rw[ai.o];exact FF.o⟩
end
section
variable{A:Dz}{w:World}{F:Fp}{b:Nat}{p:Qe}{N:Nat}{dep:Int→Nat}
theorem Qo.delC(h:Qo A w F b p)(i:Int)(I ty:TypeId):
  ∃w',(Builtin.delete_ #[136,I] ty #[.map (some A.m),.int .i64 i]).run prog w=.ok (.tuple #[]) w'∧Qo A w' (Qn F w w') b (p.filter fun x=>!decide (x.id=i))∧Qc F w w':=by
 obtain⟨l,K,hs⟩:=h;obtain⟨G,u,J,_,d⟩:=Xv 1 (Vh A b l) rfl hs;obtain⟨w',q,E,c⟩:=Di (P:=prog) u.map underlying136 underlying3 I ty i;have z:Qc G w w':=c.sub fun k B=>B▸u.at_;have h1:Yn Qx.id (Um A) w' (Qn G w w') A.m A.ad (Kp Qx.id i l):=(u.del (Um.obj A) i E c).more (fun k B=>.inl B) (u.bd.ext z);exact⟨w',q,⟨Kp Qx.id i l,K.filter _,d w' (fun w G=>Yn Qx.id (Um A) w G A.m A.ad (Kp Qx.id i l)) z h1⟩,z.sub J⟩
theorem drop_eq{i:Int}{c q:Qx}(h1:1≤i)(hc:p.at i=some c)(k:c.aM=0)(ha:p.aL i=false)(d:p.at c.par=some q):
  p.drop i=(p.set {q with mem:=q.mem.drop i,aM:=q.aM-1}).filter fun x=>!decide (x.id=i):=by
 unfold Qe.drop;rw[hc];dsimp only;rw[ha,k,d];have:¬i<1:=by omega
 simp[this]
theorem Qlj(h:Qo A w F b p)(I:Qs dep N p){i:Int}{c q:Qx}(h1:1≤i)(hc:p.at i=some c)(hu:c.aM=0)(ha:p.aL i=false)(E:p.at c.par=some q)(am:1≤q.aM):
  Cl 111 #[ptr b,.int .i64 i] w fun e w'=>e=.returned (.bool true)∧Qo A w' (Qn F w w') b (p.drop i)∧Qc F w w':=by
 have Z:=(Qo.obj A).bd h;have HA:=O (Hw h i);rw[Xz hc]at HA;have R:=O (Hx h I i);rw[ha]at R;have ac:=(I.ok q (Qe.aE E).1).aM;obtain⟨aj,d⟩:=Zx (p.drop i);rw[←d];rw[drop_eq h1 hc hu ha E]at d;have U:=O d;obtain⟨_,c1,_,_,_,_,_,c7⟩:=Ja (h.cell hc);rw[hu]at c7;have Xg:¬i<1:=by omega
 have J:=(Qe.aE E).2;have ew:IntKind.i64.wrap ((q.aM:Int)-1)=((q.aM-1:Nat):Int):=by rw[IntWalk.i64_in _ (by omega)];omega
 have af:Hi (∀w1,Qc Qb w w1→Cl 173 #[ptr (A.pf c.par),.int .i64 i] w1 fun e w'=>(∃r,e=.returned (.bool r))∧Qo A w' (Qn F w w') b (p.set {q with mem:=q.mem.drop i})∧Qc F w w'):=O (by
  intro w1 cc;obtain⟨G,hF,al,ab⟩:=h.famAt E;refine Zz (Qb3 (J0.obj.aB hF cc (Jl.none G)) i) ?_;rintro w2⟨hf,c2⟩;obtain⟨m1,m2⟩:=ab w1 w2 _ cc hf c2;exact⟨⟨_,rfl⟩,m1,m2⟩)
 have B:(p.set {q with mem:=q.mem.drop i}).at c.par=some {q with mem:=q.mem.drop i}:=by have:=Hq (p:=p) (x:={q with mem:=q.mem.drop i}) (y:=q) (by show p.at q.id=_;rw[J];exact E);rw[←J];exact this
 have SS:=O (Qe.set_set p (x:={q with mem:=q.mem.drop i}) (y:={q with mem:=q.mem.drop i,aM:=q.aM-1}) rfl);have V:Hi (∀w2,Qo A w2 (Qn F w w2) b (p.set {q with mem:=q.mem.drop i})→Qc F w w2→∀w3,w3=w2.setCell ⟨A.ad c.par,7,none⟩ (.int .i64 ((q.aM-1:Nat):Int))→
   w3.cell? ⟨b,0,none⟩=some (.map (some A.m))∧∃w4,(Builtin.delete_ #[136,3] 0 #[.map (some A.m),.int .i64 i]).run prog w3=.ok (.tuple #[]) w4∧Qo A w4 (Qn F w w4) b aj∧Qc F w w4):=O (by
  rintro w2 K ah w3 rfl;obtain⟨ai,aa⟩:=Qe.aE B;have z:=K.cell B;have e0:A.ad ({q with mem:=q.mem.drop i}:Qx).id=A.ad c.par:=by rw[aa]
  obtain⟨k1,k2⟩:=K.setC (c:={q with mem:=q.mem.drop i}) (c':={q with mem:=q.mem.drop i,aM:=q.aM-1}) ai rfl rfl rfl rfl
   (by rw[e0];exact(Zg (fun k=>k=A.ad c.par) w2).setCell (a:=⟨A.ad c.par,7,none⟩) (.int .i64 ((q.aM-1:Nat):Int)) (.inl rfl))
   (by rw[aa];exact z.set' 7 (.int .i64 ((q.aM-1:Nat):Int)) rfl)
  obtain⟨m1,m2⟩:=(Qo.obj A).two k1 Z ah k2;refine⟨Jf m1.blk,?_⟩;obtain⟨w4,ae,h4,c4⟩:=m1.delC i 3 0;obtain⟨n1,n2⟩:=(Qo.obj A).two h4 Z m2 c4;refine⟨w4,ae,?_,n2⟩;rw[U.o,←SS.o];exact n1)
 have ag:=O B;have HC:=O (h.cell hc);have HQ:=O (h.cell E);have HL:=O (fun w'(cc:Qc Qb w w')=>((Qo.obj A).aB h cc (Jl.none F)).look1 c.par);rw[Xz E]at HL;have HB:=O h.blk;unfold ptr at*;clear h I hc E hu ha d ac J B;go_enter func111,ntmps111;go_wp2_with fail;refine Zy HA ?_;rintro w1 rfl;go_wp2_with fail;refine Zy R ?_;intro w1 u;have C1:=O u;obtain⟨d0,_,_,_,_,_,_,_⟩:=Ja (u.drew.blk HC.o (fun h=>h));obtain⟨_,_,_,_,_,q5,_,_⟩:=Ja (u.drew.blk HQ.o (fun h=>h));have hL:=HL.o _ u.drew;have y0:=Jf (u.drew.blk HB.o (fun h=>h));unfold ptr at*;clear u c1 c7;go_wp2_with fail;refine Qj [(0,0),(0,1),(0,2),(0,3),(0,4),(0,5),(0,6),(0,7),(0,8),(2,9)] Zq (by kernel_rfl) (fun _ _ _ _ _ h=>h) ?_;simp only[Jk,Zf,Ze,Zd];iterate 9 (refine Jq (by kernel_rfl) (by go_simp;try rfl) ?_)
 refine J7 ?_;go_wp2_with fail;refine Jo ?_;go_wp2_with fail;refine(af.o _ C1.o.drew).mono ?_;rintro e w2⟨⟨r,rfl⟩,K,c2⟩;have z:=K.cell ag.o;obtain⟨_,_,_,_,_,_,_,e7⟩:=Ja z;have z7:=z.frozen 7;obtain⟨t0,w4,ak,h4,c4⟩:=V.o w2 K c2 _ rfl;have H4:=O (Zt h4 c4);clear K c2 z h4 c4 d0 q5 hL y0;go_wp2;go_ret;exact⟨rfl,H4.o⟩
end
section
variable{A:Dz}{w:World}{F:Fp}{b:Nat}{p:Qe}{N:Nat}{dep:Int→Nat}
def Dz.lim(A:Dz)(i:Int)(vb:Value):Dz:=⟨A.m,A.ad,fun j=>if j=i then vb else A.vl j,A.pf,A.pt⟩
theorem Qq7{i:Int}{vb:Value}{c:Qx}(h:c.id≠i):Sy (A.lim i vb) c=Sy A c:=by unfold Sy Dz.lim;simp only[h,if_false]
theorem Qo.renewed(h:Qo A w F b p){c c':Qx}(hc:c∈p)(E:c'.id=c.id)(hm:c'.mem=c.mem)(ht:c'.tree=c.tree){w0 w1 w2}{vb:Nat}(Z:Qc Qb w w0)(c1:Qc Qb w0 w1)(hl:Ho w1 (Qn Qb w0 w1) vb c'.limit)
  (c2:Qc (fun k=>k=A.ad c.id) w1 w2) (hb:Qh w2 (A.ad c.id) (Pn c' (ptr vb) (A.pf c.id) (A.pt c.id)) 143):Qo (A.lim c.id (ptr vb)) w2 (Qn F w w2) b (p.set c')∧Qc F w w2:=by
 have am:=(Qo.obj A).bd h;obtain⟨l,hp,hs⟩:=h;obtain⟨H,h1,h2,_,h3⟩:=Xv 1 (Vh A b l) rfl hs;have ag:c∈l:=hp.mem_iff.2 hc;obtain⟨G,k1,k2,k3⟩:=h1.ex;have ab:=(k1 c ag).2;obtain⟨af,G0,R0,g0,ai,d0,s0,s1⟩:=ab;obtain⟨_,G1,R1,g1,aj,d1,s2,s3⟩:=ai;obtain⟨_,G2,R2,g2,ak,d2,s4,s5⟩:=aj;obtain⟨_,G3,R3,g3,_,d3,s6,_⟩:=ak;have cc:Qc (G c.id) w w2:=(Z.none.aA c1.none).aA (c2.sub fun k d=>d▸s0 _ g0.2.1);have cH:Qc H w w2:=cc.sub fun k d=>(k2 _ k d).1;have u:Bd (G c.id) w:=af;have cA:Qc Qb w w1:=Z.aA c1;have z1:=c1.size;have z2:=c2.size;have z0:=Z.size;have K:∀k,G2 k→k≠A.ad c.id:=fun k d e=>d0 (A.ad c.id) g0.2.1 (s3 _ (s4 _ (e▸d)));have R:∀k,G3 k→k≠A.ad c.id:=fun k d e=>d0 (A.ad c.id) g0.2.1 (s3 _ (s5 _ (s6 _ (e▸d))));have z:∀k,G2 k→G c.id k:=fun k d=>s1 _ (s3 _ (s4 _ d));have q:∀k,G3 k→G c.id k:=fun k d=>s1 _ (s3 _ (s5 _ (s6 _ d)));have ae:A.ad c.id<w.heap.size:=u _ (s0 _ g0.2.1);have f2:J0 w2 G2 (A.pf c.id) c'.mem:=by rw[hm];exact J0.obj.aB (J0.obj.aB g2 cA (Jl.none _)) c2 (fun k d e=>K k d e)
 have f3:Jg w2 G3 (A.pt c.id) c'.tree:=by rw[ht];exact Jg.obj.aB (Jg.obj.aB g3 cA (Jl.none _)) c2 (fun k d e=>R k d e)
 have f1:Do (ptr vb) c'.limit w2 (Qn Qb w0 w1):=.inr ⟨vb,rfl,Ho.obj.aB hl c2 (fun k d e=>by have:=((Qr k).1 d).1;omega)⟩;have aa:Bd (Qn (G c.id) w w2) w2:=u.ext cc;have hX:Um (A.lim c.id (ptr vb)) w2 (Qn (G c.id) w w2) (A.ad c.id) c':=by
  refine⟨by rw[E];rfl,?_⟩;have e2:(A.lim c.id (ptr vb)).vl c'.id=ptr vb:=by simp[Dz.lim,E]
  unfold Sy;rw[e2];show Oh [Tv (A.ad c'.id) (Pn c' (ptr vb) (A.pf c'.id) (A.pt c'.id)) 143,Do (ptr vb) c'.limit,fun w F=>J0 w F (A.pf c'.id) c'.mem,fun w F=>Jg w F (A.pt c'.id) c'.tree] w2 _;rw[E];have V:∀{U:Fp},(∀k,U k→Qn (G c.id) w w2 k)→Bd U w2:=fun hU=>aa.sub hU;have u1:∀k,Qn Qb w0 w1 k→Qn (G c.id) w w2 k:=fun k d=>.inr ⟨by have:=((Qr k).1 d).1;omega,by have:=((Qr k).1 d).2;omega⟩;refine Q7 (G:=fun k=>k=A.ad c.id) (H:=fun k=>Qn Qb w0 w1 k∨G2 k∨G3 k) ⟨hb,rfl,fun k e=>e▸hb.lt⟩ ?_ ?_ (fun k e=>e▸ .inl (s0 _ g0.2.1)) ?_ aa
  ·refine Q7 (G:=Qn Qb w0 w1) (H:=fun k=>G2 k∨G3 k) f1 ?_ ?_ (fun k d=>.inl d) (fun k d=>.inr d) (V fun k d=>d.elim (u1 k) (fun d=>d.elim (fun d=>.inl (z k d)) (fun d=>.inl (q k d))));·refine Q7 (G:=G2) (H:=G3) f2 (Y6 f3 (V fun k d=>.inl (q k d))) (fun k a b=>d2 k a (s6 _ b)) (fun k d=>.inl d) (fun k d=>.inr d) (V fun k d=>d.elim (fun d=>.inl (z k d)) (fun d=>.inl (q k d)))
   ·intro k d I;have:=((Qr k).1 d).1;rcases I with I|I;·have:=u k (z k I);omega
    ·have:=u k (q k I);omega
  ·rintro k rfl d;rcases d with d|d|d;·have:=((Qr _).1 d).1;omega
   ·exact K _ d rfl
   ·exact R _ d rfl
  ·intro k d;rcases d with d|d|d;·exact u1 k d
   ·exact .inl (z k d)
   ·exact .inl (q k d)
 have al:=h1.map.lt;have hC:Yn Qx.id (Um (A.lim c.id (ptr vb))) w2 (Qn H w w2) A.m A.ad (Lg Qx.id c' l):=by
  refine⟨?_,h1.bd.ext cH,.inl h1.at_,fun i=>if i=c.id then Qn (G c.id) w w2 else G i,?_,?_,?_⟩;·rw[Qcy];exact h1.map.aB cc fun B=>(k2 _ _ B).2 rfl
  ·intro y hy;rcases Qao (x:=c) h1.nodup hy with rfl|⟨hy,ah⟩;·dsimp only;rw[E,if_pos rfl];exact hX
   ·dsimp only;have J:y.id≠c.id:=by rw[←E];exact ah
    rw[if_neg J];have ac:=(Um.obj A).aB (k1 y hy) cc (fun k a b=>J (k3 _ _ k a b));exact⟨ac.1,by rw[Qq7 J];exact ac.2⟩
  ·intro i k B;try dsimp only at B
   split at B
   ·rcases B with B|B;·exact⟨.inl (k2 _ k B).1,(k2 _ k B).2⟩
    ·exact⟨.inr B,by omega⟩
   ·exact⟨.inl (k2 i k B).1,(k2 i k B).2⟩
  ·intro i j k a b;try dsimp only at a b
   split at a<;>split at b;·rename_i e1 e2;rw[e1,e2]
   ·rename_i e1 e2;rcases a with a|a;·rw[e1];exact k3 _ _ k a b
    ·have:=h1.bd k (k2 j k b).1;omega
   ·rename_i e1 e2;rcases b with b|b;·rw[e2];exact k3 _ _ k a b
    ·have:=h1.bd k (k2 i k a).1;omega
   ·exact k3 _ _ k a b
 have e3:=h3 w2 (fun w G=>Yn Qx.id (Um (A.lim c.id (ptr vb))) w G A.m A.ad (Lg Qx.id c' l)) cH hC;exact⟨⟨Lg Qx.id c' l,hp.map _,e3⟩,cH.sub h2⟩
theorem Qt0{i:Int}{c:Qx}{g:Qx→Qx}(hn:(p.map Qx.id).Nodup)(hc:p.at i=some c)(k:(g c).id=c.id):(p.map fun x=>if x.id=i then g x else x)=p.set (g c):=by
 obtain⟨u,d⟩:=Qe.aE hc;unfold Qe.set;refine List.map_congr_left fun x q=>?_;rw[k,d];by_cases e:x.id=i;·rw[if_pos e,if_pos e];have h1:=Qe.at_of hn q;rw[e,hc]at h1;rw[Zs h1]
 ·rw[if_neg e,if_neg e]
theorem Qso{x y:Qx}(h:x.id≠y.id):(p.set x).set y=(p.set y).set x:=by
 unfold Qe.set;rw[List.map_map,List.map_map];refine List.map_congr_left fun z _=>?_;simp only[Function.comp];by_cases h1:z.id=x.id;·rw[if_pos h1,if_neg h,if_neg (fun e=>h (h1.symm.trans e)),if_pos h1]
 ·rw[if_neg h1];by_cases c:z.id=y.id;·rw[if_pos c,if_neg (fun e=>h e.symm)]
  ·rw[if_neg c,if_neg h1]
def Uk(c:Qx)(s:Yk):Qx:={c with aJ:=s.aJ,total:=0,limit:=Ha s.aN}
theorem Qbf{s:Yk}{c q:Qx}(k:Qs dep N p)(h1:1≤s.id)(hc:p.at s.id=some c)(ha:p.aL s.id=false)(B:p.at c.par=some q):
  p.aK s=if s.aJ then((p.set {q with mem:=q.mem.drop s.id}).set (Uk c s)).set {q with mem:=(q.mem.drop s.id).add s.id s.share}else(p.set {q with mem:=q.mem.drop s.id}).set (Uk c s):=by
 obtain⟨d,E⟩:=k.pid hc (by omega) B;have z:=(Qe.aE hc).2;have key:∀f:Jc→Jc,((p.fam s.id f).map fun x=>if x.id=s.id then{x with aJ:=s.aJ,total:=0,limit:=Ha s.aN}else x)=(p.set {q with mem:=f q.mem}).set (Uk c s):=fun f=>by rw[Py hc B];have u:(p.set {q with mem:=f q.mem}).at s.id=some c:=(V5 (x:={q with mem:=f q.mem}) (show s.id≠q.id from fun e=>d e.symm)).trans hc;exact Qt0 (g:=fun x=>{x with aJ:=s.aJ,total:=0,limit:=Ha s.aN}) (by rw[Qns];exact k.nd) u rfl
 have e:p.aK s=((p.fam s.id fun f=>if s.aJ then(f.drop s.id).add s.id s.share else f.drop s.id).map fun x=>if x.id=s.id then{x with aJ:=s.aJ,total:=0,limit:=Ha s.aN}else x):=by
  unfold Qe.aK;rw[hc];dsimp only;rw[ha];have:¬s.id<1:=by omega
  simp[this]
 rw[e,key];cases hs:s.aJ with
 |false=>simp
 |true=> simp only[if_true];rw[←Qso (p:=p.set {q with mem:=q.mem.drop s.id}) (x:={q with mem:=(q.mem.drop s.id).add s.id s.share}) (y:=Uk c s) (show q.id≠c.id from by rw[z];exact d)];rw[Qe.set_set p (x:={q with mem:=q.mem.drop s.id}) (y:={q with mem:=(q.mem.drop s.id).add s.id s.share}) rfl]
end
section
variable{A:Dz}{w:World}{F:Fp}{b:Nat}{p:Qe}{N:Nat}{dep:Int→Nat}
theorem Qii(h:Qo A w F b p)(ab:Qs dep N p)(s:Yk){c q:Qx}(h1:1≤s.id)(hc:p.at s.id=some c)(ha:p.aL s.id=false)(hq:p.at c.par=some q):
  Cl 109 #[ptr b,Fb s] w fun e w'=>e=.returned (.bool true)∧Yr w' (Qn F w w') b (p.aK s)∧Qc F w w':=by
 have ak:=(Qo.obj A).bd h;obtain⟨W,hW⟩:=Zx (w.alloc (.cells (Z4 s.leaf s) 40));have S0:Hi (Xx W w.heap.size s):=O (by rw[hW];exact Xx.new w s);have C0:Hi (Qc Qb w W):=O (by rw[hW];exact(Zg _ _).alloc _);have Z:=(Qo.obj A).aB h C0.o (Jl.none F);have av:=(Qo.obj A).bd Z;have HA:=O (Hw Z s.id);rw[Xz hc]at HA;have am:=O (Hx Z ab s.id);rw[ha]at am;obtain⟨a0,a1,a2,a3,a4,a5,a6,a7,a8,a9,ap,aq,ar,au⟩:=(show Xx (w.alloc _) _ _ from hW▸S0.o).cells;have Xg:¬s.id<1:=by omega
 have bj:=O (fun w=>Ns s w);have bh:=O (fun w=>Qdj s.aN w);obtain⟨bo,z⟩:=Zx (p.aK s);rw[←z];rw[Qbf ab h1 hc ha hq]at z;have ag:=O z;obtain⟨al,ac⟩:=ab.pid hc (by omega) hq;obtain⟨ax,B⟩:=Qe.aE hc;have bg:Hi (∀w1,Qc Qb W w1→Cl 173 #[ptr (A.pf c.par),.int .i64 s.id] w1 fun e w'=>(∃r,e=.returned (.bool r))∧Qo A w' (Qn F W w') b (p.set {q with mem:=q.mem.drop s.id})∧Qc F W w'):=O (by
  intro w1 cc;obtain⟨G,hF,bm,J⟩:=Z.famAt hq;refine Zz (Qb3 (J0.obj.aB hF cc (Jl.none G)) s.id) ?_;rintro w2⟨hf,c2⟩;obtain⟨m1,m2⟩:=J w1 w2 _ cc hf c2;exact⟨⟨_,rfl⟩,m1,m2⟩)
 have aa:(p.set {q with mem:=q.mem.drop s.id}).at s.id=some c:=(V5 (x:={q with mem:=q.mem.drop s.id}) (show s.id≠q.id from fun e=>al e.symm)).trans hc;have ba:(p.set {q with mem:=q.mem.drop s.id}).at c.par=some {q with mem:=q.mem.drop s.id}:=by have:=Hq (p:=p) (x:={q with mem:=q.mem.drop s.id}) (y:=q) (by show p.at q.id=_;rw[ac];exact hq);rw[←ac];exact this
 have bb:((p.set {q with mem:=q.mem.drop s.id}).set (Uk c s)).at c.par=some {q with mem:=q.mem.drop s.id}:=(V5 (x:=Uk c s) (show c.par≠c.id from fun e=>al (by rw[ac,e,B]))).trans ba;have ah:F (A.ad s.id):=by obtain⟨G,g1,g2,_⟩:=Z.part ax 0 rfl;rw[←B];exact g2 _ g1.2.1
 have bl:Hi (w.heap.size≠A.ad s.id):=O (fun e=>by have:=ak _ ah;omega);have nF:¬F w.heap.size:=fun hk=>by have:=ak _ hk;omega
 have NF:=O nF;have ao:Hi (∀w2 w3 w4 vb,Qo A w2 (Qn F W w2) b (p.set {q with mem:=q.mem.drop s.id})→Qc F W w2→Qc Qb w2 w3→Qc Qb w3 w4→Ho w4 (Qn Qb w3 w4) vb (Ha s.aN)→∀w5,w5=((w4.setCell ⟨A.ad s.id,2,none⟩ (.bool s.aJ)).setCell ⟨A.ad s.id,3,none⟩ (.int .u64 0)).setCell ⟨A.ad s.id,4,none⟩ (ptr vb)→
   Qo (A.lim s.id (ptr vb)) w5 (Qn F W w5) b ((p.set {q with mem:=q.mem.drop s.id}).set (Uk c s))∧Qc F W w5):=O (by
  rintro w2 w3 w4 vb h2 bk c3 c4 hL w5 rfl;have I:=c4.blk (c3.blk (h2.cell aa) (fun h=>h)) (fun h=>h);have ay:=(Qe.aE aa).1;have r:=h2.renewed (c:=c) (c':=Uk c s) ay rfl rfl rfl c3 c4 hL (w2:=((w4.setCell ⟨A.ad s.id,2,none⟩ (.bool s.aJ)).setCell ⟨A.ad s.id,3,none⟩ (.int .u64 0)).setCell ⟨A.ad s.id,4,none⟩ (ptr vb))
   (by rw[B];exact(((Zg (fun k=>k=A.ad s.id) w4).setCell (a:=⟨A.ad s.id,2,none⟩) _ (.inl rfl)).setCell (a:=⟨A.ad s.id,3,none⟩) _ (.inl rfl)).setCell (a:=⟨A.ad s.id,4,none⟩) _ (.inl rfl))
   (by rw[B];exact((I.set' 2 (.bool s.aJ) rfl).set' 3 (.int .u64 0) rfl).set' 4 (ptr vb) rfl)
  rw[B]at r;obtain⟨r1,r2⟩:=r;exact(Qo.obj _).two r1 av bk r2)
 have af:Hi (∀A' w' p',Qo A' w' (Qn F W w') b p'→Qc F W w'→Yr w' (Qn F w w') b p'∧Qc F w w'):=O (fun A' w' p' h' c'=>by
  have c2:Qc F w w':=C0.o.none.aA c';exact⟨⟨A',(Qo.obj A').more h' (Ke C0.o.size) (ak.ext c2)⟩,c2⟩)
 have HC:=O (Z.cell hc);have HQ:=O (Z.cell hq);have HL:=O (fun w'(cc:Qc Qb W w')=>((Qo.obj A).aB Z cc (Jl.none F)).look1 c.par);rw[Xz hq]at HL;have HB:=O Z.blk;have bd:=O aa;have bi:=O bb;have bc:=O av;have bf:Hi (s.aJ=true→∀w5 vb,Qo (A.lim s.id (ptr vb)) w5 (Qn F W w5) b ((p.set {q with mem:=q.mem.drop s.id}).set (Uk c s))→Qc F W w5→Cl 127 #[ptr (A.pf c.par),.int .i64 s.id,cV s.share] w5 fun e w'=>(∃r,e=.returned (.bool r))∧Qo (A.lim s.id (ptr vb)) w' (Qn F W w') b (((p.set {q with mem:=q.mem.drop s.id}).set (Uk c s)).set {q with mem:=(q.mem.drop s.id).add s.id s.share})∧Qc F W w'):=O (by
  intro hs w5 vb h5 c5;have az:s.share.May:=by unfold Yk.aJ at hs;simp only[Zw,decide_eq_true_eq]at hs;exact hs.2
  obtain⟨G,hF,_,J⟩:=h5.famAt bi.o;refine(Qeh hF s.id s.share az).mono ?_;rintro e w7⟨hr,hf,c7⟩;obtain⟨m1,m2⟩:=J _ w7 _ (Zg Qb _) hf c7;obtain⟨n1,n2⟩:=(Qo.obj _).two m1 bc.o c5 m2;exact⟨hr,n1,n2⟩)
 unfold Fb ptr cV at*;clear h Z ab hc hq ha z ac B ax aa ba bb al nF ah;go_enter func109,ntmps109;go_wp2_with fail;rw[←hW]at a0 a1 a2 a3 a4 a5 a6 a7 a8 a9 ap aq ar au⊢;clear hW;refine Zy HA ?_;rintro w1 rfl;go_wp2_with fail;refine Zy am ?_;intro w1 d;have C1:=O d;obtain⟨d0,_,_,_,_,_,_,_⟩:=Ja (d.drew.blk HC.o (fun h=>h));obtain⟨_,_,_,_,_,q5,_,_⟩:=Ja (d.drew.blk HQ.o (fun h=>h));have hL:=HL.o _ d.drew;have y0:=Jf (d.drew.blk HB.o (fun h=>h));obtain⟨z0,z1,z2,z3,z4,z5,z6,z7,z8,z9,K,R,U,V⟩:=(show Xx w1.drew w.heap.size s from d.drew.blk S0.o (fun h=>h)).cells;unfold ptr at*;clear d a0 a1 a2 a3 a4 a5 a6 a7 a8 a9 ap aq ar au;go_wp2_with fail;refine Qj [(0,0),(0,1),(0,2),(0,3),(0,4),(0,5),(0,6),(0,7),(0,8),(0,9),(0,10),(0,11),(2,12)] Zq (by kernel_rfl) (fun _ _ _ _ _ h=>h) ?_;simp only[Jk,Zf,Ze,Zd];iterate 12 (refine Jq (by kernel_rfl) (by go_simp;try rfl) ?_)
 refine J7 ?_;go_wp2_with fail;refine Jo ?_;go_wp2_with fail;refine(bg.o _ C1.o.drew).mono ?_;rintro e w2⟨⟨r,rfl⟩,h2,c2⟩;have H2:=O (Zt h2 c2);have S2:=O (c2.blk S0.o NF.o);have an:=O (h2.cell bd.o);clear h2 c2 d0 q5 hL y0 z0 z1 z2 z3 z4 z5 z6 z7 z8 z9 K R U V;obtain⟨z0,z1,z2,z3,z4,z5,z6,z7,z8,z9,K,R,U,V⟩:=(show Xx w2.drew w.heap.size s from(Zg Qb w2).drew.blk S2.o (fun h=>h)).cells;go_wp2_with fail;refine Jp [(1,0),(1,1),(1,2),(0,3),(1,5),(1,6),(2,4),(2,7),(0,8),(0,9),(2,10),(0,11),(0,12),(2,13),(0,14),(0,15),(3,16)] (fun wv=>Qc (fun k=>k=A.ad s.id) (w2) wv) Zq (by kernel_rfl) (fun _ _ _ _ _ h=>h) (Zj (Zg _ _)) ?_;simp only[Jk,Zf,Ze,Zd];iterate 3 (refine Qy (by kernel_rfl) (fun wv hv=>by go_simp;try rfl) ?_;try simp only[Act.put,Za,Zc,Zb])
 refine Xe (by kernel_rfl) (by go_simp;try rfl) ?_;(refine Qy (by kernel_rfl) (fun wv hv=>by go_simp;try rfl) ?_;try simp only[Act.put,Za,Zc,Zb]);clear z0 z1 z2 z3 z4 z5 z6 z7 z8 z9 K R U V;iterate 1 (refine Qy (by kernel_rfl) (fun wv hv=>by(have zz:=hv.blk S2.o bl.o;obtain⟨z0,z1,z2,z3,z4,z5,z6,z7,z8,z9,K,R,U,V⟩:=(show Xx wv w.heap.size s from zz).cells);go_simp;try rfl) ?_;try simp only[Act.put,Za,Zc,Zb])
 refine Yb ?_;go_wp2_with fail;refine Zz (bj.o _) ?_;intro w3 c3;have D3:=O c3.undrew;clear c3;go_wp2_with fail;refine⟨D3.o.none,?_⟩;refine Yb ?_;go_wp2_with fail;refine(bh.o _).mono ?_;rintro e w4⟨vb,rfl,aw,c4⟩;have D4:=O c4;have R5:=O (ao.o w2 w3 w4 vb H2.o.1 H2.o.2 D3.o c4 aw _ rfl);have I:=c4.blk (D3.o.blk an.o (fun h=>h)) (fun h=>h);have B4:=O I;have ai:=O (D3.o.aA c4);have z2:=I.frozen 2;have y2:=(Ja I).2.2.1;clear c4 aw ao;go_wp2_with fail;refine⟨ai.o.none,?_⟩;iterate 2 (refine Xe (by kernel_rfl) (by go_simp;try rfl) ?_)
 refine Yb ?_;go_wp2_with fail;refine⟨(ai.o.none (F:=fun k=>k=A.ad s.id)).setCell (a:=⟨A.ad s.id,2,none⟩) _ (.inl rfl),?_⟩;have b5:=B4.o.set' 2 (.bool s.aJ) rfl;have z3:=b5.frozen 3;have y3:=(Ja b5).2.2.2.1;iterate 2 (refine Xe (by kernel_rfl) (by go_simp;try rfl) ?_)
 refine Yb ?_;go_wp2_with fail;refine⟨((ai.o.none (F:=fun k=>k=A.ad s.id)).setCell (a:=⟨A.ad s.id,2,none⟩) _ (.inl rfl)).setCell (a:=⟨A.ad s.id,3,none⟩) _ (.inl rfl),?_⟩;have b6:=b5.set' 3 (.int .u64 0) rfl;have z4:=b6.frozen 4;have y4:=(Ja b6).2.2.2.2.1;iterate 2 (refine Xe (by kernel_rfl) (by go_simp;try rfl) ?_)
 refine Km ?_;go_wp2_with fail;refine Ky ?_;clear z2 y2 b5 z3 y3 b6 z4 y4;obtain⟨w5,ae⟩:=Zx (((w4.setCell ⟨A.ad s.id,2,none⟩ (.bool s.aJ)).setCell ⟨A.ad s.id,3,none⟩ (.int .u64 0)).setCell ⟨A.ad s.id,4,none⟩ (.pointer (some ⟨vb,0,none⟩)));have Q5:=O (show Qo (A.lim s.id (.pointer (some ⟨vb,0,none⟩))) w5 (Qn F W w5) b ((p.set {q with mem:=q.mem.drop s.id}).set (Uk c s))∧Qc F W w5 from by rw[ae];exact R5.o);have e2:w5.cell? ⟨A.ad s.id,2,none⟩=some (.bool s.aJ):=by rw[ae];exact(Ja (((B4.o.set' 2 (.bool s.aJ) rfl).set' 3 (.int .u64 0) rfl).set' 4 (.pointer (some ⟨vb,0,none⟩)) rfl)).2.2.1
 have S5:=O (Q5.o.2.blk S0.o NF.o);rw[←ae];clear ae R5;rcases Bool.eq_false_or_eq_true s.aJ with E|E;·rw[E]at e2;have u:=ag.o;rw[if_pos E]at u;have aj:=O u;clear u;have be:=O (bf.o E w5 vb Q5.o.1 Q5.o.2);obtain⟨z0,z1,z2,z3,z4,z5,z6,z7,z8,z9,K,R,U,V⟩:=(show Xx w5 w.heap.size s from S5.o).cells;go_wp2_with fail;refine Zo be ?_;rintro e w7⟨⟨r,rfl⟩,h7,c7⟩;have FF:=O (af.o _ _ _ h7 c7);clear h7 c7;go_wp2;go_ret;exact⟨rfl,by rw[aj.o];exact FF.o⟩
 ·rw[E]at e2;have u:=ag.o;rw[if_neg (by rw[E];decide)]at u;have aj:=O u;clear u;have FF:=O (af.o _ _ _ Q5.o.1 Q5.o.2);go_wp2;go_ret;exact⟨rfl,by rw[aj.o];exact FF.o⟩
end
section
variable{A:Dz}{w:World}{F:Fp}{b:Nat}{p:Qe}{N:Nat}{dep:Int→Nat}
theorem Qkv(w):Cl 86 #[.pointer none] w fun e w'=>e=.returned (.pointer none)∧Qc Qb w w':=by go_enter func86,ntmps86;go_wp2;go_ret;exact⟨rfl,Zg _ _⟩
theorem Qhr{v:Value}{l:Kg}{G:Fp}(h:Do v l w G)(hn:∀r,l=some r→r.l.length<549755813888):
  Cl 86 #[v] w fun e w'=>∃v',e=.returned v'∧Do v' l w' (Qn Qb w w')∧Qc Qb w w':=by
 rcases h with⟨rfl,rfl,d⟩|⟨q,rfl,h⟩;·refine Zz (Qkv w) ?_;intro w1 c;exact⟨_,rfl,.inl ⟨rfl,rfl,Td _ _⟩,c⟩
 ·refine(Qku h hn).mono ?_;rintro e w1⟨b',rfl,h',c⟩;exact⟨_,rfl,.inr ⟨b',rfl,h'⟩,c⟩
theorem Qq8{w0 w1 w2 w3 w4 w5:World}{x:Qx}{vb:Value}{pf pt:Nat}(J:Qc Qb w1 w2)(E:Qc Qb w2 w3)(B:Qc Qb w3 w4)(Z:w0.heap.size<w1.heap.size)(z:Qc (fun k=>k=w0.heap.size) w4 w5)
  (hl:Do vb x.limit w2 (Qn Qb w1 w2)) (hf:J0 w3 (Qn Qb w2 w3) pf x.mem) (ht:Jg w4 (Qn Qb w3 w4) pt x.tree) (I:Qh w5 w0.heap.size (Pn x vb pf pt) 143):
  Um (A.put x.id w0.heap.size vb pf pt) w5 (Qn Qb w0 w5) w0.heap.size x:=by
 have s1:=J.size;have s2:=E.size;have s3:=B.size;have s5:=z.size;have Xg:=I.lt;refine⟨by simp[Dz.put],?_⟩;have e1:(A.put x.id w0.heap.size vb pf pt).ad x.id=w0.heap.size:=by simp[Dz.put]
 have K:(A.put x.id w0.heap.size vb pf pt).vl x.id=vb:=by simp[Dz.put]
 have R:(A.put x.id w0.heap.size vb pf pt).pf x.id=pf:=by simp[Dz.put]
 have V:(A.put x.id w0.heap.size vb pf pt).pt x.id=pt:=by simp[Dz.put]
 unfold Sy;rw[e1,K,R,V];have q:∀{u v:World},w1.heap.size≤u.heap.size→Jl (Qn Qb u v) (fun k=>k=w0.heap.size):=fun h k c e=>by have:=((Qr k).1 c).1;omega
 have h1:Do vb x.limit w5 (Qn Qb w1 w2):=(Do.good _ _).aB ((Do.good _ _).aB hl (E.aA B) (Jl.none _)) z (q (Zv _));have h2:J0 w5 (Qn Qb w2 w3) pf x.mem:=J0.obj.aB (J0.obj.aB hf B (Jl.none _)) z (q s1);have h3:Jg w5 (Qn Qb w3 w4) pt x.tree:=Jg.obj.aB ht z (q (by omega));have d:∀{U:Fp},(∀k,U k→k<w5.heap.size)→Bd U w5:=fun h=>h;refine Q7 (G:=fun k=>k=w0.heap.size) (H:=Qn Qb w1 w4) ⟨I,rfl,fun k e=>e▸Xg⟩ ?_ (fun k e c=>by have:=((Qr k).1 c).1;omega) (fun k e=>(Qr k).2 ⟨by omega,by omega⟩) (G5 (by omega) s5) (Td _ _);refine Q7 (G:=Qn Qb w1 w2) (H:=Qn Qb w2 w4) h1 ?_ (Qaa (Zv _)) (G5 (Zv _) (by omega)) (G5 s1 (Zv _)) (d fun k c=>by have:=((Qr k).1 c).2;omega);exact Q7 (G:=Qn Qb w2 w3) (H:=Qn Qb w3 w4) h2 (Y6 h3 (d fun k c=>by have:=((Qr k).1 c).2;omega)) (Qaa (Zv _)) (G5 (Zv _) s3) (G5 s2 (Zv _)) (d fun k c=>by have:=((Qr k).1 c).2;omega)
structure Qf9(A:Dz)(w:World)(l:List Qx)(b' m' r:Nat)(wr:World)(lm dn:List Qx):Prop where
 it:Kj wr A.m r (Xy Qx.id A.ad l) (Xy Qx.id A.ad lm)
 sub:lm.Sublist l
 perm:(dn++lm).Perm l
 chg:Qc Qb w wr
 blk:Qh wr b' #[.map (some m')] 138
 co:∃(A':Dz)(G:Fp),A'.m=m'∧Yn Qx.id (Um A') wr G m' A'.ad dn∧∀k,G k→w.heap.size≤k∧k≠r∧k≠b'
 nb:w.heap.size≤b'∧w.heap.size≤r∧b'≠r∧w.heap.size≤m'∧m'≠r∧m'≠b'
theorem Wj(m:Nat)(w):(binOp .eql 136 (.map (some m)) (.map none)).run prog w=.ok (.bool false) w:=by kernel_rfl
attribute [local go_sem] Wj
theorem Qf9.step{l:List Qx}{b' m' r:Nat}{wr}{lm U:List Qx}(h:Qf9 A w l b' m' r wr lm U)(J:(l.map Qx.id).Nodup){x:Qx}(hx:x∈lm){w2 w3 w4 w5 w6 w7}
  (u:Kj w2 A.m r (Xy Qx.id A.ad l) (Vu x.id (Xy Qx.id A.ad lm))) (q:Qc (fun k=>k=r) wr w2) (ah:w3=w2.alloc (.cells (Pn x (A.vl x.id) (A.pf x.id) (A.pt x.id)) 143))
  (c4:Qc Qb w3 w4) (c5:Qc Qb w4 w5) (c6:Qc Qb w5 w6) {vb:Value} {pf pt:Nat} (hl:Do vb x.limit w4 (Qn Qb w3 w4)) (hf:J0 w5 (Qn Qb w4 w5) pf x.mem) (ht:Jg w6 (Qn Qb w5 w6) pt x.tree)
  (ai:w7=((w6.setCell ⟨w2.heap.size,4,none⟩ vb).setCell ⟨w2.heap.size,5,none⟩ (ptr pf)).setCell ⟨w2.heap.size,6,none⟩ (ptr pt)) (ay:A.m<w.heap.size):
  Qh w7 b' #[.map (some m')] 138∧∃K,(Instr.mapUpdate 136 (.map (some m')) (.int .i64 x.id) (.pointer (some ⟨w2.heap.size,0,none⟩))).run prog w7=.ok () K∧
   Qf9 A w l b' m' r K (Kp Qx.id x.id lm) (U++[x])∧Dq K r<Dq wr r:=by
 obtain⟨B,G',ak,al,aa⟩:=h.co;obtain⟨n1,n2,n3,n4,n5,n6⟩:=h.nb;have ae:=J.sublist (h.sub.map Qx.id);have s1:=h.chg.size;have s2:=q.size;have aj:Qc Qb w2 w3:=by rw[ah];exact(Zg _ _).alloc _
 have ab:Qh w3 w2.heap.size (Pn x (A.vl x.id) (A.pf x.id) (A.pt x.id)) 143:=by rw[ah];exact Qh.new _ _ _
 have ac:=ab.lt;have s4:=c4.size;have s5:=c5.size;have s6:=c6.size;have ax:r<w2.heap.size:=by obtain⟨o2,h2,_⟩:=u.walk;exact(Z2.1 h2).1
 have an:=c6.blk (c5.blk (c4.blk ab (fun h=>h)) (fun h=>h)) (fun h=>h);have R:Qc (fun k=>k=w2.heap.size) w6 w7:=by rw[ai];exact(((Zg (fun k=>k=w2.heap.size) w6).setCell (a:=⟨w2.heap.size,4,none⟩) _ (.inl rfl)).setCell (a:=⟨w2.heap.size,5,none⟩) _ (.inl rfl)).setCell (a:=⟨w2.heap.size,6,none⟩) _ (.inl rfl)
 have ao:Qh w7 w2.heap.size (Pn x vb pf pt) 143:=by rw[ai];exact((an.set' 4 vb rfl).set' 5 (ptr pf) rfl).set' 6 (ptr pt) rfl
 have hX:=Qq8 (A:=B) c4 c5 c6 ac R hl hf ht ao;have d:Qc Qb w2 w7:=(((aj.aA c4).aA c5).aA c6).trans R (fun k e=>.inr (by rw[e];exact Zv _));have s7:=d.size;have c:=q.blk h.blk (by omega);have aw:=c.lt;have V:=al.aB (Um.obj B) q (fun k I e=>(aa k I).2.1 e);have Z:=(V.aB (Um.obj B) d (Jl.none G')).imp (Is':=Um (B.put x.id w2.heap.size vb pf pt)) (fun y hy G2 au=>by
  have af:y.id≠x.id:=fun e=>by have hn:=((h.perm.map Qx.id).nodup_iff).2 J;rw[List.map_append,List.nodup_append]at hn;exact hn.2.2 _ (Z3.2 ⟨y,hy,rfl⟩) _ (Z3.2 ⟨x,hx,rfl⟩) e
  refine⟨?_,?_⟩;·show B.ad y.id=(if y.id=x.id then w2.heap.size else B.ad y.id);rw[if_neg af]
  ·rw[Qgu af];exact au.2)
 obtain⟨K,ar,ap,c8⟩:=X6 (P:=prog) Z.map underlying136 underlying3 x.id (.pointer (some ⟨w2.heap.size,0,none⟩));have aq:Hn Qx.id x.id U=none:=by
  cases ha:Hn Qx.id x.id U with
  |none=>rfl
  |some y=> obtain⟨hy,av⟩:=Y3 ha;have hn:=((h.perm.map Qx.id).nodup_iff).2 J;rw[List.map_append,List.nodup_append]at hn;exact(hn.2.2 _ (Z3.2 ⟨y,hy,rfl⟩) _ (Z3.2 ⟨x,hx,rfl⟩) av).elim
 have am:=Z.put (Um.obj _) hX (fun k a b2=>by
  have h1:=((Qr k).1 a).1;have:=V.bd k b2;omega) aq ap c8
 have E:Qc (fun k=>k=m') w2 K:=(d.none).aA c8;have z:Kj K A.m r (Xy Qx.id A.ad l) (Vu x.id (Xy Qx.id A.ad lm)):=u.aB E (by omega) (by omega);have ag:=O8 (key:=Qx.id) ae hx;refine⟨d.blk c (fun h=>h),K,ar,⟨?_,List.filter_sublist.trans h.sub,?_,?_,E.blk c (by omega),⟨B.put x.id w2.heap.size vb pf pt,_,ak,am,?_⟩,h.nb⟩,?_⟩;·rw[←Hr];exact z
 ·refine List.Perm.trans ?_ h.perm;rw[List.append_assoc];exact List.Perm.append_left U ag.symm
 ·exact(h.chg.trans q (fun k e=>.inr (by rw[e];omega))).trans E (fun k e=>.inr (by rw[e];omega))
 ·intro k I;rcases I with I|I;·exact aa k I
  ·rcases(Qr k).1 I with⟨h1,_⟩;omega
 ·rw[z.left_eq,h.it.left_eq,Hr];have:=ag.length_eq;simp only[Xy,List.length_map,Zm]at*;omega
end
end
section
attribute [local go_sem] Qp Wj
attribute [local irreducible] Kl J9
section
variable{A:Dz}{w:World}{F:Fp}{b:Nat}{p:Qe}{N:Nat}{dep:Int→Nat}
theorem Qli(h:Qo A w F b p)(ao:Qs dep N p)(hN:N<549755813888):
  Cl 38 #[ptr b] w fun e w'=>∃b',e=.returned (ptr b')∧Yr w' (Qn Qb w w') b' p∧Qc Qb w w':=by
 have HH:=O h;have a6:=(Qo.obj A).bd h;obtain⟨l,hp,hB,G,hC⟩:=h.coll;have HP:=O hp;have a3:=O hC.nodup;have a9:A.m<w.heap.size:=a6 _ h.mlt;have a0:=Jf hB;obtain⟨s,hs⟩:=Zx (w.heap.size);obtain⟨W,hW⟩:=Zx ((w.alloc (.map #[] 0)).alloc (.cells #[.map (some w.heap.size)] 138));have be:=@run_makeMap prog;have C0:Qc Qb w W:=by rw[hW];exact((Zg _ _).alloc _).alloc _
 have hm:Xq W s []:=by rw[hW,hs];exact(Xq.new w).aB ((Zg Qb _).alloc _) (fun h=>h)
 have al:Qh W (s+1) #[.map (some s)] 138:=by rw[hW,hs];exact Qh.new' _ _ (by simp)
 have E:W.heap.size=s+1+1:=by rw[hW,hs];simp
 obtain⟨o,ar,ac⟩:=Er (P:=prog) (hC.map.aB C0 (fun h=>h)) underlying136;have u:Hi (∃lm dn,Qf9 A w l (s+1) s (s+1+1) (W.alloc o) lm dn):=O (by
  have R:Qc Qb W (W.alloc o):=(Zg _ _).alloc _;rw[E]at ac;refine⟨l,[],ac,List.Sublist.refl _,by simp,C0.aA R,R.blk al (fun h=>h),⟨⟨s,fun _=>0,fun _=>.pointer none,fun _=>0,fun _=>0⟩,fun k=>k=s,rfl,Yn.new (hm.aB R (fun h=>h)) (fun k e=>by rw[e];exact(hm.aB R (fun h=>h)).lt) rfl,?_⟩,?_⟩;·intro k e;omega
  ·omega)
 have q1:=Jf (((Zg Qb w).alloc (.map #[] 0)).blk hB (fun h=>h));have e0:=Jf (C0.blk hB (fun h=>h));rw[E]at ar;rw[hW]at e0 u ar;subst hs;have a4:=O ao.ok;unfold ptr at*;clear h hB hC hp hm al C0 ac ao E hW;go_enter func38,ntmps38;go_wp2_with fail;go_loopw [4,5,6] (fun _ _ _ wr=>∃lm dn,Qf9 A w l (w.heap.size+1) w.heap.size (w.heap.size+1+1) wr lm dn) (fun _ _ _ wr=>Dq wr (w.heap.size+1+1));case atStart=>exact u.o
 case round=>
  obtain⟨lm,dn,d⟩:=hrel;have e1:=Jf d.blk;rcases Rx (P:=prog) d.it 0 with⟨h0,hr⟩|⟨y,hy,w2,hr,V,ab,am⟩
  ·have a8:lm=[]:=by
    cases lm with
    |nil=>rfl
    |cons a l=>cases h0
   subst a8;have aw:Hi (Yr wr (Qn Qb w wr) (w.heap.size+1) p∧Qc Qb w wr):=O (by
    obtain⟨A',G',ah,ai,aj⟩:=d.co;have ba:dn.Perm l:=by simpa using d.perm
    refine⟨⟨A',dn,ba.trans HP.o,?_⟩,d.chg⟩;have U:Yn Qx.id (Um A') wr G' A'.m A'.ad dn:=by rw[ah];exact ai
    refine Q7 (G:=fun k=>k=w.heap.size+1) (H:=G') ⟨by rw[ah];exact d.blk,rfl,fun k e=>e▸d.blk.lt⟩ (Y6 U U.bd) ?_ ?_ ?_ (fun k hk=>hk.elim (fun h=>h.elim) (fun h=>h.2));·rintro k rfl hk;exact(aj _ hk).2.2 rfl
    ·rintro k rfl;exact .inr ⟨by omega,d.blk.lt⟩
    ·intro k hk;exact .inr ⟨(aj k hk).1,ai.bd k hk⟩)
   clear d;go_wp2_with fail;go_ret;exact⟨_,rfl,aw.o⟩
  ·obtain⟨x,hx,rfl⟩:=Z3.1 hy;have bc:=d.sub.subset hx;have av:=HP.o.mem_iff.1 bc;have c2:Qc Qb w w2:=d.chg.trans ab (fun k e=>.inr (by rw[e];omega));have h2:=(Qo.obj A).aB HH.o c2 (Jl.none F);have B:p.at x.id=some x:=Qe.at_of h2.nodup av;have hM:=h2.cell B;obtain⟨K,z⟩:=Zx (w2.alloc (.cells (Pn x (A.vl x.id) (A.pf x.id) (A.pt x.id)) 143));have c3:Qc Qb w2 K:=by rw[z];exact(Zg _ _).alloc _
   have h3:=(Qo.obj A).aB h2 c3 (Jl.none F);have af:=a4.o x av;obtain⟨Gl,hl⟩:=h3.lim B;obtain⟨pv,aq⟩:∃pv,A.vl x.id=.pointer pv:=by
    rcases hl with⟨e,_,_⟩|⟨q,e,_⟩;·exact⟨_,e⟩
    ·exact⟨_,e⟩
   obtain⟨Gf,hf⟩:=h3.fam B;obtain⟨Gt,ht⟩:=h3.tre B;have ag:=O (Qhr ((Do.good _ _).aB hl (Zg Qb K).drew (Jl.none _)) (fun r hr=>Nat.lt_of_le_of_lt (af.lim r hr) hN));have ax:=O (fun w'(R:Qc Qb K w')=>Qmt (J0.obj.aB hf R (Jl.none _)) (fun y hy=>by have:=(af.mem y hy).2.1;omega));have ay:=O (fun w'(R:Qc Qb K w')=>Ao (Jg.obj.aB ht R (Jl.none _)));have aa:=O (h3.cell B);have a7:A.ad x.id<w2.heap.size:=hM.lt;have bd:Hi (A.ad x.id≠w2.heap.size):=O (by omega);obtain⟨d0,d1,d2,d3,d4,d5,d6,d7⟩:=Ja hM;have ak:Qh K w2.heap.size (Pn x (A.vl x.id) (A.pf x.id) (A.pt x.id)) 143:=by rw[z];exact Qh.new _ _ _
   have a2:=O ak;have J:=O (fun w4 w5 w6 w7 vb pf pt c4 c5 c6 hl hf ht bb=>d.step a3.o hx V ab z (w4:=w4) (w5:=w5) (w6:=w6) (w7:=w7) (vb:=vb) (pf:=pf) (pt:=pt) c4 c5 c6 hl hf ht bb a9);obtain⟨u0,u1,u2,u3,u4,u5,u6,u7⟩:=Ja aa.o;have c:=z;unfold Pn at c;rw[aq]at c;rw[aq]at ag d4 u4;dsimp only at hr am;unfold ptr at*;clear d V ab c2 c3 hM ak h2 h3 af hl hf ht hy;go_wp2_with fail;rw[←c];clear hr am z c;obtain⟨v0,v1,v2,v3,v4,v5,v6,v7⟩:=Ja ((Zg Qb K).drew.blk aa.o (fun h=>h));refine Jp [(0,0),(0,1),(0,2),(0,3),(1,5),(1,6),(1,7),(1,8),(1,10),(1,11),(1,12),(1,13),(2,4),(2,9),(3,14),(0,15),(3,16),(0,17),(3,18),(0,19),(3,20)] (fun wv=>Qc (Qb) (K) wv) Zq (by kernel_rfl) (fun _ _ _ _ _ h=>h) (Zj (Zg _ _)) ?_;simp only[Jk,Zf,Ze,Zd];iterate 4 (refine Xe (by kernel_rfl) (by go_simp;try rfl) ?_)
   clear v0 v1 v2 v3 v4 v5 v6 v7;iterate 8 (refine Qy (by kernel_rfl) (fun wv hv=>by(have zz:=hv.blk aa.o (fun h=>h);obtain⟨y0,y1,y2,y3,y4,y5,y6,y7⟩:=Ja zz);go_simp;try rfl) ?_;try simp only[Act.put,Za,Zc,Zb])
   refine Yb ?_;go_wp2_with fail;refine Zo ag ?_;rintro e w4⟨vb,rfl,ae,c4⟩;obtain⟨pb,rfl⟩:∃pb,vb=.pointer pb:=by
    rcases ae with⟨e,_,_⟩|⟨q,e,_⟩;·exact⟨_,e⟩
    ·exact⟨_,e⟩
   have C4:=O c4.undrew;have a1:=O (show Do (.pointer pb) x.limit w4 (Qn Qb K w4)from ae);clear ae c4;go_wp2_with fail;refine⟨C4.o,?_⟩;refine Yb ?_;go_wp2_with fail;refine(ax.o _ C4.o).mono ?_;rintro e w5⟨pf,rfl,an,c5⟩;have C5:=O c5;have Z:=O (C4.o.aA c5);have az:=O an;clear an c5;go_wp2_with fail;refine⟨Z.o,?_⟩;refine Km ?_;go_wp2_with fail;refine(ay.o _ Z.o).mono ?_;rintro e w6⟨pt,rfl,au,c6⟩;obtain⟨tb,w8,bf,ap,Xg⟩:=J.o w4 w5 w6 _ (.pointer pb) pf pt C4.o C5.o c6 a1.o az.o au rfl;have a5:=O ap;have LT:=O Xg;have I:=c6.blk (Z.o.blk a2.o (fun h=>h)) (fun h=>h);have z4:=I.frozen 4;obtain⟨_,_,_,_,k4,k5,k6,_⟩:=Ja I;have b7:=I.set' 4 (.pointer pb) rfl;have z5:=b7.frozen 5;have bg:=(Ja b7).2.2.2.2.2.1;have b8:=b7.set' 5 (ptr pf) rfl;have z6:=b8.frozen 6;have bh:=(Ja b8).2.2.2.2.2.2.1;have t0:=Jf tb;unfold ptr at*;clear ap Xg J au c6 b7 b8 I tb;go_wp2_with fail;iterate 1 (first|(refine Xe (by kernel_rfl) (by go_simp;try rfl) ?_)|(refine Qy (by kernel_rfl) (fun wv hv=>by go_simp;try rfl) ?_);try simp only[Act.put,Za,Zc,Zb])
   refine Km ?_;go_wp2_with fail;iterate 1 (first|(refine Xe (by kernel_rfl) (by go_simp;try rfl) ?_)|(refine Qy (by kernel_rfl) (fun wv hv=>by go_simp;try rfl) ?_);try simp only[Act.put,Za,Zc,Zb])
   refine Km ?_;go_wp2_with fail;iterate 1 (first|(refine Xe (by kernel_rfl) (by go_simp;try rfl) ?_)|(refine Qy (by kernel_rfl) (fun wv hv=>by go_simp;try rfl) ?_);try simp only[Act.put,Za,Zc,Zb])
   refine Km ?_;go_wp2_with fail;refine Ky ?_;go_wp2;exact⟨⟨_,_,a5.o⟩,LT.o⟩
end
end
inductive PT where
 |nil
 |look(k:Nat)(r:PT)
 |lookp(k:Nat)(r:PT)
 |walk(k:Nat)(r:PT)
 |fork(i:Nat)(x:PT)(j:Nat)(y:PT)
inductive PO where
 |nil
 |look(o:Oper)(r:PO)
 |lookp(o:Oper)(r:PO)
 |walk(o:Oper)(r:PO)
 |fork(o:Oper)(x:PO)(p:Oper)(y:PO)
section
variable{P:Program}{ops:Array Oper}{Q:Exit→Act→World→Prop}{D:World→Prop}
def O0(ops:Array Oper):PT→PO
 | .nil=>.nil
 | .look k r=>match ops[k]? with|some o=>.look o (O0 ops r)|none=>.nil
 | .lookp k r=>match ops[k]? with|some o=>.lookp o (O0 ops r)|none=>.nil
 | .walk k r=>match ops[k]? with|some o=>.walk o (O0 ops r)|none=>.nil
 | .fork i x j y=>match ops[i]? with|some o=>(match ops[j]? with|some p=>.fork o (O0 ops x) p (O0 ops y)|none=>.nil)|none=>.nil
def Qdg:PT→List Nat
 | .nil=>[]
 | .look _ r=>Qdg r
 | .lookp _ r=>Qdg r
 | .walk k r=>k::Qdg r
 | .fork i x j y=>i::j::(Qdg x++Qdg y)
def Xo(P:Program)(ops:Array Oper)(Q:Exit→Act→World→Prop)(D:World→Prop):PO→Act→World→Prop
 | .nil,a,w=>Q .normal a w
 | .look o r,a,w=>if Region.wanted o (yielded ops a.tmps)then∃v,(execOp a.eval o).run P w=.ok (.value v) w∧Xo P ops Q D r (a.put o.dst v) w else Xo P ops Q D r (a.put o.dst undef) w
 | .lookp o r,a,w=>if Region.wanted o (yielded ops a.tmps)then∃v,(∀w',D w'→(execOp a.eval o).run P w'=.ok (.value v) w')∧Xo P ops Q D r (a.put o.dst v) w else Xo P ops Q D r (a.put o.dst undef) w
 | .walk o r,a,w=>wpList P ops (Exit.then (fun c w'=>D w'∧Xo P ops Q D r c w') Q) [o] a w
 | .fork o x p y,a,w=>wpList P ops (Exit.then (fun c w'=>D w'∧Xo P ops Q D x c w') Q) [o] a w∧wpList P ops (Exit.then (fun c w'=>D w'∧Xo P ops Q D y c w') Q) [p] a w
def xfB(ops:Array Oper)(late:List Nat):PT→Nat→Array Bool→Bool
 | .nil,0,listed=>(Region.ready .any ops listed).isEmpty
 | .look k r,n+1,listed=>Qdn ops late k listed&&(late.all fun j=>listed.getD j true||Xs ops ops.size j k)&&xfB ops late r n (listed.setIfInBounds k true)
 | .lookp k r,n+1,listed=>Qdn ops late k listed&&xfB ops late r n (listed.setIfInBounds k true)
 | .walk k r,n+1,listed=>decide (Region.ready .any ops listed=[k])&&late.contains k&&xfB ops late r n (listed.setIfInBounds k true)
 | .fork i x j y,n+1,listed=>decide (Region.ready .any ops listed=[i,j])&&late.contains i&&late.contains j&&xfB ops late x n (listed.setIfInBounds i true)&&xfB ops late y n (listed.setIfInBounds j true)
 |_,_,_=>false
theorem Fk{late:List Nat}(u:Region.noSelect ops=true)(K:∀c(a:Act)(d:Tmp)v w,Q (.panic c) (a.put (some d) v) w→Q (.panic c) a w):
  ∀(r:PT)(n:Nat)(q:Array Bool)(a:Act)(w),Xj ops q→D w→xfB ops late r n q=true→Xo P ops Q D (O0 ops r) a w→
   Fi P ops Q D (fun j=>late.contains j) (fun _=>false) n q a w
 | .nil,0,q,a,w,hcl,hC,hB,h=>⟨by simpa[xfB]using hB,h⟩
 | .look k r,n+1,q,a,w,hcl,hC,hB,h=>by
  simp only[xfB,Zw]at hB;obtain⟨⟨R,ah⟩,B⟩:=hB;obtain⟨z,hf,hl,o,d,h0,hd⟩:=E7 R;simp only[O0,h0]at h;simp only[Xo]at h;have U:∃v,YieldsIf P ops (fun w'=>w'=w) o v a∧Xo P ops Q D (O0 ops r) (a.put o.dst v) w:=by
   by_cases J:Region.wanted o (yielded ops a.tmps)=true;·simp only[J,if_true]at h;obtain⟨v,h1,I⟩:=h;exact⟨v,.inl ⟨J,fun w' e=>by rw[e];exact h1⟩,I⟩
   ·simp only[J]at h;exact⟨undef,.inr ⟨by simpa using J,rfl⟩,h⟩
  obtain⟨v,U,hK⟩:=U;exact Gm (F:=ops.size) h0 hl (Region.noSelect_spec u) (fun c E w' V=>by rw[hd]at V;exact K c E d _ w' V) _ q a w hcl
   (.inr fun j oj hj hl hu=>by
    have:=List.all_eq_true.1 ah j (by simpa using hl);rw[hu]at this;simpa using this) (Region.free_spec h0 hf) z U rfl
   (Fk u K r n _ _ w (hcl.set z) hC B hK)
 | .lookp k r,n+1,q,a,w,hcl,hC,hB,h=>by
  simp only[xfB,Zw]at hB;obtain⟨R,B⟩:=hB;obtain⟨z,hf,hl,o,d,h0,hd⟩:=E7 R;simp only[O0,h0]at h;simp only[Xo]at h;have U:∃v,YieldsIf P ops D o v a∧Xo P ops Q D (O0 ops r) (a.put o.dst v) w:=by
   by_cases J:Region.wanted o (yielded ops a.tmps)=true;·simp only[J,if_true]at h;obtain⟨v,h1,I⟩:=h;exact⟨v,.inl ⟨J,h1⟩,I⟩
   ·simp only[J]at h;exact⟨undef,.inr ⟨by simpa using J,rfl⟩,h⟩
  obtain⟨v,U,hK⟩:=U;exact Gm (F:=ops.size) h0 hl (Region.noSelect_spec u) (fun c E w' V=>by rw[hd]at V;exact K c E d _ w' V) _ q a w hcl
   (.inl ⟨fun _ h=>h,fun j oj hj hl hu=>by cases hl⟩) (Region.free_spec h0 hf) z U hC
   (Fk u K r n _ _ w (hcl.set z) hC B hK)
 | .walk k r,n+1,q,a,w,hcl,hC,hB,h=>by
  simp only[xfB,Zw,decide_eq_true_eq]at hB;obtain⟨⟨h1,hl⟩,B⟩:=hB;have z:k∈Region.ready .any ops q:=by rw[h1];simp
  obtain⟨_,o,h0,_⟩:=mem_ready.1 z;simp only[O0,h0]at h;simp only[Xo]at h;refine⟨fun I=>(by rw[h1]at I;cases I),fun i hi=>?_⟩;rw[h1]at hi;have ae:i=k:=by simpa using hi
  subst ae;refine wpOp_mono (fun E w' h'=>⟨⟨fun h=>absurd (show late.contains i=false from h) (by rw[hl];decide),fun _ _=>h'.1⟩,?_⟩) (Ko h0 h);exact Fk u K r n _ E w' (hcl.set z) h'.1 B h'.2
 | .fork i x j y,n+1,q,a,w,hcl,hC,hB,h=>by
  simp only[xfB,Zw,decide_eq_true_eq]at hB;obtain⟨⟨⟨⟨h1,af⟩,ag⟩,ab⟩,ac⟩:=hB;have Z:i∈Region.ready .any ops q:=by rw[h1];simp
  have aa:j∈Region.ready .any ops q:=by rw[h1];simp
  obtain⟨_,o,h0,_⟩:=mem_ready.1 Z;obtain⟨_,p,p0,_⟩:=mem_ready.1 aa;simp only[O0,h0,p0]at h;simp only[Xo]at h;refine⟨fun I=>(by rw[h1]at I;cases I),fun k hk=>?_⟩;rw[h1]at hk;rcases(show k=i∨k=j by simpa using hk)with rfl|rfl;·refine wpOp_mono (fun E w' h'=>⟨⟨fun h=>absurd (show late.contains k=false from h) (by rw[af];decide),fun _ _=>h'.1⟩,?_⟩) (Ko h0 h.1);exact Fk u K x n _ E w' (hcl.set Z) h'.1 ab h'.2
  ·refine wpOp_mono (fun E w' h'=>⟨⟨fun h=>absurd (show late.contains k=false from h) (by rw[ag];decide),fun _ _=>h'.1⟩,?_⟩) (Ko p0 h.2);exact Fk u K y n _ E w' (hcl.set aa) h'.1 ac h'.2
 | .nil,n+1,q,a,w,hcl,hC,hB,h=>by simp[xfB]at hB
 | .look _ _,0,q,a,w,hcl,hC,hB,h=>by simp[xfB]at hB
 | .lookp _ _,0,q,a,w,hcl,hC,hB,h=>by simp[xfB]at hB
 | .walk _ _,0,q,a,w,hcl,hC,hB,h=>by simp[xfB]at hB
 | .fork _ _ _ _,0,q,a,w,hcl,hC,hB,h=>by simp[xfB]at hB
theorem Ui{id:Nat}{a:Act}{w}{l:List Oper}(k:PT)(D:World→Prop)(I:P.follows .mixedOrders=true)
  (u:(Region.noSelect l.toArray&&xfB l.toArray (Qdg k) k l.toArray.size (Array.replicate l.toArray.size false))=true)
  (E:∀c(a:Act)(d:Tmp)v w,Q (.panic c) (a.put (some d) v) w→Q (.panic c) a w) (B:D w.drew) (h:Xo P l.toArray Q D (O0 l.toArray k) a w.drew):
  (Code.region id l.toArray true).wp P Q a w:=by
 simp only[Zw]at u;obtain⟨q,u⟩:=u;refine wp_region_any I ?_;have z:Xj l.toArray (Array.replicate l.toArray.size false):=fun j J _ hl=>by rw[getD_replicate_false]at hl;cases hl
 exact Mu _ _ _ _ (Fk (P:=P) (D:=D) q E k _ _ a _ z B u h)
variable{r x y:PO}{a:Act}{o p:Oper}{w:World}
theorem U9(h:Q .normal a w):Xo P ops Q D .nil a w:=h
theorem Vd{v:Value}(d:Region.wanted o (yielded ops a.tmps)=true)(c:(execOp a.eval o).run P w=.ok (.value v) w)(h:Xo P ops Q D r (a.put o.dst v) w):Xo P ops Q D (.look o r) a w:=by simp only[Xo,d,if_true];exact⟨v,c,h⟩
theorem Xi{v:Value}(d:Region.wanted o (yielded ops a.tmps)=true)(c:∀w',D w'→(execOp a.eval o).run P w'=.ok (.value v) w')(h:Xo P ops Q D r (a.put o.dst v) w):Xo P ops Q D (.lookp o r) a w:=by simp only[Xo,d,if_true];exact⟨v,c,h⟩
theorem Xt(h:wpList P ops (Exit.then (fun c w'=>D w'∧Xo P ops Q D r c w') Q) [o] a w):Xo P ops Q D (.walk o r) a w:=h
theorem Gn(h1:wpList P ops (Exit.then (fun c w'=>D w'∧Xo P ops Q D x c w') Q) [o] a w)(d:wpList P ops (Exit.then (fun c w'=>D w'∧Xo P ops Q D y c w') Q) [p] a w):Xo P ops Q D (.fork o x p y) a w:=⟨h1,d⟩
end
end Go.Proofs.YtnnhmpehkbihnaaGreat
