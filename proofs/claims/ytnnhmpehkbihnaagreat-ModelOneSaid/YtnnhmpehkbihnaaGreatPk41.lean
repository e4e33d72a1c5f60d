/- A part of the proof: no condition. -/
import Derived.Test.YtnnhmpehkbihnaaGreatPk40
namespace Go.Proofs.YtnnhmpehkbihnaaGreat
set_option linter.unusedVariables false
set_option maxRecDepth 100000
set_option maxHeartbeats 4000000
open Go.RowKit
open Go.Proofs.Tryz
section
attribute [local go_sem] Qp
attribute [local irreducible] Kl J9 Xo
def Tb.put(A:Tb)(i:Int)(q:Nat):Tb:={A with ad:=fun j=>if j=i then q else A.ad j}
section
variable{A:Tb}{w w1 w2:World}{F:Fp}{b:Nat}{s:Qf}{N:Nat}
theorem Qi.newLeaf(h:Qi A w F b s){l:Qw}{q:Nat}(hn:s.leaf l.id=none)(c:Qc Qb w w1)(hl:Yj w1 (Qn Qb w w1) q l):
  ∃w2,(Instr.mapUpdate 75 (.map (some A.m)) (.int .i64 l.id) (ptr q)).run prog w1=.ok () w2∧Qi (A.put l.id q) w2 (Qn F w w2) b {s with aI:=s.aI++[l]}∧Qc F w w2:=by
 have R:=(Qi.obj A).bd h;obtain⟨L,Z,hs⟩:=h;obtain⟨G,z,V,_,B⟩:=Xv 2 (Ua A b L s) rfl hs;obtain⟨w2,E,U,d⟩:=X6 (P:=prog) (z.map.aB c (fun h=>h)) underlying75 underlying3 l.id (ptr q);have J:=z.aB Yj.obj c (Jl.none G);have K:=J.put Yj.obj hl (fun k a b'=>by
  have h1:=((Qr k).1 a).1;have:=R k (V k b');omega) (by rw[←So Z z.nodup];exact hn) U d
 have I:Qc G w w2:=(c.none (F:=G)).aA (d.sub fun k u=>u▸z.at_);have h5:=B w2 (fun w G=>Yn Qw.id Yj w G A.m (A.put l.id q).ad (L++[l])) I
  (K.more (fun k u=>u.elim .inl (fun u=>.inr ⟨((Qr k).1 u).1,Nat.lt_of_lt_of_le ((Qr k).1 u).2 d.size⟩)) (z.bd.ext I))
 exact⟨w2,E,⟨L++[l],Z.append_right _,h5⟩,I.sub V⟩
theorem Yj.made{q qb r:Nat}{dv:Value}{l:Qw}{w3 w4}(E:Qc Qb w w1)(J:Jz w2 qb r l.pk l.bt l.q)(h1:w1.heap.size≤qb∧qb<w2.heap.size)(V:w1.heap.size≤r∧r<w2.heap.size)(z:Qc Qb w2 w3)(I:Kv w3 (Qn Qb w2 w3) dv l.debt)
  (u:Qc Qb w3 w4) (B:Qh w4 q #[ptr qb,dv] 85) (K:w3.heap.size≤q):Yj w4 (Qn Qb w w4) q l:=by
 have s1:=E.size;have s3:=z.size;have Z:=u.size;have U:=B.lt;have R:Jz w4 qb r l.pk l.bt l.q:=(J.aB z (fun h=>h) (fun h=>h)).aB u (fun h=>h) (fun h=>h);have d:Bd (Qn Qb w w4) w4:=fun k c=>((Qr k).1 c).2;refine⟨qb,dv,?_⟩;refine Q7 (G:=fun k=>k=q) (H:=fun k=>(k=qb∨k=r)∨Qn Qb w2 w3 k) ⟨B,rfl,fun k e=>e▸U⟩ ?_ ?_ (fun k e=>(Qr k).2 (by omega)) ?_ d
 ·refine Q7 (G:=fun k=>k=qb∨k=r) (H:=Qn Qb w2 w3) ⟨r,R,.inl rfl,.inr rfl,fun k e=>by rcases e with e|e<;>omega⟩ (Y6 ((Kv.good dv l.debt).aB I u (Jl.none _)) (fun k c=>by have:=(Qr k).1 c;omega)) ?_ (fun k c=>.inl c) (fun k c=>.inr c) ?_;·intro k e c;have:=(Qr k).1 c;rcases e with e|e<;>omega
  ·intro k c;rcases c with(e|e)|c;·omega
   ·omega
   ·have:=(Qr k).1 c;omega
 ·rintro k rfl((e|e)|c);·omega
  ·omega
  ·have:=(Qr k).1 c;omega
 ·intro k c;rcases c with(e|e)|c;·exact(Qr k).2 (by omega)
  ·exact(Qr k).2 (by omega)
  ·have:=(Qr k).1 c;exact(Qr k).2 (by omega)
end
section
variable{A:Tb}{w w1 w2:World}{F:Fp}{b:Nat}{s:Qf}{N:Nat}
theorem Kv.ptr{w}{F:Fp}{v:Value}{o:Option Ju}(h:Kv w F v o):∃c,v=.pointer c:=by
 cases o with
 |none=>exact⟨none,h.1⟩
 |some d=>obtain⟨b,rfl,_⟩:=h;exact⟨_,rfl⟩
theorem Cy(h:Qt w F b s)(ok:Xp N s)(c:Yk):
  Cl 27 #[ptr b,Fb c] w fun e w'=>e=.returned (.int .i64 (s.aO c))∧Qt w' (Qn F w w') b (s.add c)∧Qc F w w':=by
 obtain⟨A,h⟩:=h;have K:=(Qi.obj A).bd h;obtain⟨W,hW⟩:=Zx (w.alloc (.cells (Z4 c.leaf c) 40));have S0:Hi (Xx W w.heap.size c):=O (by rw[hW];exact Xx.new w c);have C0:Hi (Qc Qb w W):=O (by rw[hW];exact(Zg _ _).alloc _);have hP:=(Qi.obj A).aB h C0.o (Jl.none F);have HN:=O (Ku hP ok.most.1);have NF:=O (show¬F w.heap.size from fun hk=>by have:=K _ hk;omega);obtain⟨a0,a1,a2,a3,a4⟩:=Ym hP.drew.blk;obtain⟨g0,g1,g2,g3,g4,g5,g6,g7,g8,g9,I,J,d,k⟩:=(show Xx W.drew w.heap.size c from S0.o.aB (Zg Qb W).drew).cells;have z:Bd F W:=K.later C0.o;have R:Hi (∀w' t,Qt w' (Qn F W w') b t→Qc F W w'→Qt w' (Qn F w w') b t∧Qc F w w'):=O (fun w' t h1 h2=>by
  have cc:Qc F w w':=C0.o.none.aA h2;exact⟨Qt.obj.more h1 (Ke C0.o.size) (K.ext cc),cc⟩)
 have aw:=O (show w.heap.size<W.heap.size from Qh.lt S0.o);have HT:Hi (Cl 68 #[ptr A.tb,Fb c] W.drew fun e w'=>e=.returned (.int .i64 (s.aO c))∧Qi A w' (Qn F W w') b {s with tree:=s.tree.add c}∧Qc F W w'):=O (by
  obtain⟨G,hT,_,U⟩:=hP.drew.treeOf;refine Zz (Qor hT ok.tree c) ?_;rintro w2⟨a6,V⟩;obtain⟨m1,m2⟩:=U w2 _ a6 V;exact⟨rfl,m1,m2.undrew⟩)
 by_cases h0:s.aO c=0
 ·have Z:s.tree.aO c=0:=h0;obtain⟨q,hq,ar,a8,au,i1,_⟩:=ok.mt.add ok.tree Z;have may:=(Ub Z).1;have B:=ok.leaf_none (Ub Z).2.2.1;have ap:=(Md may).1;have ac:Hi (∀w2,Qi A w2 (Qn F W w2) b {s with tree:=s.tree.add c}→Qc F W w2→Cl 69 #[ptr A.pb,Fb c] w2.drew fun e w'=>e=.returned (.bool true)∧Qi A w' (Qn F W w') b {s with tree:=s.tree.add c,pick:=s.pick.put c}∧Qc F W w'∧Qc (Qn F W w2) w2 w'):=O (by
   intro w2 h2 V;obtain⟨G,⟨AP,a5⟩,_,U⟩:=h2.drew.pickOf;refine Zz (Qpl a5 c i1 au hq ar (by omega)) ?_;rintro w3⟨az,c3⟩;obtain⟨m1,m2⟩:=U w3 _ az c3;obtain⟨n1,n2⟩:=(Qi.obj A).two (w1:=w2) m1 z V m2.undrew;exact⟨rfl,n1,n2,m2.undrew⟩)
  have ag:=O (show c.leaf=false→s.add c={s with tree:=s.tree.add c,pick:=s.pick.put c}from fun hl=>by unfold Qf.add;rw[if_pos h0,hl];rfl);have aa:=O (show c.leaf=true→s.add c={s with tree:=s.tree.add c,pick:=s.pick.put c,aI:=s.aI++[⟨c.id,c.pk.toNat,c.bt.toNat,[],Xl c.real⟩]}from fun hl=>by unfold Qf.add;rw[if_pos h0,hl];rfl);have ab:=O (show c.leaf=true→∃pk bt:Nat,c.pk=(pk:Int)∧c.bt=(bt:Int)∧1≤pk∧pk≤4096∧1≤bt∧bt≤16777216 from fun hl=>by
   obtain⟨k1,k2,k3,k4⟩:=Qam may hl;exact⟨c.pk.toNat,c.bt.toNat,by omega,by omega,by omega,by omega,by omega,by omega⟩)
  have ae:Hi (∀w3 w4 w5 pk bt pv,Qi A w3 (Qn F W w3) b {s with tree:=s.tree.add c,pick:=s.pick.put c}→Qc F W w3→Jz w4 (w3.heap.size+1) w3.heap.size pk bt []→Qc Qb w3 w4→Kv w5 (Qn Qb w4 w5) (.pointer pv) (Xl c.real)→Qc Qb w4 w5→w3.heap.size+1<w4.heap.size→
    ∃w6,(Instr.mapUpdate 75 (.map (some A.m)) (.int .i64 c.id) (.pointer (some ⟨w5.heap.size,0,none⟩))).run prog (w5.alloc (.cells #[ptr (w3.heap.size+1),.pointer pv] 85))=.ok () w6∧
     Qt w6 (Qn F W w6) b {s with tree:=s.tree.add c,pick:=s.pick.put c,aI:=s.aI++[⟨c.id,pk,bt,[],Xl c.real⟩]}∧Qc F W w6):=O (by
   intro w3 w4 w5 pk bt pv h3 c3 hQ ax hD al Xg;have am:Qc Qb w5 (w5.alloc (.cells #[ptr (w3.heap.size+1),.pointer pv] 85)):=(Zg _ _).alloc _;have ay:Qh (w5.alloc (.cells #[ptr (w3.heap.size+1),.pointer pv] 85)) w5.heap.size #[ptr (w3.heap.size+1),.pointer pv] 85:=Qh.new _ _ _;generalize w5.alloc (.cells #[ptr (w3.heap.size+1),.pointer pv] 85)=be at*;have hL:=Yj.made (w:=w3) (w1:=w3) (l:=⟨c.id,pk,bt,[],Xl c.real⟩) (Zg _ _) hQ ⟨by omega,Xg⟩ ⟨by omega,by omega⟩ al hD am ay (Zv _);obtain⟨w6,r6,h6,c6⟩:=h3.newLeaf (l:=⟨c.id,pk,bt,[],Xl c.real⟩) B ((ax.aA al).aA am) hL;obtain⟨n1,n2⟩:=(Qi.obj _).two h6 z c3 c6;exact⟨w6,r6,⟨_,n1⟩,n2⟩)
  have av:=O (fun w=>Qgx c.real ap w);rw[h0]at HT;have bd:=O K;have E0:=O h0;rw[h0];unfold Fb ptr cV at*;clear h ok hP Z hq ar a8 au i1 may B ap K z h0;go_enter func27,ntmps27;go_wp2_with fail;rw[←hW];clear hW;refine Zy HN ?_;rintro w1 rfl;go_wp2_with fail;refine Qj [(0,0),(0,1),(0,2),(0,3),(0,4),(2,5),(2,6)] Zq (by kernel_rfl) (fun _ _ _ _ _ h=>h) ?_;simp only[Jk,Zf,Ze,Zd];iterate 5 (refine Jq (by kernel_rfl) (by go_simp;try rfl) ?_)
  clear a0 a1 a2 a3 a4 g0 g1 g2 g3 g4 g5 g6 g7 g8 g9 I J d k;refine J7 ?_;go_wp2_with fail;refine Zy HT ?_;rintro w2⟨h2,V⟩;have H2:=O h2;have C2:=O V;have S2:=O (show Xx w2 w.heap.size c from V.blk S0.o NF.o);clear h2 V;go_wp2_with fail;refine J7 ?_;go_wp2_with fail;refine Jo ?_;go_wp2_with fail;obtain⟨a0,a1,a2,a3,a4⟩:=Ym H2.o.drew.blk;obtain⟨g0,g1,g2,g3,g4,g5,g6,g7,g8,g9,I,J,d,k⟩:=(show Xx w2.drew w.heap.size c from S2.o.aB (Zg Qb w2).drew).cells;unfold ptr at*;refine Qj [(0,0),(0,1),(0,2),(0,3),(0,4),(2,5)] Zq (by kernel_rfl) (fun _ _ _ _ _ h=>h) ?_;simp only[Jk,Zf,Ze,Zd];iterate 5 (refine Jq (by kernel_rfl) (by go_simp;try rfl) ?_)
  clear a0 a1 a2 a3 a4 g0 g1 g2 g3 g4 g5 g6 g7 g8 g9 I J d k;refine J7 ?_;go_wp2_with fail;refine Zz (ac.o w2 H2.o C2.o) ?_;rintro w3⟨h3,c3,ak⟩;have H3:=O h3;have C3:=O c3;have S3:=O (show Xx w3 w.heap.size c from ak.blk S2.o (fun hk=>hk.elim NF.o (fun hk=>by
   have h1:=aw.o;omega)))
  clear h3 c3 ak;go_wp2_with fail;refine Jo ?_;have l2:=(show Xx w3 w.heap.size c from S3.o).cells.2.2.1;cases u:c.leaf with
  |false=> have E:=O (show Qt w3 (Qn F w w3) b (s.add c)∧Qc F w w3 from R.o w3 _ (by rw[ag.o u];exact⟨A,H3.o⟩) C3.o);rw[u]at l2;clear u ac ae;go_wp2_with fail;go_ret;exact⟨rfl,E.o⟩
  |true=>
   obtain⟨pk,bt,aq,ao,p1,p2,p3,p4⟩:=ab.o u;have EQ:=O (aa.o u);have HQ:=O (fun w=>Qt7 pk bt w p1 p2 p3 p4);rw[u]at l2;have aj:=O (show c.pk.toNat=pk∧c.bt.toNat=bt from⟨by omega,by omega⟩);have ah:=O (Zt aq ao);clear u ac p1 p2 p3 p4 ab ag aa aq ao;go_wp2_with fail;clear l2;obtain⟨a0,a1,a2,a3,a4⟩:=Ym H3.o.drew.blk;obtain⟨g0,g1,g2,g3,g4,g5,g6,g7,g8,g9,I,J,d,k⟩:=(show Xx w3.drew w.heap.size c from S3.o.aB (Zg Qb w3).drew).cells;rw[ah.o.1]at d;rw[ah.o.2]at k;unfold ptr at*;refine Jp [(1,0),(1,1),(1,2),(1,3),(1,4),(1,5),(0,6),(0,7),(0,8),(0,9),(1,11),(1,12),(2,10),(2,13),(0,14),(2,15),(3,16)] (fun wv=>Qc (Qb) (w3) wv) Zq (by kernel_rfl) (fun _ _ _ _ _ h=>h) (by(repeat' (first|(with_reducible first|exact Zg _ _|assumption|refine Zh ?_ _|refine Zi ?_ _|refine Zj ?_|refine Zk ?_ _ ?_|(apply Or.inl;rfl))|(apply Or.inl;simp;done)|(apply Or.inr;simp;first|done|omega)))) ?_;simp only[Jk,Zf,Ze,Zd];iterate 3 (refine Qy (by kernel_rfl) (fun wv hv=>by go_simp;try rfl) ?_;try simp only[Act.put,Za,Zc,Zb])
   iterate 1 (refine Qy (by kernel_rfl) (fun wv hv=>by(obtain⟨z0,z1,z2,z3,z4⟩:=Ym (hv.blk H3.o.blk (fun h=>h)));go_simp;try rfl) ?_;try simp only[Act.put,Za,Zc,Zb])
   (refine Qy (by kernel_rfl) (fun wv hv=>by go_simp;try rfl) ?_;try simp only[Act.put,Za,Zc,Zb]);iterate 1 (refine Qy (by kernel_rfl) (fun wv hv=>by(obtain⟨z0,z1,z2,z3,z4,z5,z6,z7,z8,z9,a9,ba,bb,bc⟩:=(show Xx wv w.heap.size c from hv.blk S3.o (fun h=>h)).cells);go_simp;try rfl) ?_;try simp only[Act.put,Za,Zc,Zb])
   iterate 4 (refine Xe (by kernel_rfl) (by go_simp;try rfl) ?_)
   (refine Qy (by kernel_rfl) (fun wv hv=>by go_simp;try rfl) ?_;try simp only[Act.put,Za,Zc,Zb]);iterate 1 (refine Qy (by kernel_rfl) (fun wv hv=>by(obtain⟨z0,z1,z2,z3,z4,z5,z6,z7,z8,z9,a9,ba,bb,bc⟩:=(show Xx wv w.heap.size c from hv.blk S3.o (fun h=>h)).cells);go_simp;try rfl) ?_;try simp only[Act.put,Za,Zc,Zb])
   clear a0 a1 a2 a3 a4 g0 g1 g2 g3 g4 g5 g6 g7 g8 g9 I J d k;refine Yb ?_;go_wp2_with fail;refine Zz (HQ.o _) ?_;rintro w4⟨an,c4⟩;have C4:=O c4.undrew;have ai:=O (show Jz w4 (w3.heap.size+1) w3.heap.size pk bt []from an);clear an c4;go_wp2_with fail;refine⟨C4.o,?_⟩;refine Yb ?_;go_wp2_with fail;refine(av.o _).mono ?_;rintro e w5⟨dv,rfl,af,c5⟩;obtain⟨pv,rfl⟩:=af.ptr;have C5:=O (C4.o.aA c5);obtain⟨w6,r6,h6,c6⟩:=ae.o w3 w4 w5 pk bt pv H3.o C3.o ai.o C4.o af c5 ai.o.lt.1;have E:=O (R.o w6 _ h6 c6);clear af c5 h6 c6 ae;go_wp2_with fail;refine⟨C5.o,?_⟩;refine Xe (by kernel_rfl) (by go_simp;try rfl) ?_;refine Yb ?_;go_wp2_with fail;refine⟨C5.o.alloc _,?_⟩;refine Km ?_;go_wp2_with fail;refine Ky ?_;clear r6;go_wp2;go_ret;refine⟨rfl,?_,E.o.2⟩;rw[EQ.o,aj.o.1,aj.o.2];exact E.o.1
 ·have e1:s.tree.add c=s.tree:=Qgd h0;have e2:s.add c=s:=Qem h0;have hd:decide (s.aO c=0)=false:=by simpa using h0
  have a7:(s.aO c==0)=false:=by simpa using h0
  rw[e2];rw[e1]at HT;generalize s.aO c=er at HT hd a7⊢;unfold Fb ptr at*;clear h ok hP e1 e2 h0 K z;go_enter func27,ntmps27;go_wp2_with fail;rw[←hW];clear hW;refine Zy HN ?_;rintro w1 rfl;go_wp2_with fail;refine Qj [(0,0),(0,1),(0,2),(0,3),(0,4),(2,5),(2,6)] Zq (by kernel_rfl) (fun _ _ _ _ _ h=>h) ?_;simp only[Jk,Zf,Ze,Zd];iterate 5 (refine Jq (by kernel_rfl) (by go_simp;try rfl) ?_)
  clear a0 a1 a2 a3 a4 g0 g1 g2 g3 g4 g5 g6 g7 g8 g9 I J d k;refine J7 ?_;go_wp2_with fail;refine Zy HT ?_;rintro w2⟨h2,V⟩;have E:=O (R.o w2 s ⟨A,h2⟩ V);clear h2 V;go_wp2_with fail;refine J7 ?_;go_wp2_with fail;refine Jo ?_;go_wp2;go_ret;exact⟨rfl,E.o⟩
end
section
variable{A:Tb}{w w1 w2:World}{F:Fp}{b a:Nat}{s:Qf}{N:Nat}{l:Qw}
theorem Qfp(h:Qt w F b s)(ok:Xp N s)(c:Yk):
  Cl 51 #[ptr b,Fb c] w fun e w'=>e=.returned (.int .i64 (s.aG c))∧Qt w' (Qn F w w') b (s.change c)∧Qc F w w':=by
 obtain⟨A,h⟩:=h;have ah:=(Qi.obj A).bd h;obtain⟨W,hW⟩:=Zx (w.alloc (.cells (Z4 c.leaf c) 40));have S0:Hi (Xx W w.heap.size c):=O (by rw[hW];exact Xx.new w c);have C0:Hi (Qc Qb w W):=O (by rw[hW];exact(Zg _ _).alloc _);have hP:=(Qi.obj A).aB h C0.o (Jl.none F);have HN:=O (Ku hP ok.most.1);have NF:=O (show¬F w.heap.size from fun hk=>by have:=ah _ hk;omega);have ae:Bd F W:=ah.later C0.o;have ay:=O (show w.heap.size<W.heap.size from Qh.lt S0.o);have ab:=O (fun w'(c:Qc Qb W w')=>(Qi.obj A).aB hP c (Jl.none F));have d:Hi (∀w' t,Qt w' (Qn F W w') b t→Qc F W w'→Qt w' (Qn F w w') b t∧Qc F w w'):=O (fun w' t h1 h2=>by
  have cc:Qc F w w':=C0.o.none.aA h2;exact⟨Qt.obj.more h1 (Ke C0.o.size) (ah.ext cc),cc⟩)
 have J:Hi (∀w',Qc Qb W w'→s.change c=s→Qt w' (Qn F w w') b (s.change c)∧Qc F w w'):=O (fun w' cc e=>by
  rw[e];obtain⟨p1,p2⟩:=Qt.obj.same ⟨A,hP⟩ cc;exact d.o w' _ p1 p2)
 have HG:Hi (∀w',Qc Qb W w'→Cl 13 #[ptr A.tb,.int .i64 c.id] w' fun e af=>e=.returned (.tuple #[.agg (Es (s.tree.get c.id).sp),.bool (s.tree.at c.id).isSome])∧Qc Qb w' af):=O (fun w' cc=>by
  obtain⟨G,hT,_⟩:=(ab.o w' cc).treeOf;exact Ob hT c.id)
 have al:Hi (∀w',Qc Qb W w'→Cl 108 #[ptr A.tb,Fb c] w' fun e af=>e=.returned (.int .i64 (s.tree.aG c))∧Qi A af (Qn F W af) b {s with tree:=s.tree.change c}∧Qc F W af):=O (fun w' cc=>by
  obtain⟨G,hT,_,z⟩:=(ab.o w' cc).treeOf;refine Zz (Qe1 hT ok.tree c) ?_;rintro w2⟨a8,c2⟩;obtain⟨m1,m2⟩:=z w2 _ a8 c2;have m3:Qc F W w2:=cc.none.aA m2;exact⟨rfl,(Qi.obj A).more m1 (Ke cc.size) (ae.ext m3),m3⟩)
 have I:Hi (s.aG c=0→(∀w2,Qi A w2 (Qn F W w2) b {s with tree:=s.tree.change c}→Qc F W w2→Cl 109 #[ptr A.pb,Fb c] w2.drew fun e w3=>e=.returned (.bool true)∧Qi A w3 (Qn F W w3) b {s with tree:=s.tree.change c,pick:=s.pick.aK c}∧Qc F W w3∧Qc (Qn F W w2) w2 w3)∧
   (∀w3,Cl 71 #[cV c.real] w3 fun e w4=>∃pv,e=.returned (.pointer pv)∧Kv w4 (Qn Qb w3 w4) (.pointer pv) (Xl c.real)∧Qc Qb w3 w4)∧
   (s.leaf c.id=none→s.change c={s with tree:=s.tree.change c,pick:=s.pick.aK c})∧
   (∀l w3,s.leaf c.id=some l→Qi A w3 (Qn F W w3) b {s with tree:=s.tree.change c,pick:=s.pick.aK c}→Qc F W w3→∃qb dv,Qh w3 (A.ad c.id) #[ptr qb,dv] 85∧
    ∀w4 w5 w6 ac,Qc Qb w3 w4→Qc Qb w4 w5→Kv w5 (Qn Qb w4 w5) ac (Xl c.real)→Qh w6 (A.ad c.id) #[ptr qb,ac] 85→Qc (fun k=>k=A.ad c.id) w5 w6→Qt w6 (Qn F W w6) b (s.change c)∧Qc F W w6)):=O (fun h0=>by
  obtain⟨hm,ao⟩:=L8 h0;have ha:=ok.asleep hm;obtain⟨x,q,hx,i1,hq,mt,dd⟩:=ok.mt.aK ok.tree ok.pick ao ha;obtain⟨c1,bb,au⟩:=Gb ao;have a9:=(Md au).1;have E:s.change c={s with tree:=s.tree.change c,pick:=s.pick.aK c,aI:=s.aI.map fun l=>if l.id=c.id then{l with debt:=Xl c.real}else l}:=by unfold Qf.change;rw[if_pos h0]
  refine⟨fun w2 h2 c2=>?_,fun w3=>?_,fun hl=>?_,fun l w3 hl h3 c3=>?_⟩;·obtain⟨G,⟨AP,a7⟩,_,z⟩:=h2.drew.pickOf;refine Zz (Qii a7 ok.pick c i1 hx ha hq) ?_;rintro w3⟨a6,c3⟩;obtain⟨m1,m2⟩:=z w3 _ a6 c3;obtain⟨n1,n2⟩:=(Qi.obj A).two (w1:=w2) m1 ae c2 m2.undrew;exact⟨rfl,n1,n2,m2.undrew⟩
  ·refine(Qgx c.real a9 w3).mono ?_;rintro e w4⟨v,rfl,hD,c4⟩;obtain⟨pv,rfl⟩:=Kv.ptr (w:=w4) (F:=Qn Qb w3 w4) (o:=Xl c.real) hD;exact⟨pv,rfl,hD,c4⟩
  ·rw[E,Qh7 hl]
  ·obtain⟨G,hL,hG,z⟩:=h3.leafOf (i:=c.id) (l:=l) hl;obtain⟨qb,dv,hB,k⟩:=hL.owe;refine⟨qb,dv,hB,fun w4 w5 w6 ac an az hD a5 ag=>?_⟩;obtain⟨p1,p2⟩:=k w5 w6 ac (Xl c.real) (an.aA az) ((Kv.good ac _).more hD (Ke an.size) (fun k hk=>((Qr k).1 hk).2)) a5 ag;obtain⟨q1,q2⟩:=z w6 {l with debt:=Xl c.real} (Y3 (show Hn Qw.id c.id s.aI=some l from hl)).2 p1 p2;obtain⟨r1,r2⟩:=(Qi.obj A).two q1 ae c3 q2;refine⟨?_,r2⟩;rw[E];have e:=Qfr (s:={s with tree:=s.tree.change c,pick:=s.pick.aK c}) hP.nodup (i:=c.id) (l:=l) hl (Xl c.real);rw[e]at r1;exact⟨A,r1⟩)
 have ax:=O (fun w' t(h':Qi A w' (Qn F W w') b t)=>h'.drew.look1 c.id);have B:=O (fun w'(cc:Qc Qb W w')=>Qbl (ab.o w' cc) ok c.id);have HA:=O hP.blk;have HE:=O (show s.aG c=if(s.tree.at c.id).isNone then 81 else if 0<s.many c.id then 230 else s.tree.aG c from rfl);have NO:=O (fun(h0:s.aG c≠0)=>Sj h0);obtain⟨is,aj⟩:=Zx ((s.tree.at c.id).isSome);rw[←aj]at HG;have am:=O aj;clear aj;obtain⟨gs,aq⟩:=Zx ((s.tree.get c.id).sp);rw[←aq]at HG;clear aq;unfold Fb ptr at*;clear h ah;go_enter func51,ntmps51;go_wp2_with fail;rw[←hW];clear hW;refine Zy HN ?_;rintro w1 rfl;go_wp2_with fail;go_cut [5,6] (fun s5 s6 wz=>s6=.bool is∧Qc Qb W wz)
 case first=>
  refine Ui (.lookp 0 (.lookp 1 (.lookp 2 (.lookp 3 (.lookp 4 (.lookp 5 (.fork 6 (.lookp 7 (.lookp 8 (.lookp 9 (.walk 10 (.walk 11 (.walk 12 .nil)))))) 10 (.walk 6 (.look 7 (.look 8 (.lookp 9 (.walk 11 (.walk 12 .nil))))))))))))) (fun wv=>Qc (Qb) (W) wv) Zq (by kernel_rfl) (fun _ _ _ _ _ h=>h) (by(repeat' (first|(with_reducible first|exact Zg _ _|assumption|refine Zh ?_ _|refine Zi ?_ _|refine Zj ?_|refine Zk ?_ _ ?_|(apply Or.inl;rfl))|(apply Or.inl;simp;done)|(apply Or.inr;simp;first|done|omega)))) ?_;simp only[O0,Zf,Ze,Zd];iterate 3 (first|(refine Vd (by kernel_rfl) (by go_simp;try rfl) ?_)|(refine Xi (by kernel_rfl) (fun wv hv=>by go_simp;try rfl) ?_);try simp only[Act.put,Za,Zc,Zb])
  iterate 1 (refine Xi (by kernel_rfl) (fun wv hv=>by(obtain⟨z0,z1,z2,z3,z4⟩:=Ym (hv.blk HA.o (fun h=>h)));go_simp;try rfl) ?_;try simp only[Act.put,Za,Zc,Zb])
  iterate 1 (first|(refine Vd (by kernel_rfl) (by go_simp;try rfl) ?_)|(refine Xi (by kernel_rfl) (fun wv hv=>by go_simp;try rfl) ?_);try simp only[Act.put,Za,Zc,Zb])
  iterate 1 (refine Xi (by kernel_rfl) (fun wv hv=>by(obtain⟨z0,_⟩:=(show Xx wv w.heap.size c from hv.blk S0.o (fun h=>h)).cells);go_simp;try rfl) ?_;try simp only[Act.put,Za,Zc,Zb])
  refine Gn ?_ ?_
  ·go_wp2_with fail;refine Zz (HG.o _ (Zg Qb W).drew) ?_;intro w2 c2;have C2:=O ((Zg Qb W).drew.aA c2);clear c2;go_wp2_with fail;refine⟨C2.o,?_⟩;iterate 3 (first|(refine Vd (by kernel_rfl) (by go_simp;try rfl) ?_)|(refine Xi (by kernel_rfl) (fun wv hv=>by go_simp;try rfl) ?_);try simp only[Act.put,Za,Zc,Zb])
   refine Xt ?_;go_wp2_with fail;refine⟨C2.o.alloc _,?_⟩;obtain⟨W3,s3,ai,C3⟩:=Q0 (P:=prog) (vs:=Es gs) (Qh.new w2 Z5 40) rfl (Hl _);have D3:=O (show Qc Qb W W3 from(C2.o.alloc _).trans C3 (fun k e=>.inr (by have:=C2.o.size;omega)));clear ai C3;refine Xt ?_;go_wp2_with fail;refine⟨D3.o,?_⟩;refine Xt ?_;go_wp2_with fail;refine⟨D3.o,?_⟩;refine U9 ?_;clear s3;go_wp2_with fail;go_meet;exact⟨rfl,D3.o⟩
  ·go_wp2_with fail;refine⟨((Zg Qb W).drew.alloc _),?_⟩;have CA:=O ((Zg Qb W).drew.alloc (.cells Z5 40));have BA:=O (show Qh (W.drew.alloc (.cells Z5 40)) W.heap.size Z5 40 from Qh.new W.drew _ _);refine Xt ?_;go_wp2_with fail;refine(HG.o _ CA.o).mono ?_;rintro e w2⟨rfl,c2⟩;obtain⟨W3,s3,ai,C3⟩:=Q0 (P:=prog) (vs:=Es gs) (c2.blk BA.o (fun h=>h)) rfl (Hl _);have C2:=O (CA.o.aA c2);have D3:=O (show Qc Qb W W3 from C2.o.trans C3 (fun k e=>.inr (by omega)));clear ai C3 c2;go_wp2_with fail;refine⟨C2.o,?_⟩;iterate 3 (first|(refine Vd (by kernel_rfl) (by go_simp;try rfl) ?_)|(refine Xi (by kernel_rfl) (fun wv hv=>by go_simp;try rfl) ?_);try simp only[Act.put,Za,Zc,Zb])
   refine Xt ?_;go_wp2_with fail;refine⟨D3.o,?_⟩;refine Xt ?_;go_wp2_with fail;refine⟨D3.o,?_⟩;refine U9 ?_;clear s3;go_wp2_with fail;go_meet;exact⟨rfl,D3.o⟩
 case rest=>
  obtain⟨rfl,cW⟩:=hcut;obtain⟨V,hV⟩:=Zx wc;rw[←hV]at cW⊢;clear hV;have CV:=O cW;clear cW;cases is with
  |false=>
   have E:=O (show s.aG c=81 by
    have h1:=am.o;rw[HE.o,if_pos (by
     cases hc:s.tree.at c.id with
     |none=>rfl
     |some x=>rw[hc]at h1;cases h1)])
   have u:=O (J.o V CV.o (NO.o (by rw[E.o];decide)));clear J d NO HG B;go_wp2_with fail;go_ret;exact⟨by rw[E.o];rfl,u.o⟩
  |true=>
   have HS:=O (show(s.tree.at c.id).isNone=false by
    have h1:=am.o;cases hc:s.tree.at c.id with
    |none=>rw[hc]at h1;cases h1
    |some x=>rfl)
   obtain⟨m,ar⟩:=Zx (s.many c.id);rw[←ar]at HE B;clear ar;obtain⟨g0,_⟩:=(show Xx V w.heap.size c from CV.o.blk S0.o (fun h=>h)).cells;by_cases hm:0<m
   ·have E:=O (show s.aG c=230 by rw[HE.o,HS.o,if_neg (by decide),if_pos hm]);have dm:decide (0<m)=true:=by simpa using hm
    rw[dm]at B;clear hm dm HE;go_wp2_with fail;refine Zz (B.o V CV.o) ?_;intro w4 c4;have u:=O (J.o w4 (CV.o.aA c4) (NO.o (by rw[E.o];decide)));clear c4;go_wp2_with fail;go_ret;exact⟨by rw[E.o];rfl,u.o⟩
   ·have E:=O (show s.aG c=s.tree.aG c by rw[HE.o,HS.o,if_neg (by decide),if_neg hm]);have dm:decide (0<m)=false:=by simpa using hm
    rw[dm]at B;clear hm dm HE;go_wp2_with fail;refine Zz (B.o V CV.o) ?_;intro w4 c4;have C4:=O (CV.o.aA c4);clear c4 g0;go_wp2_with fail;obtain⟨a0,a1,a2,a3,a4⟩:=Ym (C4.o.drew.blk HA.o (fun h=>h));obtain⟨g0,g1,g2,g3,g4,g5,g6,g7,g8,g9,K,R,U,Z⟩:=(show Xx w4.drew w.heap.size c from C4.o.drew.blk S0.o (fun h=>h)).cells;unfold ptr at*;refine Qj [(0,0),(0,1),(0,2),(0,3),(0,4),(2,5),(2,6)] Zq (by kernel_rfl) (fun _ _ _ _ _ h=>h) ?_;simp only[Jk,Zf,Ze,Zd];iterate 5 (refine Jq (by kernel_rfl) (by go_simp;try rfl) ?_)
    clear a0 a1 a2 a3 a4 g0 g1 g2 g3 g4 g5 g6 g7 g8 g9 K R U Z;refine J7 ?_;go_wp2_with fail;refine Zz (al.o _ C4.o.drew) ?_;rintro w5⟨h5,c5⟩;have H5:=O h5;have C5:=O c5;have S5:=O (show Xx w5 w.heap.size c from c5.blk S0.o NF.o);clear h5 c5 al B HG J;go_wp2_with fail;refine J7 ?_;go_wp2_with fail;refine Jo ?_;by_cases h0:s.tree.aG c=0
    ·have HT:=O (I.o (E.o.trans h0));have hd:decide (s.tree.aG c=0)=true:=by simpa using h0
     rw[h0];rw[h0]at hd;have E0:=O (E.o.trans h0);clear h0 I NO hd E;go_wp2_with fail;obtain⟨a0,a1,a2,a3,a4⟩:=Ym H5.o.drew.blk;obtain⟨g0,g1,g2,g3,g4,g5,g6,g7,g8,g9,K,R,U,Z⟩:=(show Xx w5.drew w.heap.size c from S5.o.aB (Zg Qb w5).drew).cells;unfold ptr at*;refine Qj [(0,0),(0,1),(0,2),(0,3),(0,4),(2,5)] Zq (by kernel_rfl) (fun _ _ _ _ _ h=>h) ?_;simp only[Jk,Zf,Ze,Zd];iterate 5 (refine Jq (by kernel_rfl) (by go_simp;try rfl) ?_)
     clear a0 a1 a2 a3 a4 g0 g1 g2 g3 g4 g5 g6 g7 g8 g9 K R U Z;refine J7 ?_;go_wp2_with fail;refine Zz (HT.o.1 w5 H5.o C5.o) ?_;rintro w6⟨h6,c6,ag⟩;have H6:=O h6;have C6:=O c6;have S6:=O (show Xx w6 w.heap.size c from ag.blk S5.o (fun hk=>hk.elim NF.o (fun hk=>by
      have h1:=ay.o;omega)))
     have aa:=O HT.o.2;clear h6 c6 ag HT;go_wp2_with fail;refine Jo ?_;go_wp2_with fail;obtain⟨a0,a1,a2,a3,a4⟩:=Ym H6.o.drew.blk;obtain⟨g0,g1,g2,g3,g4,g5,g6,g7,g8,g9,K,R,U,Z⟩:=(show Xx w6.drew w.heap.size c from S6.o.aB (Zg Qb w6).drew).cells;have lk:=H6.o.drew.look1 c.id;cases hl:s.leaf c.id with
     |none=>
      rw[Qae (s:={s with tree:=s.tree.change c,pick:=s.pick.aK c}) hl]at lk;have u:=O (d.o w6.drew (s.change c) (by rw[aa.o.2.1 hl];exact⟨A,H6.o.drew⟩) C6.o.drew);clear aa hl d;unfold ptr at*;refine Qj [(0,0),(0,1),(0,2),(0,3),(0,4),(0,5),(0,6),(2,7)] Zq (by kernel_rfl) (fun _ _ _ _ _ h=>h) ?_;simp only[Jk,Zf,Ze,Zd];iterate 7 (refine Jq (by kernel_rfl) (by go_simp;try rfl) ?_)
      clear a0 a1 a2 a3 a4 g0 g1 g2 g3 g4 g5 g6 g7 g8 g9 K R U Z lk;refine J7 ?_;go_wp2_with fail;refine Jo ?_;go_wp2_with fail;go_ret;exact⟨by rw[E0.o];rfl,u.o⟩
     |some l=>
      rw[G7 (s:={s with tree:=s.tree.change c,pick:=s.pick.aK c}) hl]at lk;obtain⟨qb,dv,ap,hk⟩:=aa.o.2.2 l w6 hl H6.o C6.o;have HK:=O hk;have aw:=O ap;have av:=O aa.o.1;clear aa hl hk ap;unfold ptr at*;refine Qj [(0,0),(0,1),(0,2),(0,3),(0,4),(0,5),(0,6),(2,7)] Zq (by kernel_rfl) (fun _ _ _ _ _ h=>h) ?_;simp only[Jk,Zf,Ze,Zd];iterate 7 (refine Jq (by kernel_rfl) (by go_simp;try rfl) ?_)
      clear a0 a1 a2 a3 a4 lk;refine J7 ?_;go_wp2_with fail;refine Jo ?_;go_wp2_with fail;refine(av.o w6.drew).mono ?_;rintro e w7⟨pv,rfl,hD,c7⟩;have B7:=O (((Zg Qb w6).drew.aA c7).blk aw.o (fun h=>h));obtain⟨y0,y1⟩:=Q4 B7.o;have fz:=B7.o.frozen;have u:=O (HK.o w6.drew w7 (w7.setCell ⟨A.ad c.id,1,none⟩ (.pointer pv)) (.pointer pv) (Zg Qb w6).drew c7 hD (B7.o.set 1 _) ((Zg _ w7).setCell _ (.inl rfl)));have ak:=O (d.o _ _ u.o.1 u.o.2);clear hD c7 u HK d g0 g1 g2 g3 g4 g5 g6 g7 g8 g9 K R U Z;go_wp2_with fail;go_ret;exact⟨by rw[E0.o];rfl,ak.o⟩
    ·have e1:s.tree.change c=s.tree:=Fq h0;have e2:s.change c=s:=NO.o (by rw[E.o];exact h0);have u:=O (d.o w5 (s.change c) (by rw[e2];have h5:=H5.o;rw[e1]at h5;exact⟨A,h5⟩) C5.o);have hd:decide (s.tree.aG c=0)=false:=by simpa using h0
     have ba:(s.tree.aG c==0)=false:=by simpa using h0
     generalize s.tree.aG c=er at hd ba E⊢;clear h0 I NO H5 d ax e1 e2;go_wp2_with fail;go_ret;exact⟨by rw[E.o];rfl,u.o⟩
end
section
variable{A:Tb}{w w1 w2:World}{F:Fp}{b a:Nat}{s:Qf}{N:Nat}{l:Qw}
theorem Qi.openLeaf(h:Qi A w F b s){i:Int}(hl:s.leaf i=some l):∃qb dv,Qh w (A.ad i) #[ptr qb,dv] 85∧
  (∃G:Fp,quS qb l.pk l.bt l.q w G∧∀w' k,quS qb l.pk l.bt k w' (Qn G w w')→Qc G w w'→Qi A w' (Qn F w w') b (s.setLeaf {l with q:=k})∧Qc F w w'∧Qh w' (A.ad i) #[ptr qb,dv] 85)∧
  (∃G:Fp,Kv w G dv l.debt∧∀w' d,Kv w' (Qn G w w') dv d→Qc G w w'→Qi A w' (Qn F w w') b (s.setLeaf {l with debt:=d})∧Qc F w w'∧Qh w' (A.ad i) #[ptr qb,dv] 85):=by
 have hi:=(Y3 (show Hn Qw.id i s.aI=some l from hl)).2;obtain⟨K,V,hK,c⟩:=h.leafOf hl;obtain⟨qb,dv,u,⟨J,U,sq,nq,pq⟩,⟨I,R,sd,nd,pd⟩⟩:=V.opn;refine⟨qb,dv,u,⟨J,U,fun w' k hq hc=>?_⟩,⟨I,R,fun w' d Z hc=>?_⟩⟩;·obtain⟨p1,z⟩:=pq w' k hq hc;obtain⟨B,E⟩:=c w' {l with q:=k} hi p1 z;exact⟨B,E,hc.blk u nq⟩
 ·obtain⟨p1,z⟩:=pd w' d Z hc;obtain⟨B,E⟩:=c w' {l with debt:=d} hi p1 z;exact⟨B,E,hc.blk u nd⟩
theorem Rz{l1 l2:Qw}(e:l2.id=l1.id):(s.setLeaf l1).setLeaf l2=s.setLeaf l2:=by
 unfold Qf.setLeaf;simp only[List.map_map,e];congr 1;refine List.map_congr_left fun x c=>?_;dsimp only[Function.comp];by_cases c:x.id=l1.id;·simp[c]
 ·simp[c]
theorem Oz{l1:Qw}{i:Int}(hl:s.leaf i=some l)(e:l1.id=i):(s.setLeaf l1).leaf i=some l1:=by subst e;have:=Qeo (key:=Qw.id) (x:=l1) (show Hn Qw.id l1.id s.aI=some l from hl) l1.id;rw[if_pos rfl]at this;exact this
theorem Qsx{h:Qm}{i:Int}{c:Vm}(hc:h.at i=some c):i∈h.map Vm.id:=Z3.2 ⟨c,(Qm.aE hc).1,(Qm.aE hc).2⟩
theorem Xp.row_len(ok:Xp N s)(u:Ol s.row):s.row.length≤64:=by
 have h1:=u.length_le_of_subset (l₂:=s.tree.map Vm.id) (fun i hi=>by
  obtain⟨⟨x,j,y⟩,q,rfl⟩:=Z3.1 hi;obtain⟨l,d,hl,_⟩:=(ok.row x j y).1 q;obtain⟨k,z,_⟩:=ok.at (show s.leaf j=some l from hl);obtain⟨c,hc,_⟩:=k.sp;rw[z]at hc;exact Qsx hc)
 simp only[List.length_map]at h1;exact Zp h1 ok.tree.many
theorem Qi.row_len(h:Qi A w F b s)(ok:Xp N s):s.row.length≤64:=by obtain⟨p,G,_,c⟩:=h.once;exact ok.row_len c.1
theorem Qi.qPush(h:Qi A w F b s){i:Int}(hl:s.leaf i=some l)(p:Jr):∃qb dv,Qh w (A.ad i) #[ptr qb,dv] 85∧(∃G:Fp,Kv w G dv l.debt)∧
  ∀w1,Qc Qb w w1→Cl 73 #[ptr qb,.agg #[.int .u64 p.id,.int .i64 p.cls,.int .i64 p.len,.int .u64 p.at_]] w1 fun e w2=>e=.returned (.int .i64 (D8 l.pk l.bt l.q p))∧
   (D8 l.pk l.bt l.q p≠0→Qc Qb w1 w2)∧
   (D8 l.pk l.bt l.q p=0→Qc F w w2∧Qi A w2 (Qn F w w2) b (s.setLeaf {l with q:=l.q++[p]})∧Qh w2 (A.ad i) #[ptr qb,dv] 85∧∃r,Jz w2 qb r l.pk l.bt (l.q++[p])):=by
 obtain⟨qb,dv,Z,⟨G,J,d⟩,R,hd,_⟩:=h.openLeaf hl;refine⟨qb,dv,Z,⟨R,hd⟩,fun w1 u=>?_⟩;obtain⟨r,I,U,V,g3⟩:=(Lm qb l.pk l.bt l.q).aB J u (Jl.none _);by_cases h0:D8 l.pk l.bt l.q p=0;·refine Zz (Qsj I p h0) ?_;rintro w2⟨K,B,c,z⟩;have E:Qc G w w2:=(u.none (F:=G)).aA (z.sub fun k hk=>by rcases hk with rfl|rfl<;>assumption);have s1:=u.size;have lt:=c.lt;obtain⟨m1,m2,m3⟩:=d w2 (l.q++[p]) ⟨K,c,.inl U,B.elim (fun e=>.inl (e▸V)) (fun e=>.inr ⟨by omega,lt.2⟩),((Lm qb l.pk l.bt l.q).bd J).ext E⟩ E;exact⟨by rw[h0],fun h=>absurd h0 h,fun _=>⟨m2,m1,m3,K,c⟩⟩
 ·refine Zz (Qsi I p h0) ?_;intro w2 z;exact⟨rfl,fun _=>z,fun h=>absurd h h0⟩
theorem Qi.noDebt(h:Qi A w F b s){i:Int}(hl:s.leaf i=some l){qb:Nat}{dv:Value}(u:Qh w (A.ad i) #[ptr qb,dv] 85)(z:l.debt=none):dv=.pointer none:=by obtain⟨B,q,d,_,G,k,_⟩:=h.openLeaf hl;have e:=u.inj d;injection e with e;injection e with e1 c;injection c with c;rw[z]at k;rw[c];exact k.1
theorem Qi.debtStep(h:Qi A w F b s){i:Int}(hl:s.leaf i=some l){qb:Nat}{dv:Value}(J:Qh w (A.ad i) #[ptr qb,dv] 85){d:Ju}(R:l.debt=some d):∃q,dv=ptr q∧∃G:Fp,Ye w G q d∧
  ∀w' c,Ye w' (Qn G w w') q c→Qc G w w'→Qi A w' (Qn F w w') b (s.setLeaf {l with debt:=some c})∧Qc F w w'∧Qh w' (A.ad i) #[ptr qb,dv] 85:=by
 obtain⟨V,B,u,_,G,z,E⟩:=h.openLeaf hl;have e:=J.inj u;injection e with e;injection e with e1 k;injection e1 with e1;injection e1 with e1;injection e1 with e1 _;injection k with k;subst k;subst e1;rw[R]at z;obtain⟨q,U,K⟩:=z;subst U;exact⟨q,rfl,G,K,fun w' c h1 I=>E w' (some c) ⟨q,rfl,h1⟩ I⟩
theorem Qi.wakeDebt(h:Qi A w F b s){i:Int}(hl:s.leaf i=some l){qb:Nat}{dv:Value}(E:Qh w (A.ad i) #[ptr qb,dv] 85){d:Ju}(I:l.debt=some d)(hn:d.run.l.length+1<549755813888)(U:d.got≤Xw)(now:Nat)(V:now<18446744073709551616)(len:Int):
  ∃q,dv=ptr q∧∀w1,Qc Qb w w1→Cl 74 #[ptr q,.int .u64 now,.int .i64 len] w1 fun e w2=>e=.returned (.tuple #[])∧Qi A w2 (Qn F w w2) b (s.setLeaf {l with debt:=some (d.wake now len)})∧Qc F w w2∧Qh w2 (A.ad i) #[ptr qb,dv] 85:=by
 obtain⟨q,J,_⟩:=h.debtStep hl E I;refine⟨q,J,fun w1 u=>?_⟩;have h1:=(Qi.obj A).aB h u (Jl.none F);obtain⟨q',c,G,R,k⟩:=h1.debtStep hl (u.blk E (fun h=>h)) I;rw[J]at c;injection c with c;injection c with c;injection c with c _;subst c;refine Zz (Qj6 R hn U now V len) ?_;rintro w2⟨z,K⟩;obtain⟨Z,m2,m3⟩:=k w2 _ z K;have B:Qc F w w2:=u.none.aA m2;exact⟨rfl,(Qi.obj A).more Z (Ke u.size) (((Qi.obj A).bd h).ext B),B,m3⟩
theorem Qi.noteDebt(h:Qi A w F b s){i:Int}(hl:s.leaf i=some l){qb q:Nat}(I:Qh w (A.ad i) #[ptr qb,ptr q] 85){d:Ju}(R:l.debt=some d)(hr:s.row.length≤64):
  ∀w1,Qc Qb w w1→Cl 75 #[ptr A.rb,.int .i64 i,ptr q] w1 fun e w2=>e=.returned (.tuple #[])∧Qi A w2 (Qn F w w2) b {s with row:=Hj s.row i d}∧Qc F w w2:=by
 intro w1 u;have h1:=(Qi.obj A).aB h u (Jl.none F);obtain⟨Z,c,G,J,_⟩:=h1.debtStep hl (u.blk I (fun h=>h)) R;injection c with c;injection c with c;injection c with c _;subst c;obtain⟨H,K,_,k⟩:=h1.rowOf;refine Zz (Qkb K J (by omega) i) ?_;rintro w2⟨z,E⟩;obtain⟨U,V⟩:=k w2 _ z E;have B:Qc F w w2:=u.none.aA V;exact⟨rfl,(Qi.obj A).more U (Ke u.size) (((Qi.obj A).bd h).ext B),B⟩
theorem Qi.pickWake(h:Qi A w F b s){dep:Int→Nat}(ok:Qs dep N s.pick)(I:N<549755813000)(i:Int)(now:Nat)(c:now<18446744073709551616):
  ∀w1,Qc Qb w w1→Cl 76 #[ptr A.pb,.int .i64 i,.int .u64 now] w1 fun e w2=>e=.returned (.tuple #[])∧Qi A w2 (Qn F w w2) b {s with pick:=s.pick.wake i now}∧Qc F w w2:=by
 intro w1 k;have h1:=(Qi.obj A).aB h k (Jl.none F);obtain⟨H,⟨z,E⟩,_,d⟩:=h1.pickOf;refine Zz (Qlo E ok I i now c) ?_;rintro w2⟨q,B⟩;obtain⟨J,K⟩:=d w2 _ ⟨z,q⟩ B;have u:Qc F w w2:=k.none.aA K;exact⟨rfl,(Qi.obj A).more J (Ke k.size) (((Qi.obj A).bd h).ext u),u⟩
end
section
variable{A:Tb}{w w1 w2:World}{F:Fp}{b a:Nat}{s:Qf}{N:Nat}{l:Qw}
theorem Qlq{p:Jr}(hc:s.tree.at p.cls=none):s.aQ p=81:=by unfold Qf.aQ;rw[hc]
theorem Qil{p:Jr}{c:Vm}(hc:s.tree.at p.cls=some c)(hl:c.sp.leaf=false):s.aQ p=162:=by unfold Qf.aQ;rw[hc];simp[hl]
theorem Qlp{p:Jr}{c:Vm}(hc:s.tree.at p.cls=some c)(d:c.sp.leaf=true)(hl:s.leaf p.cls=some l)(u:s.most<65536):s.aQ p=if Eo p.len s.most≠0 then Eo p.len s.most else D8 l.pk l.bt l.q p:=by
 unfold Qf.aQ;rw[hc];simp only[d,hl];rw[if_neg (by simp)];split;·rfl
 ·rename_i h1;have k:¬(p.len<1∨65535<p.len):=by
   unfold Eo at h1;intro q;apply h1;split;·decide
   ·rw[if_pos (by omega)];decide
  unfold D8;rw[if_neg k]
theorem Qbn(h:Qt w F b s)(ok:Xp N s)(hN:N<549755813000)(p:Jr)(now:Nat)(al:now<18446744073709551616):
  Cl 28 #[ptr b,.agg #[.int .u64 p.id,.int .i64 p.cls,.int .i64 p.len,.int .u64 p.at_],.int .u64 now] w fun e w'=>e=.returned (.int .i64 (s.aQ p))∧Qt w' (Qn F w w') b (s.push p now)∧Qc F w w':=by
 obtain⟨A,h⟩:=h;have ai:=(Qi.obj A).bd h;obtain⟨W,hW⟩:=Zx (w.alloc (.cells #[.int .u64 p.id,.int .i64 p.cls,.int .i64 p.len,.int .u64 p.at_] 34));have S0:Hi (Qh W w.heap.size #[.int .u64 p.id,.int .i64 p.cls,.int .i64 p.len,.int .u64 p.at_] 34):=O (by rw[hW];exact Qh.new _ _ _);have C0:Hi (Qc Qb w W):=O (by rw[hW];exact(Zg _ _).alloc _);have hP:=(Qi.obj A).aB h C0.o (Jl.none F);have HN:=O (Ku hP ok.most.1);have NF:=O (show¬F w.heap.size from fun hk=>by have:=ai _ hk;omega);have ak:Bd F W:=ai.later C0.o;have bo:=O (show w.heap.size<W.heap.size from Qh.lt S0.o);have aj:=O (fun w'(c:Qc Qb W w')=>(Qi.obj A).aB hP c (Jl.none F));have u:Hi (∀w' t,Qt w' (Qn F W w') b t→Qc F W w'→Qt w' (Qn F w w') b t∧Qc F w w'):=O (fun w' t h1 h2=>by
  have cc:Qc F w w':=C0.o.none.aA h2;exact⟨Qt.obj.more h1 (Ke C0.o.size) (ai.ext cc),cc⟩)
 have z:Hi (∀w',Qc Qb W w'→s.aQ p≠0→Qt w' (Qn F w w') b (s.push p now)∧Qc F w w'):=O (fun w' cc e=>by
  rw[Qnm e];obtain⟨p1,p2⟩:=Qt.obj.same ⟨A,hP⟩ cc;exact u.o w' _ p1 p2)
 have HG:Hi (∀w',Qc Qb W w'→Cl 13 #[ptr A.tb,.int .i64 p.cls] w' fun e bm=>e=.returned (.tuple #[.agg (Es (s.tree.get p.cls).sp),.bool (s.tree.at p.cls).isSome])∧Qc Qb w' bm):=O (fun w' cc=>by
  obtain⟨G,hT,_⟩:=(aj.o w' cc).treeOf;exact Ob hT p.cls)
 have R:=O (fun w'=>Rn p s.most w');have EM:=O (show Cp p s.most=Eo p.len s.most from rfl);have HA:=O hP.blk;obtain⟨is,ax⟩:=Zx ((s.tree.at p.cls).isSome);rw[←ax]at HG;have az:=O ax;clear ax;obtain⟨gs,aw⟩:=Zx ((s.tree.get p.cls).sp);rw[←aw]at HG;have bh:=O aw;clear aw;have OK:=O ok;have HP:=O hP;have J:=O ak;have aq:=O hN;have ab:=O al;unfold ptr at*;clear h ai ok hP ak hN al;go_enter func28,ntmps28;go_wp2_with fail;rw[←hW];clear hW;refine Zy HN ?_;rintro w1 rfl;go_wp2_with fail;go_cut [7,8] (fun s7 s8 wz=>(∃r,s7=.pointer (some ⟨r,0,none⟩)∧Qh wz r (Es gs) 40)∧s8=.bool is∧Qc Qb W wz)
 case first=>
  refine Ui (.lookp 0 (.lookp 1 (.lookp 2 (.lookp 3 (.lookp 4 (.lookp 5 (.fork 6 (.lookp 7 (.lookp 8 (.lookp 9 (.walk 10 (.walk 11 (.walk 12 .nil)))))) 10 (.walk 6 (.look 7 (.look 8 (.lookp 9 (.walk 11 (.walk 12 .nil))))))))))))) (fun wv=>Qc (Qb) (W) wv) Zq (by kernel_rfl) (fun _ _ _ _ _ h=>h) (by(repeat' (first|(with_reducible first|exact Zg _ _|assumption|refine Zh ?_ _|refine Zi ?_ _|refine Zj ?_|refine Zk ?_ _ ?_|(apply Or.inl;rfl))|(apply Or.inl;simp;done)|(apply Or.inr;simp;first|done|omega)))) ?_;simp only[O0,Zf,Ze,Zd];iterate 3 (first|(refine Vd (by kernel_rfl) (by go_simp;try rfl) ?_)|(refine Xi (by kernel_rfl) (fun wv hv=>by go_simp;try rfl) ?_);try simp only[Act.put,Za,Zc,Zb])
  iterate 1 (refine Xi (by kernel_rfl) (fun wv hv=>by(obtain⟨z0,z1,z2,z3,z4⟩:=Ym (hv.blk HA.o (fun h=>h)));go_simp;try rfl) ?_;try simp only[Act.put,Za,Zc,Zb])
  iterate 1 (first|(refine Vd (by kernel_rfl) (by go_simp;try rfl) ?_)|(refine Xi (by kernel_rfl) (fun wv hv=>by go_simp;try rfl) ?_);try simp only[Act.put,Za,Zc,Zb])
  iterate 1 (refine Xi (by kernel_rfl) (fun wv hv=>by(obtain⟨z0,z1,_⟩:=(X9 (hv.blk S0.o (fun h=>h))));go_simp;try rfl) ?_;try simp only[Act.put,Za,Zc,Zb])
  refine Gn ?_ ?_
  ·go_wp2_with fail;refine Zz (HG.o _ (Zg Qb W).drew) ?_;intro w2 c2;have C2:=O ((Zg Qb W).drew.aA c2);clear c2;go_wp2_with fail;refine⟨C2.o,?_⟩;iterate 3 (first|(refine Vd (by kernel_rfl) (by go_simp;try rfl) ?_)|(refine Xi (by kernel_rfl) (fun wv hv=>by go_simp;try rfl) ?_);try simp only[Act.put,Za,Zc,Zb])
   refine Xt ?_;go_wp2_with fail;refine⟨C2.o.alloc _,?_⟩;obtain⟨W3,s3,ag,C3⟩:=Q0 (P:=prog) (vs:=Es gs) (Qh.new w2 Z5 40) rfl (Hl _);have D3:=O (show Qc Qb W W3 from(C2.o.alloc _).trans C3 (fun k e=>.inr (by have:=C2.o.size;omega)));have an:=O ag;clear ag C3;refine Xt ?_;go_wp2_with fail;refine⟨D3.o,?_⟩;refine Xt ?_;go_wp2_with fail;refine⟨D3.o,?_⟩;refine U9 ?_;clear s3;go_wp2_with fail;go_meet;exact⟨⟨_,rfl,an.o⟩,rfl,D3.o⟩
  ·go_wp2_with fail;refine⟨((Zg Qb W).drew.alloc _),?_⟩;have CA:=O ((Zg Qb W).drew.alloc (.cells Z5 40));have BA:=O (show Qh (W.drew.alloc (.cells Z5 40)) W.heap.size Z5 40 from Qh.new W.drew _ _);refine Xt ?_;go_wp2_with fail;refine(HG.o _ CA.o).mono ?_;rintro e w2⟨rfl,c2⟩;obtain⟨W3,s3,ag,C3⟩:=Q0 (P:=prog) (vs:=Es gs) (c2.blk BA.o (fun h=>h)) rfl (Hl _);have C2:=O (CA.o.aA c2);have D3:=O (show Qc Qb W W3 from C2.o.trans C3 (fun k e=>.inr (by omega)));have an:=O ag;clear ag C3 c2;go_wp2_with fail;refine⟨C2.o,?_⟩;iterate 3 (first|(refine Vd (by kernel_rfl) (by go_simp;try rfl) ?_)|(refine Xi (by kernel_rfl) (fun wv hv=>by go_simp;try rfl) ?_);try simp only[Act.put,Za,Zc,Zb])
   refine Xt ?_;go_wp2_with fail;refine⟨D3.o,?_⟩;refine Xt ?_;go_wp2_with fail;refine⟨D3.o,?_⟩;refine U9 ?_;clear s3;go_wp2_with fail;go_meet;exact⟨⟨_,rfl,an.o⟩,rfl,D3.o⟩
 case rest=>
  obtain⟨⟨r,rfl,hR⟩,rfl,cW⟩:=hcut;obtain⟨V,hV⟩:=Zx wc;rw[←hV]at cW hR⊢;clear hV;have CV:=O cW;clear cW;cases is with
  |false=>
   have E:=O (show s.aQ p=81 by
    have h1:=az.o;cases hc:s.tree.at p.cls with
    |none=>exact Qlq hc
    |some x=>rw[hc]at h1;cases h1)
   have B:=O (z.o V CV.o (by rw[E.o];decide));clear z u HG R hR;go_wp2_with fail;go_ret;exact⟨by rw[E.o];rfl,B.o⟩
  |true=>
   obtain⟨c,hc,bl⟩:∃c,s.tree.at p.cls=some c∧gs=c.sp:=by
    have h1:=az.o;cases hc:s.tree.at p.cls with
    |none=>rw[hc]at h1;cases h1
    |some x=>exact⟨x,rfl,by rw[bh.o,Qda _ hc]⟩
   subst bl;obtain⟨y0,y1,y2,_⟩:=(show Xx V r c.sp from hR).cells;cases I:c.sp.leaf with
   |false=> have E:=O (show s.aQ p=162 from Qil hc I);have B:=O (z.o V CV.o (by rw[E.o];decide));rw[I]at y2;clear z u HG R hR hc I y0 y1;go_wp2_with fail;go_ret;exact⟨by rw[E.o];rfl,B.o⟩
   |true=>
    obtain⟨l,hl⟩:=OK.o.lv _ _ hc I;have E:=O (Qlp hc I hl OK.o.most.2);rw[I]at y2;clear hR hc I y0 y1;go_wp2_with fail;clear y2;obtain⟨a0,a1,a2,a3,a4⟩:=Ym (CV.o.drew.blk HA.o (fun h=>h));obtain⟨U,Z,g2,g3⟩:=X9 (CV.o.drew.blk S0.o (fun h=>h));unfold ptr at*;refine Qj [(0,0),(0,1),(0,2),(0,3),(0,4),(2,5),(2,6)] Zq (by kernel_rfl) (fun _ _ _ _ _ h=>h) ?_;simp only[Jk,Zf,Ze,Zd];iterate 5 (refine Jq (by kernel_rfl) (by go_simp;try rfl) ?_)
    clear a0 a1 a2 a3 a4 U Z g2 g3;refine J7 ?_;go_wp2_with fail;refine Zz (R.o _) ?_;intro w4 c4;rw[EM.o];have C4:=O (CV.o.drew.aA c4);clear c4;go_wp2_with fail;refine J7 ?_;go_wp2_with fail;refine Jo ?_;by_cases h0:Eo p.len s.most=0
    ·have E1:=O (show s.aQ p=D8 l.pk l.bt l.q p by rw[E.o,if_neg (by rw[h0];decide)]);rw[h0];clear h0 E;go_wp2_with fail;obtain⟨qb,dv,bd,⟨Gd,bk⟩,ah⟩:=HP.o.qPush hl p;have a8:=O ah;have bj:=O bd;have HL:=O hl;have lk:=(aj.o _ C4.o.drew).look1 p.cls;rw[G7 hl]at lk;obtain⟨a0,a1,a2,a3,a4⟩:=Ym (C4.o.drew.blk HA.o (fun h=>h));obtain⟨U,Z,g2,g3⟩:=X9 (C4.o.drew.blk S0.o (fun h=>h));clear bd bk ah hl HG R;unfold ptr at*;refine Qj [(0,0),(0,1),(0,2),(0,3),(0,4),(0,5),(0,6),(2,7)] Zq (by kernel_rfl) (fun _ _ _ _ _ h=>h) ?_;simp only[Jk,Zf,Ze,Zd];iterate 7 (refine Jq (by kernel_rfl) (by go_simp;try rfl) ?_)
     clear a0 a1 a2 a3 a4 U Z g2 g3 lk;refine J7 ?_;go_wp2_with fail;refine Jo ?_;go_wp2_with fail;obtain⟨y0,y1⟩:=Q4 (C4.o.drew.drew.blk bj.o (fun h=>h));obtain⟨U,Z,g2,g3⟩:=X9 (C4.o.drew.drew.blk S0.o (fun h=>h));unfold ptr at*;refine Qj [(0,0),(0,1),(0,2),(0,3),(0,4),(2,5),(2,6)] Zq (by kernel_rfl) (fun _ _ _ _ _ h=>h) ?_;simp only[Jk,Zf,Ze,Zd];iterate 5 (refine Jq (by kernel_rfl) (by go_simp;try rfl) ?_)
     clear y0 y1 U Z g2 g3;refine J7 ?_;go_wp2_with fail;refine Zz (a8.o _ C4.o.drew.drew) ?_;rintro w5⟨bg,am⟩;have ar:=O bg;have af:=O am;clear bg am a8;go_wp2_with fail;refine J7 ?_;go_wp2_with fail;refine Jo ?_;by_cases h1:D8 l.pk l.bt l.q p=0
     ·have E0:=O (E1.o.trans h1);have PS:=O (Ct (now:=now) E0.o HL.o);obtain⟨c5,h5,bb,rq,be⟩:=af.o h1;have H5:=O h5;have C5:=O c5;have aa:=O bb;have K:=O (Qin be);obtain⟨n1,ay⟩:=Zx ((l.q++[p]).length);rw[←ay]at K;have a6:=O ay;rw[h1];obtain⟨y0,y1⟩:=Q4 aa.o;clear h1 h5 c5 bb be af ar ay z E1;unfold ptr at*;by_cases hq:l.q=[]
      ·have hz:n1=1:=by rw[a6.o,hq];rfl
       subst hz;rw[show((1:Nat):Int)=1 from rfl]at K;have ba:=O (PS.o.trans (if_neg (by simpa using hq)));clear hq PS;go_wp2_with fail;refine Zy K ?_;rintro w6 rfl;have ap:=O (show l.id=p.cls from(Y3 (show Hn Qw.id p.cls s.aI=some l from HL.o)).2);have a5:=O (show(s.setLeaf {l with q:=l.q++[p]}).leaf p.cls=some {l with q:=l.q++[p]}from Oz HL.o ap.o);cases hd:l.debt with
       |none=>
        have av:dv=.pointer none:=H5.o.noDebt a5.o aa.o hd;have ac:=O (show s.owe {l with q:=l.q++[p]} (fun d=>d.wake now p.len)=s.setLeaf {l with q:=l.q++[p]} by unfold Qf.owe;dsimp only;rw[hd]);subst av;clear hd;go_wp2_with fail;clear y0 y1;obtain⟨a0,a1,a2,a3,a4⟩:=Ym H5.o.drew.blk;obtain⟨U,Z,g2,g3⟩:=X9 (Qc.blk C5.o.drew S0.o NF.o);have ae:=O (H5.o.pickWake (dep:=Xk s.tree) OK.o.pick aq.o p.cls now ab.o);unfold ptr at*;refine Qj [(0,0),(0,1),(0,2),(0,3),(0,4),(0,5),(0,6),(2,7)] Zq (by kernel_rfl) (fun _ _ _ _ _ h=>h) ?_;simp only[Jk,Zf,Ze,Zd];iterate 7 (refine Jq (by kernel_rfl) (by go_simp;try rfl) ?_)
        clear a0 a1 a2 a3 a4 U Z g2 g3;refine J7 ?_;go_wp2_with fail;refine Zz (ae.o _ (Zg Qb w5).drew) ?_;rintro w9⟨h9,c9⟩;obtain⟨n1,n2⟩:=(Qi.obj A).two h9 J.o C5.o c9;have B:=O (u.o w9 (s.push p now) (by rw[ba.o,ac.o];exact⟨A,n1⟩) n2);clear h9 c9 n1 n2 ae;go_wp2_with fail;refine Jo ?_;go_wp2;go_ret;exact⟨by rw[E0.o];rfl,B.o⟩
       |some d=>
        obtain⟨dg,dn,_⟩:=(OK.o.at HL.o).1.debt d hd;obtain⟨q,av,bf⟩:=H5.o.wakeDebt a5.o aa.o (d:=d) hd (by have:=aq.o;omega) dg now ab.o p.len;have ac:=O (show s.owe {l with q:=l.q++[p]} (fun d=>d.wake now p.len)={s.setLeaf {l with q:=l.q++[p],debt:=some (d.wake now p.len)}with row:=Hj s.row p.cls (d.wake now p.len)} by unfold Qf.owe;dsimp only;rw[hd,ap.o]);have a9:=O bf;subst av;clear hd bf dg dn;unfold ptr at*;go_wp2_with fail;clear y0 y1;obtain⟨y0,y1⟩:=Q4 aa.o.drew;obtain⟨U,Z,g2,g3⟩:=X9 (Qc.blk C5.o.drew S0.o NF.o);unfold ptr at*;refine Qj [(0,0),(0,1),(0,2),(0,3),(0,4),(0,5),(0,6),(2,7)] Zq (by kernel_rfl) (fun _ _ _ _ _ h=>h) ?_;simp only[Jk,Zf,Ze,Zd];iterate 7 (refine Jq (by kernel_rfl) (by go_simp;try rfl) ?_)
        clear y0 y1 U Z g2 g3;refine J7 ?_;go_wp2_with fail;refine Zz (a9.o _ (Zg Qb w5).drew) ?_;rintro w7⟨h7,c7,bc⟩;obtain⟨m1,m2⟩:=(Qi.obj A).two h7 J.o C5.o c7;have H7:=O (show Qi A w7 (Qn F W w7) b (s.setLeaf {l with q:=l.q++[p],debt:=some (d.wake now p.len)}) by
         rw[←Rz (s:=s) (l1:={l with q:=l.q++[p]}) (l2:={l with q:=l.q++[p],debt:=some (d.wake now p.len)}) rfl];exact m1)
        have C7:=O m2;have ao:=O bc;have bi:=O (show(s.setLeaf {l with q:=l.q++[p],debt:=some (d.wake now p.len)}).leaf p.cls=some {l with q:=l.q++[p],debt:=some (d.wake now p.len)}from Oz HL.o ap.o);have a7:=O (H7.o.noteDebt bi.o ao.o rfl (HP.o.row_len OK.o));clear h7 c7 bc m1 m2 a9 H5 C5 aa;go_wp2_with fail;refine Jo ?_;go_wp2_with fail;obtain⟨a0,a1,a2,a3,a4⟩:=Ym H7.o.drew.blk;obtain⟨y0,y1⟩:=Q4 ao.o.drew;obtain⟨U,Z,g2,g3⟩:=X9 (Qc.blk C7.o.drew S0.o NF.o);unfold ptr at*;refine Qj [(0,0),(0,1),(0,2),(0,3),(0,4),(0,5),(0,6),(0,7),(0,8),(0,9),(2,10)] Zq (by kernel_rfl) (fun _ _ _ _ _ h=>h) ?_;simp only[Jk,Zf,Ze,Zd];iterate 10 (refine Jq (by kernel_rfl) (by go_simp;try rfl) ?_)
        clear a0 a1 a2 a3 a4 y0 y1 U Z g2 g3;refine J7 ?_;go_wp2_with fail;refine Zz (a7.o _ (Zg Qb w7).drew) ?_;rintro w8⟨h8,c8⟩;obtain⟨m1,m2⟩:=(Qi.obj A).two h8 J.o C7.o c8;have H8:=O m1;have C8:=O m2;clear h8 c8 m1 m2 a7 H7 C7 ao;go_wp2_with fail;refine Jo ?_;go_wp2_with fail;obtain⟨a0,a1,a2,a3,a4⟩:=Ym H8.o.drew.blk;obtain⟨U,Z,g2,g3⟩:=X9 (Qc.blk C8.o.drew S0.o NF.o);have ae:=O (H8.o.pickWake (dep:=Xk s.tree) OK.o.pick aq.o p.cls now ab.o);unfold ptr at*;refine Qj [(0,0),(0,1),(0,2),(0,3),(0,4),(0,5),(0,6),(2,7)] Zq (by kernel_rfl) (fun _ _ _ _ _ h=>h) ?_;simp only[Jk,Zf,Ze,Zd];iterate 7 (refine Jq (by kernel_rfl) (by go_simp;try rfl) ?_)
        clear a0 a1 a2 a3 a4 U Z g2 g3;refine J7 ?_;go_wp2_with fail;refine Zz (ae.o _ (Zg Qb w8).drew) ?_;rintro w9⟨h9,c9⟩;obtain⟨n1,n2⟩:=(Qi.obj A).two h9 J.o C8.o c9;have B:=O (u.o w9 (s.push p now) (by rw[ba.o,ac.o];exact⟨A,n1⟩) n2);clear h9 c9 n1 n2 ae;go_wp2_with fail;refine Jo ?_;go_wp2;go_ret;exact⟨by rw[E0.o];rfl,B.o⟩
      ·have hd:decide ((1:Int)<(n1:Int))=true:=by have:=a6.o;have h0:l.q.length≠0:=fun e=>hq (List.eq_nil_of_length_eq_zero e);simp at this⊢;omega
       have bp:decide (1<n1)=true:=by simp at hd⊢;omega
       have B:=O (u.o w5 (s.push p now) (by rw[PS.o,if_pos hq];exact⟨A,H5.o⟩) C5.o);clear hq PS u H5;go_wp2_with fail;refine Zy K ?_;rintro w6 rfl;go_wp2_with fail;go_ret;exact⟨by rw[E0.o];rfl,B.o⟩
     ·have B:=O (z.o w5 (C4.o.drew.drew.aA (ar.o h1)) (by rw[E1.o];exact h1));have hd:decide (D8 l.pk l.bt l.q p=0)=false:=by simpa using h1
      have au:(D8 l.pk l.bt l.q p==0)=false:=by simpa using h1
      generalize D8 l.pk l.bt l.q p=er at hd au E1⊢;clear h1 z u ar af;go_wp2_with fail;go_ret;exact⟨by rw[E1.o];rfl,B.o⟩
    ·have E1:=O (show s.aQ p=Eo p.len s.most by rw[E.o,if_pos h0]);have B:=O (z.o w4 C4.o (by rw[E1.o];exact h0));have hd:decide (Eo p.len s.most=0)=false:=by simpa using h0
     have au:(Eo p.len s.most==0)=false:=by simpa using h0
     generalize Eo p.len s.most=er at hd au E1⊢;clear h0 E z u EM;go_wp2_with fail;go_ret;exact⟨by rw[E1.o];rfl,B.o⟩
end
end
end Go.Proofs.YtnnhmpehkbihnaaGreat
