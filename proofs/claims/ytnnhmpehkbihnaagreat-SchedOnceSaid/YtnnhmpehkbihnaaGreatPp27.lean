/- A part of the proof: no condition. -/
import Derived.Test.YtnnhmpehkbihnaaGreatPp26
namespace Go.Proofs.YtnnhmpehkbihnaaGreat
set_option linter.unusedVariables false
set_option maxRecDepth 100000
set_option maxHeartbeats 4000000
open Go.RowKit
open Go.Proofs.Tryz
section
attribute [local go_sem] Qq
attribute [local irreducible] Y4 Jm Jw
section
variable{A:SAd}{w w1 w2:World}{F:Fp}{b a:Nat}{s:Qg}{N:Nat}{l:Qy}
theorem Xl.owe(h:Xl w F a l):∃z R,Qh w a #[ptr z,R] 85∧∀w1 w2 q o,Qc Qb w w1→Kn w1 (Qn Qb w w1) q o→Qh w2 a #[ptr z,q] 85→Qc (fun k=>k=a) w1 w2→Xl w2 (Qn F w w2) a {l with debt:=o}∧Qc F w w2:=by
 obtain⟨z,R,h⟩:=h;obtain⟨B,G0,R0,J,⟨ab,I,R1,g1,_,d1,s2,s3⟩,d0,s0,s1⟩:=h;have V:¬I a:=fun c=>d0 a J.2.1 (s2 _ c);have Z:∀k,I k→F k:=fun k c=>s1 _ (s2 _ c);have K:F a:=s0 _ J.2.1;have E:Bd I w:=B.sub Z;refine⟨z,R,J.1,fun w1 w2 q o u hd U d=>?_⟩;have cF:Qc F w w2:=(u.none (F:=F)).trans' (d.sub fun k e=>e▸K);have ae:=u.size;have ac:=d.size;have aa:=B _ K;refine⟨⟨z,q,?_⟩,cF⟩;refine Zl (G:=fun k=>k=a) (H:=fun k=>I k∨Qn Qb w w1 k) ⟨U,rfl,fun k e=>e▸U.lt⟩ ?_ ?_ (fun k e=>.inl (e▸K)) ?_ (B.ext cF)
 ·refine Zl (G:=I) (H:=Qn Qb w w1) ((Dk z l.pk l.bt l.q).keep ((Dk z l.pk l.bt l.q).keep g1 u (Je.none _)) d (fun k c e=>V (e▸c))) (Yv ((Kn.good q o).keep hd d (fun k c e=>by have:=(Qt k).1 c;omega)) (fun k c=>by have:=(Qt k).1 c;omega)) ?_ (fun k c=>.inl c) (fun k c=>.inr c) ?_;·intro k c he;have:=E k c;have:=(Qt k).1 he;omega
  ·exact fun k c=>c.elim (E.later u |>.later d k) (fun c=>by have:=(Qt k).1 c;omega)
 ·rintro k rfl(c|c);·exact V c
  ·have:=(Qt k).1 c;omega
 ·exact fun k c=>c.elim (fun c=>.inl (Z k c)) (fun c=>.inr (by have:=(Qt k).1 c;omega))
theorem Qls(hn:(s.leaves.map Qy.id).Nodup){i:Int}{l:Qy}(hl:s.leaf i=some l)(o:Option Jq):
  s.setLeaf {l with debt:=o}={s with leaves:=s.leaves.map fun x=>if x.id=i then{x with debt:=o}else x}:=by
 have d:Vp Qy.id i s.leaves=some l:=hl;obtain⟨q,hi⟩:=Yh d;unfold Qg.setLeaf;congr 1;refine List.map_congr_left fun x k=>?_;dsimp only;rw[hi];by_cases c:x.id=i;·rw[if_pos c,if_pos c];rw[Option.some.inj ((Gs hn k c).symm.trans d),hi]
 ·rw[if_neg c,if_neg c]
theorem Qot{i:Int}(hl:s.leaf i=none)(o:Option Jq):(s.leaves.map fun x=>if x.id=i then{x with debt:=o}else x)=s.leaves:=by
 unfold Qg.leaf at hl;rw[List.find?_eq_none]at hl
 conv=>rhs;rw[←List.map_id s.leaves]
 refine List.map_congr_left fun x c=>?_;have:=hl x c;rw[if_neg (by simpa using this)];rfl
end
def SAd.put(A:SAd)(i:Int)(q:Nat):SAd:={A with ad:=fun j=>if j=i then q else A.ad j}
section
variable{A:SAd}{w w1 w2:World}{F:Fp}{b:Nat}{s:Qg}{N:Nat}
theorem Qj.newLeaf(h:Qj A w F b s){l:Qy}{q:Nat}(hn:s.leaf l.id=none)(c:Qc Qb w w1)(hl:Xl w1 (Qn Qb w w1) q l):
  ∃w2,(Instr.mapUpdate 75 (.map (some A.m)) (.int .i64 l.id) (ptr q)).run prog w1=.ok () w2∧Qj (A.put l.id q) w2 (Qn F w w2) b {s with leaves:=s.leaves++[l]}∧Qc F w w2:=by
 have U:=(Qj.obj A).bd h;obtain⟨L,Z,hs⟩:=h;obtain⟨G,z,V,_,E⟩:=Ju 2 (Vk A b L s) rfl hs;obtain⟨w2,B,R,d⟩:=J9 (P:=prog) (z.map.keep c (fun h=>h)) underlying75 underlying3 l.id (ptr q);have K:=z.keep Xl.obj c (Je.none G);have J:=K.put Xl.obj hl (fun k a b'=>by
  have h1:=((Qt k).1 a).1;have:=U k (V k b');omega) (by rw[←Qdu Z z.nodup];exact hn) R d
 have I:Qc G w w2:=(c.none (F:=G)).trans' (d.sub fun k u=>u▸z.at_);have h5:=E w2 (fun w G=>Xy Qy.id Xl w G A.m (A.put l.id q).ad (L++[l])) I
  (J.more (fun k u=>u.elim .inl (fun u=>.inr ⟨((Qt k).1 u).1,Nat.lt_of_lt_of_le ((Qt k).1 u).2 d.size⟩)) (z.bd.ext I))
 exact⟨w2,B,⟨L++[l],Z.append_right _,h5⟩,I.sub V⟩
theorem Xl.made{q d r:Nat}{z:Value}{l:Qy}{w3 u:World}(R:Qc Qb w w1)(U:Jg w2 d r l.pk l.bt l.q)(h1:w1.heap.size≤d∧d<w2.heap.size)(h2:w1.heap.size≤r∧r<w2.heap.size)(J:Qc Qb w2 w3)(V:Kn w3 (Qn Qb w2 w3) z l.debt)
  (B:Qc Qb w3 u) (I:Qh u q #[ptr d,z] 85) (Z:w3.heap.size≤q):Xl u (Qn Qb w u) q l:=by
 have s1:=R.size;have s3:=J.size;have s4:=B.size;have K:=I.lt;have q4:Jg u d r l.pk l.bt l.q:=(U.keep J (fun h=>h) (fun h=>h)).keep B (fun h=>h) (fun h=>h);have E:Bd (Qn Qb w u) u:=fun k c=>((Qt k).1 c).2;refine⟨d,z,?_⟩;refine Zl (G:=fun k=>k=q) (H:=fun k=>(k=d∨k=r)∨Qn Qb w2 w3 k) ⟨I,rfl,fun k e=>e▸K⟩ ?_ ?_ (fun k e=>(Qt k).2 (by omega)) ?_ E
 ·refine Zl (G:=fun k=>k=d∨k=r) (H:=Qn Qb w2 w3) ⟨r,q4,.inl rfl,.inr rfl,fun k e=>by rcases e with e|e<;>omega⟩ (Yv ((Kn.good z l.debt).keep V B (Je.none _)) (fun k c=>by have:=(Qt k).1 c;omega)) ?_ (fun k c=>.inl c) (fun k c=>.inr c) ?_;·intro k e c;have:=(Qt k).1 c;rcases e with e|e<;>omega
  ·intro k c;rcases c with(e|e)|c;·omega
   ·omega
   ·have:=(Qt k).1 c;omega
 ·rintro k rfl((e|e)|c);·omega
  ·omega
  ·have:=(Qt k).1 c;omega
 ·intro k c;rcases c with(e|e)|c;·exact(Qt k).2 (by omega)
  ·exact(Qt k).2 (by omega)
  ·have:=(Qt k).1 c;exact(Qt k).2 (by omega)
end
section
variable{A:SAd}{w w1 w2:World}{F:Fp}{b:Nat}{s:Qg}{N:Nat}
theorem Kn.ptr{w:World}{F:Fp}{v:Value}{o:Option Jq}(h:Kn w F v o):∃c,v=.pointer c:=by
 cases o with
 |none=>exact⟨none,h.1⟩
 |some d=>obtain⟨b,rfl,_⟩:=h;exact⟨_,rfl⟩
theorem Qdw(h:Qs w F b s)(ok:X6 N s)(c:Xm):
  Cl 27 #[ptr b,spV c] w fun e w'=>e=.returned (.int .i64 (s.addE c))∧Qs w' (Qn F w w') b (s.add c)∧Qc F w w':=by
 obtain⟨A,h⟩:=h;have R:=(Qj.obj A).bd h;obtain⟨W,hW⟩:=Zx (w.alloc (.cells #[.int .i64 c.id,.int .i64 c.par,.bool c.leaf,.int .u64 (c.real.f:Int),.int .u64 (c.real.l:Int),.int .u64 (c.real.r:Int),.int .u64 (c.share.f:Int),.int .u64 (c.share.l:Int),.int .u64 (c.share.r:Int),.int .u64 (c.upper.f:Int),.int .u64 (c.upper.l:Int),.int .u64 (c.upper.r:Int),.int .i64 c.pk,.int .i64 c.bt] 40));have S0:Hid (J0 W w.heap.size c):=O (by rw[hW];exact J0.new w c);have C0:Hid (Qc Qb w W):=O (by rw[hW];exact(Qc.refl _ _).alloc _);have hP:=(Qj.obj A).keep h C0.out (Je.none F);have HN:=O (Vl hP ok.most.1);have NF:=O (show¬F w.heap.size from fun hk=>by have:=R _ hk;omega);obtain⟨a0,a1,a2,a3,a4⟩:=Ys hP.drew.blk;obtain⟨g0,g1,g2,g3,g4,g5,g6,g7,g8,g9,K,J,u,k⟩:=(show J0 W.drew w.heap.size c from S0.out.keep (Qc.refl Qb W).drew).cells;have z:Bd F W:=R.later C0.out;have V:Hid (∀w' t,Qs w' (Qn F W w') b t→Qc F W w'→Qs w' (Qn F w w') b t∧Qc F w w'):=O (fun w' t h1 h2=>by
  have cc:Qc F w w':=C0.out.none.trans' h2;exact⟨Qs.obj.more h1 (Yl C0.out.size) (R.ext cc),cc⟩)
 have a9:=O (show w.heap.size<W.heap.size from Qh.lt S0.out);have HT:Hid (Cl 68 #[ptr A.tb,spV c] W.drew fun e w'=>e=.returned (.int .i64 (s.addE c))∧Qj A w' (Qn F W w') b {s with tree:=s.tree.add c}∧Qc F W w'):=O (by
  obtain⟨G,hT,_,U⟩:=hP.drew.treeOf;refine(Qu5 hT ok.tree c).mono ?_;rintro e w2⟨rfl,bd,Z⟩;obtain⟨m1,m2⟩:=U w2 _ bd Z;exact⟨rfl,m1,m2.undrew⟩)
 by_cases h0:s.addE c=0
 ·have aa:s.tree.addE c=0:=h0;obtain⟨q,hq,aj,ba,av,i1,_⟩:=ok.mt.add ok.tree aa;have may:=(Vt aa).1;have B:=ok.leaf_none (Vt aa).2.2.1;have au:=(Qhe may).1;have af:Hid (∀w2,Qj A w2 (Qn F W w2) b {s with tree:=s.tree.add c}→Qc F W w2→Cl 69 #[ptr A.pb,spV c] w2.drew fun e w'=>e=.returned (.bool true)∧Qj A w' (Qn F W w') b {s with tree:=s.tree.add c,pick:=s.pick.put c}∧Qc F W w'∧Qc (Qn F W w2) w2 w'):=O (by
   intro w2 h2 Z;obtain⟨G,⟨AP,ax⟩,_,U⟩:=h2.drew.pickOf;refine(Quc ax c i1 av hq aj (by omega)).mono ?_;rintro e w3⟨rfl,ay,c3⟩;obtain⟨m1,m2⟩:=U w3 _ ay c3;obtain⟨n1,n2⟩:=(Qj.obj A).two (w1:=w2) m1 z Z m2.undrew;exact⟨rfl,n1,n2,m2.undrew⟩)
  have am:=O (show c.leaf=false→s.add c={s with tree:=s.tree.add c,pick:=s.pick.put c}from fun hl=>by unfold Qg.add;rw[if_pos h0,hl];rfl);have ab:=O (show c.leaf=true→s.add c={s with tree:=s.tree.add c,pick:=s.pick.put c,leaves:=s.leaves++[⟨c.id,c.pk.toNat,c.bt.toNat,[],Jn c.real⟩]}from fun hl=>by unfold Qg.add;rw[if_pos h0,hl];rfl);have ac:=O (show c.leaf=true→∃pk bt:Nat,c.pk=(pk:Int)∧c.bt=(bt:Int)∧1≤pk∧pk≤4096∧1≤bt∧bt≤16777216 from fun hl=>by
   obtain⟨k1,k2,k3,k4⟩:=Qhf may hl;exact⟨c.pk.toNat,c.bt.toNat,by omega,by omega,by omega,by omega,by omega,by omega⟩)
  have ae:Hid (∀w3 w4 E pk bt pv,Qj A w3 (Qn F W w3) b {s with tree:=s.tree.add c,pick:=s.pick.put c}→Qc F W w3→Jg w4 (w3.heap.size+1) w3.heap.size pk bt []→Qc Qb w3 w4→Kn E (Qn Qb w4 E) (.pointer pv) (Jn c.real)→Qc Qb w4 E→w3.heap.size+1<w4.heap.size→
    ∃w6,(Instr.mapUpdate 75 (.map (some A.m)) (.int .i64 c.id) (.pointer (some ⟨E.heap.size,0,none⟩))).run prog (E.alloc (.cells #[ptr (w3.heap.size+1),.pointer pv] 85))=.ok () w6∧
     Qs w6 (Qn F W w6) b {s with tree:=s.tree.add c,pick:=s.pick.put c,leaves:=s.leaves++[⟨c.id,pk,bt,[],Jn c.real⟩]}∧Qc F W w6):=O (by
   intro w3 w4 E pk bt pv h3 c3 hQ a8 hD al Jl;have ar:Qc Qb E (E.alloc (.cells #[ptr (w3.heap.size+1),.pointer pv] 85)):=(Qc.refl _ _).alloc _;have a7:Qh (E.alloc (.cells #[ptr (w3.heap.size+1),.pointer pv] 85)) E.heap.size #[ptr (w3.heap.size+1),.pointer pv] 85:=Qh.new _ _ _;generalize E.alloc (.cells #[ptr (w3.heap.size+1),.pointer pv] 85)=be at*;have hL:=Xl.made (w:=w3) (w1:=w3) (l:=⟨c.id,pk,bt,[],Jn c.real⟩) (Qc.refl _ _) hQ ⟨by omega,Jl⟩ ⟨by omega,by omega⟩ al hD ar a7 (Nat.le_refl _);obtain⟨w6,r6,h6,c6⟩:=h3.newLeaf (l:=⟨c.id,pk,bt,[],Jn c.real⟩) B ((a8.trans' al).trans' ar) hL;obtain⟨n1,n2⟩:=(Qj.obj _).two h6 z c3 c6;exact⟨w6,r6,⟨_,n1⟩,n2⟩)
  have a5:=O (fun w=>Qnf c.real au w);rw[h0]at HT;have bf:=O R;have E0:=O h0;rw[h0];unfold spV ptr cV at*;clear h ok hP aa hq aj ba av i1 may B au R z h0;go_enter func27,ntmps27;go_wp2_with fail;rw[←hW];clear hW;refine HN.out.mono ?_;rintro e w1⟨rfl,rfl⟩;go_wp2_with fail;refine Qi [(0,0),(0,1),(0,2),(0,3),(0,4),(2,5),(2,6)] (by kernel_rfl) (by kernel_rfl) ?_ ?_;·exact fun _ _ _ _ _ h=>h
  simp only[Zs,Zf,Ze,Zd];iterate 5 (refine Zz (by kernel_rfl) (by go_simp;try with_reducible rfl) ?_)
  clear a0 a1 a2 a3 a4 g0 g1 g2 g3 g4 g5 g6 g7 g8 g9 K J u k;refine Jj ?_;go_wp2_with fail;refine HT.out.mono ?_;rintro e w2⟨rfl,h2,Z⟩;have H2:=O h2;have C2:=O Z;have S2:=O (show J0 w2 w.heap.size c from Z.blk S0.out NF.out);clear h2 Z;go_wp2_with fail;refine Jj ?_;go_wp2_with fail;refine Zu ?_;go_wp2_with fail;obtain⟨a0,a1,a2,a3,a4⟩:=Ys H2.out.drew.blk;obtain⟨g0,g1,g2,g3,g4,g5,g6,g7,g8,g9,K,J,u,k⟩:=(show J0 w2.drew w.heap.size c from S2.out.keep (Qc.refl Qb w2).drew).cells;unfold ptr at*;refine Qi [(0,0),(0,1),(0,2),(0,3),(0,4),(2,5)] (by kernel_rfl) (by kernel_rfl) ?_ ?_;·exact fun _ _ _ _ _ h=>h
  simp only[Zs,Zf,Ze,Zd];iterate 5 (refine Zz (by kernel_rfl) (by go_simp;try with_reducible rfl) ?_)
  clear a0 a1 a2 a3 a4 g0 g1 g2 g3 g4 g5 g6 g7 g8 g9 K J u k;refine Jj ?_;go_wp2_with fail;refine(af.out w2 H2.out C2.out).mono ?_;rintro e w3⟨rfl,h3,c3,ak⟩;have H3:=O h3;have C3:=O c3;have S3:=O (show J0 w3 w.heap.size c from ak.blk S2.out (fun hk=>hk.elim NF.out (fun hk=>by
   have h1:=a9.out;omega)))
  clear h3 c3 ak;go_wp2_with fail;refine Zu ?_;have l2:=(show J0 w3 w.heap.size c from S3.out).cells.2.2.1;cases d:c.leaf with
  |false=> have I:=O (show Qs w3 (Qn F w w3) b (s.add c)∧Qc F w w3 from V.out w3 _ (by rw[am.out d];exact⟨A,H3.out⟩) C3.out);rw[d]at l2;clear d af ae;go_wp2_with fail;go_ret;exact⟨rfl,I.out⟩
  |true=>
   obtain⟨pk,bt,ai,an,p1,p2,p3,p4⟩:=ac.out d;have EQ:=O (ab.out d);have HQ:=O (fun w=>Qyr pk bt w p1 p2 p3 p4);rw[d]at l2;have ah:=O (show c.pk.toNat=pk∧c.bt.toNat=bt from⟨by omega,by omega⟩);have ao:=O (And.intro ai an);clear d af p1 p2 p3 p4 ac am ab ai an;go_wp2_with fail;clear l2;obtain⟨a0,a1,a2,a3,a4⟩:=Ys H3.out.drew.blk;obtain⟨g0,g1,g2,g3,g4,g5,g6,g7,g8,g9,K,J,u,k⟩:=(show J0 w3.drew w.heap.size c from S3.out.keep (Qc.refl Qb w3).drew).cells;rw[ao.out.1]at u;rw[ao.out.2]at k;unfold ptr at*;refine Z9 [(1,0),(1,1),(1,2),(1,3),(1,4),(1,5),(0,6),(0,7),(0,8),(0,9),(1,11),(1,12),(2,10),(2,13),(0,14),(2,15),(3,16)] (fun wv=>Qc (Qb) (w3) wv) (by kernel_rfl) (by kernel_rfl) ?_ (by(repeat' (first|(with_reducible first|exact Zg _ _|assumption|refine Zh ?_ _|refine Zi ?_ _|refine Zj ?_ |refine Zk ?_ _ ?_ |(apply Or.inl;rfl))|(apply Or.inl;simp;done)|(apply Or.inr;simp;first|done|omega)))) ?_;·exact fun _ _ _ _ _ h=>h
   simp only[Zs,Zf,Ze,Zd];iterate 3 (refine Q4 (by kernel_rfl) (fun wv hv=>by go_simp;try with_reducible rfl) ?_;try simp only[Act.put,Za,Zc,Zb])
   iterate 1 (refine Q4 (by kernel_rfl) (fun wv hv=>by(obtain⟨z0,z1,z2,z3,z4⟩:=Ys (hv.blk H3.out.blk (fun h=>h)));go_simp;try with_reducible rfl) ?_;try simp only[Act.put,Za,Zc,Zb])
   (refine Q4 (by kernel_rfl) (fun wv hv=>by go_simp;try with_reducible rfl) ?_;try simp only[Act.put,Za,Zc,Zb]);iterate 1 (refine Q4 (by kernel_rfl) (fun wv hv=>by(obtain⟨z0,z1,z2,z3,z4,z5,z6,z7,z8,z9,aw,bb,bc,az⟩:=(show J0 wv w.heap.size c from hv.blk S3.out (fun h=>h)).cells);go_simp;try with_reducible rfl) ?_;try simp only[Act.put,Za,Zc,Zb])
   iterate 4 (refine Jr (by kernel_rfl) (by go_simp;try with_reducible rfl) ?_)
   (refine Q4 (by kernel_rfl) (fun wv hv=>by go_simp;try with_reducible rfl) ?_;try simp only[Act.put,Za,Zc,Zb]);iterate 1 (refine Q4 (by kernel_rfl) (fun wv hv=>by(obtain⟨z0,z1,z2,z3,z4,z5,z6,z7,z8,z9,aw,bb,bc,az⟩:=(show J0 wv w.heap.size c from hv.blk S3.out (fun h=>h)).cells);go_simp;try with_reducible rfl) ?_;try simp only[Act.put,Za,Zc,Zb])
   clear a0 a1 a2 a3 a4 g0 g1 g2 g3 g4 g5 g6 g7 g8 g9 K J u k;refine Yc ?_;go_wp2_with fail;refine(HQ.out _).mono ?_;rintro e w4⟨rfl,aq,c4⟩;have C4:=O c4.undrew;have ap:=O (show Jg w4 (w3.heap.size+1) w3.heap.size pk bt []from aq);clear aq c4;go_wp2_with fail;refine⟨C4.out,?_⟩;refine Yc ?_;go_wp2_with fail;refine(a5.out _).mono ?_;rintro e E⟨dv,rfl,ag,c5⟩;obtain⟨pv,rfl⟩:=ag.ptr;have C5:=O (C4.out.trans' c5);obtain⟨w6,r6,h6,c6⟩:=ae.out w3 w4 E pk bt pv H3.out C3.out ap.out C4.out ag c5 ap.out.lt.1;have I:=O (V.out w6 _ h6 c6);clear ag c5 h6 c6 ae;go_wp2_with fail;refine⟨C5.out,?_⟩;refine Jr (by kernel_rfl) (by go_simp;try with_reducible rfl) ?_;refine Yc ?_;go_wp2_with fail;refine⟨C5.out.alloc _,?_⟩;refine V5 ?_;go_wp2_with fail;refine K8 ?_;clear r6;go_wp2;go_ret;refine⟨rfl,?_,I.out.2⟩;rw[EQ.out,ah.out.1,ah.out.2];exact I.out.1
 ·have e1:s.tree.add c=s.tree:=Qoq h0;have e2:s.add c=s:=Qli h0;have hd:decide (s.addE c=0)=false:=by simpa using h0
  have a6:(s.addE c==0)=false:=by simpa using h0
  rw[e2];rw[e1]at HT;generalize s.addE c=er at HT hd a6⊢;unfold spV ptr at*;clear h ok hP e1 e2 h0 R z;go_enter func27,ntmps27;go_wp2_with fail;rw[←hW];clear hW;refine HN.out.mono ?_;rintro e w1⟨rfl,rfl⟩;go_wp2_with fail;refine Qi [(0,0),(0,1),(0,2),(0,3),(0,4),(2,5),(2,6)] (by kernel_rfl) (by kernel_rfl) ?_ ?_;·exact fun _ _ _ _ _ h=>h
  simp only[Zs,Zf,Ze,Zd];iterate 5 (refine Zz (by kernel_rfl) (by go_simp;try with_reducible rfl) ?_)
  clear a0 a1 a2 a3 a4 g0 g1 g2 g3 g4 g5 g6 g7 g8 g9 K J u k;refine Jj ?_;go_wp2_with fail;refine HT.out.mono ?_;rintro e w2⟨rfl,h2,Z⟩;have I:=O (V.out w2 s ⟨A,h2⟩ Z);clear h2 Z;go_wp2_with fail;refine Jj ?_;go_wp2_with fail;refine Zu ?_;go_wp2;go_ret;exact⟨rfl,I.out⟩
end
section
variable{A:SAd}{w w1 w2:World}{F:Fp}{b a:Nat}{s:Qg}{N:Nat}{l:Qy}
theorem Qlt(h:Qs w F b s)(ok:X6 N s)(c:Xm):
  Cl 51 #[ptr b,spV c] w fun e w'=>e=.returned (.int .i64 (s.changeE c))∧Qs w' (Qn F w w') b (s.change c)∧Qc F w w':=by
 obtain⟨A,h⟩:=h;have aj:=(Qj.obj A).bd h;obtain⟨W,hW⟩:=Zx (w.alloc (.cells #[.int .i64 c.id,.int .i64 c.par,.bool c.leaf,.int .u64 (c.real.f:Int),.int .u64 (c.real.l:Int),.int .u64 (c.real.r:Int),.int .u64 (c.share.f:Int),.int .u64 (c.share.l:Int),.int .u64 (c.share.r:Int),.int .u64 (c.upper.f:Int),.int .u64 (c.upper.l:Int),.int .u64 (c.upper.r:Int),.int .i64 c.pk,.int .i64 c.bt] 40));have S0:Hid (J0 W w.heap.size c):=O (by rw[hW];exact J0.new w c);have C0:Hid (Qc Qb w W):=O (by rw[hW];exact(Qc.refl _ _).alloc _);have hP:=(Qj.obj A).keep h C0.out (Je.none F);have HN:=O (Vl hP ok.most.1);have NF:=O (show¬F w.heap.size from fun hk=>by have:=aj _ hk;omega);have af:Bd F W:=aj.later C0.out;have ba:=O (show w.heap.size<W.heap.size from Qh.lt S0.out);have ag:=O (fun w'(c:Qc Qb W w')=>(Qj.obj A).keep hP c (Je.none F));have d:Hid (∀w' t,Qs w' (Qn F W w') b t→Qc F W w'→Qs w' (Qn F w w') b t∧Qc F w w'):=O (fun w' t h1 h2=>by
  have cc:Qc F w w':=C0.out.none.trans' h2;exact⟨Qs.obj.more h1 (Yl C0.out.size) (aj.ext cc),cc⟩)
 have R:Hid (∀w',Qc Qb W w'→s.change c=s→Qs w' (Qn F w w') b (s.change c)∧Qc F w w'):=O (fun w' cc e=>by
  rw[e];obtain⟨p1,p2⟩:=Qs.obj.same ⟨A,hP⟩ cc;exact d.out w' _ p1 p2)
 have HG:Hid (∀w',Qc Qb W w'→Cl 13 #[ptr A.tb,.int .i64 c.id] w' fun e ac=>e=.returned (.tuple #[.agg (spA (s.tree.get c.id).sp),.bool (s.tree.at c.id).isSome])∧Qc Qb w' ac):=O (fun w' cc=>by
  obtain⟨G,hT,_⟩:=(ag.out w' cc).treeOf;exact Gh hT c.id)
 have ap:Hid (∀w',Qc Qb W w'→Cl 108 #[ptr A.tb,spV c] w' fun e ac=>e=.returned (.int .i64 (s.tree.changeE c))∧Qj A ac (Qn F W ac) b {s with tree:=s.tree.change c}∧Qc F W ac):=O (fun w' cc=>by
  obtain⟨G,hT,_,B⟩:=(ag.out w' cc).treeOf;refine(Qlr hT ok.tree c).mono ?_;rintro e w2⟨rfl,bc,c2⟩;obtain⟨m1,m2⟩:=B w2 _ bc c2;have m3:Qc F W w2:=cc.none.trans' m2;exact⟨rfl,(Qj.obj A).more m1 (Yl cc.size) (af.ext m3),m3⟩)
 have K:Hid (s.changeE c=0→(∀w2,Qj A w2 (Qn F W w2) b {s with tree:=s.tree.change c}→Qc F W w2→Cl 109 #[ptr A.pb,spV c] w2.drew fun e w3=>e=.returned (.bool true)∧Qj A w3 (Qn F W w3) b {s with tree:=s.tree.change c,pick:=s.pick.renew c}∧Qc F W w3∧Qc (Qn F W w2) w2 w3)∧
   (∀w3,Cl 71 #[cV c.real] w3 fun e I=>∃pv,e=.returned (.pointer pv)∧Kn I (Qn Qb w3 I) (.pointer pv) (Jn c.real)∧Qc Qb w3 I)∧
   (s.leaf c.id=none→s.change c={s with tree:=s.tree.change c,pick:=s.pick.renew c})∧
   (∀l w3,s.leaf c.id=some l→Qj A w3 (Qn F W w3) b {s with tree:=s.tree.change c,pick:=s.pick.renew c}→Qc F W w3→∃qb dv,Qh w3 (A.ad c.id) #[ptr qb,dv] 85∧
    ∀I w5 z ae,Qc Qb w3 I→Qc Qb I w5→Kn w5 (Qn Qb I w5) ae (Jn c.real)→Qh z (A.ad c.id) #[ptr qb,ae] 85→Qc (fun k=>k=A.ad c.id) w5 z→Qs z (Qn F W z) b (s.change c)∧Qc F W z)):=O (fun h0=>by
  obtain⟨hm,aw⟩:=Gj h0;have ha:=ok.asleep hm;obtain⟨x,q,hx,i1,hq,mt,dd⟩:=ok.mt.renew ok.tree ok.pick aw ha;obtain⟨c1,bd,ao⟩:=Oj aw;have bb:=(Qhe ao).1;have E:s.change c={s with tree:=s.tree.change c,pick:=s.pick.renew c,leaves:=s.leaves.map fun l=>if l.id=c.id then{l with debt:=Jn c.real}else l}:=by unfold Qg.change;rw[if_pos h0]
  refine⟨fun w2 h2 c2=>?_,fun w3=>?_,fun hl=>?_,fun l w3 hl h3 c3=>?_⟩;·obtain⟨G,⟨AP,ax⟩,_,B⟩:=h2.drew.pickOf;refine(Qnz ax ok.pick c i1 hx ha hq).mono ?_;rintro e w3⟨rfl,ay,c3⟩;obtain⟨m1,m2⟩:=B w3 _ ay c3;obtain⟨n1,n2⟩:=(Qj.obj A).two (w1:=w2) m1 af c2 m2.undrew;exact⟨rfl,n1,n2,m2.undrew⟩
  ·refine(Qnf c.real bb w3).mono ?_;rintro e I⟨v,rfl,hD,c4⟩;obtain⟨pv,rfl⟩:=Kn.ptr (w:=I) (F:=Qn Qb w3 I) (o:=Jn c.real) hD;exact⟨pv,rfl,hD,c4⟩
  ·rw[E,Qot hl]
  ·obtain⟨G,hL,hG,B⟩:=h3.leafOf (i:=c.id) (l:=l) hl;obtain⟨qb,dv,hB,k⟩:=hL.owe;refine⟨qb,dv,hB,fun I w5 z ae aq az hD a8 ai=>?_⟩;obtain⟨p1,p2⟩:=k w5 z ae (Jn c.real) (aq.trans' az) ((Kn.good ae _).more hD (Yl aq.size) (fun k hk=>((Qt k).1 hk).2)) a8 ai;obtain⟨q1,q2⟩:=B z {l with debt:=Jn c.real} (Yh (show Vp Qy.id c.id s.leaves=some l from hl)).2 p1 p2;obtain⟨r1,r2⟩:=(Qj.obj A).two q1 af c3 q2;refine⟨?_,r2⟩;rw[E];have e:=Qls (s:={s with tree:=s.tree.change c,pick:=s.pick.renew c}) hP.nodup (i:=c.id) (l:=l) hl (Jn c.real);rw[e]at r1;exact⟨A,r1⟩)
 have a9:=O (fun w' t(h':Qj A w' (Qn F W w') b t)=>h'.drew.look1 c.id);have J:=O (fun w'(cc:Qc Qb W w')=>Qhu (ag.out w' cc) ok c.id);have HA:=O hP.blk;have HE:=O (show s.changeE c=if(s.tree.at c.id).isNone then 81 else if 0<s.many c.id then 230 else s.tree.changeE c from rfl);have NO:=O (fun(h0:s.changeE c≠0)=>Qah h0);obtain⟨is,ak⟩:=Zx ((s.tree.at c.id).isSome);rw[←ak]at HG;have am:=O ak;clear ak;obtain⟨gs,ar⟩:=Zx ((s.tree.get c.id).sp);rw[←ar]at HG;clear ar;unfold spV ptr at*;clear h aj;go_enter func51,ntmps51;go_wp2_with fail;rw[←hW];clear hW;refine HN.out.mono ?_;rintro e w1⟨rfl,rfl⟩;go_wp2_with fail;go_cut [5,6] (fun s5 s6 wz=>s6=.bool is∧Qc Qb W wz)
 case first=>
  refine Lb (.lookp 0 (.lookp 1 (.lookp 2 (.lookp 3 (.lookp 4 (.lookp 5 (.fork 6 (.lookp 7 (.lookp 8 (.lookp 9 (.walk 10 (.walk 11 (.walk 12 .nil)))))) 10 (.walk 6 (.look 7 (.look 8 (.lookp 9 (.walk 11 (.walk 12 .nil))))))))))))) (fun wv=>Qc (Qb) (W) wv) (by kernel_rfl) (by kernel_rfl) ?_ (by(repeat' (first|(with_reducible first|exact Zg _ _|assumption|refine Zh ?_ _|refine Zi ?_ _|refine Zj ?_ |refine Zk ?_ _ ?_ |(apply Or.inl;rfl))|(apply Or.inl;simp;done)|(apply Or.inr;simp;first|done|omega)))) ?_;·exact fun _ _ _ _ _ h=>h
  simp only[U9,Zf,Ze,Zd];iterate 3 (first|(refine Lk (by kernel_rfl) (by go_simp;try with_reducible rfl) ?_)|(refine Vc (by kernel_rfl) (fun wv hv=>by go_simp;try with_reducible rfl) ?_);try simp only[Act.put,Za,Zc,Zb])
  iterate 1 (refine Vc (by kernel_rfl) (fun wv hv=>by(obtain⟨z0,z1,z2,z3,z4⟩:=Ys (hv.blk HA.out (fun h=>h)));go_simp;try with_reducible rfl) ?_;try simp only[Act.put,Za,Zc,Zb])
  iterate 1 (first|(refine Lk (by kernel_rfl) (by go_simp;try with_reducible rfl) ?_)|(refine Vc (by kernel_rfl) (fun wv hv=>by go_simp;try with_reducible rfl) ?_);try simp only[Act.put,Za,Zc,Zb])
  iterate 1 (refine Vc (by kernel_rfl) (fun wv hv=>by(obtain⟨z0,_⟩:=(show J0 wv w.heap.size c from hv.blk S0.out (fun h=>h)).cells);go_simp;try with_reducible rfl) ?_;try simp only[Act.put,Za,Zc,Zb])
  refine Qk8 ?_ ?_
  ·go_wp2_with fail;refine(HG.out _ (Qc.refl Qb W).drew).mono ?_;rintro e w2⟨rfl,c2⟩;have C2:=O ((Qc.refl Qb W).drew.trans' c2);clear c2;go_wp2_with fail;refine⟨C2.out,?_⟩;iterate 3 (first|(refine Lk (by kernel_rfl) (by go_simp;try with_reducible rfl) ?_)|(refine Vc (by kernel_rfl) (fun wv hv=>by go_simp;try with_reducible rfl) ?_);try simp only[Act.put,Za,Zc,Zb])
   refine Uk ?_;go_wp2_with fail;refine⟨C2.out.alloc _,?_⟩;obtain⟨W3,s3,al,C3⟩:=Z1 (P:=prog) (vs:=spA gs) (Qh.new w2 #[.int .i64 0,.int .i64 0,.bool false,.int .u64 0,.int .u64 0,.int .u64 0,.int .u64 0,.int .u64 0,.int .u64 0,.int .u64 0,.int .u64 0,.int .u64 0,.int .i64 0,.int .i64 0] 40) rfl (Lc _);have D3:=O (show Qc Qb W W3 from(C2.out.alloc _).trans C3 (fun k e=>.inr (by have:=C2.out.size;omega)));clear al C3;refine Uk ?_;go_wp2_with fail;refine⟨D3.out,?_⟩;refine Uk ?_;go_wp2_with fail;refine⟨D3.out,?_⟩;refine Qdi ?_;clear s3;go_wp2_with fail;go_meet;exact⟨rfl,D3.out⟩
  ·go_wp2_with fail;refine⟨((Qc.refl Qb W).drew.alloc _),?_⟩;have CA:=O ((Qc.refl Qb W).drew.alloc (.cells #[.int .i64 0,.int .i64 0,.bool false,.int .u64 0,.int .u64 0,.int .u64 0,.int .u64 0,.int .u64 0,.int .u64 0,.int .u64 0,.int .u64 0,.int .u64 0,.int .i64 0,.int .i64 0] 40));have BA:=O (show Qh (W.drew.alloc (.cells #[.int .i64 0,.int .i64 0,.bool false,.int .u64 0,.int .u64 0,.int .u64 0,.int .u64 0,.int .u64 0,.int .u64 0,.int .u64 0,.int .u64 0,.int .u64 0,.int .i64 0,.int .i64 0] 40)) W.heap.size #[.int .i64 0,.int .i64 0,.bool false,.int .u64 0,.int .u64 0,.int .u64 0,.int .u64 0,.int .u64 0,.int .u64 0,.int .u64 0,.int .u64 0,.int .u64 0,.int .i64 0,.int .i64 0] 40 from Qh.new W.drew _ _);refine Uk ?_;go_wp2_with fail;refine(HG.out _ CA.out).mono ?_;rintro e w2⟨rfl,c2⟩;obtain⟨W3,s3,al,C3⟩:=Z1 (P:=prog) (vs:=spA gs) (c2.blk BA.out (fun h=>h)) rfl (Lc _);have C2:=O (CA.out.trans' c2);have D3:=O (show Qc Qb W W3 from C2.out.trans C3 (fun k e=>.inr (by omega)));clear al C3 c2;go_wp2_with fail;refine⟨C2.out,?_⟩;iterate 3 (first|(refine Lk (by kernel_rfl) (by go_simp;try with_reducible rfl) ?_)|(refine Vc (by kernel_rfl) (fun wv hv=>by go_simp;try with_reducible rfl) ?_);try simp only[Act.put,Za,Zc,Zb])
   refine Uk ?_;go_wp2_with fail;refine⟨D3.out,?_⟩;refine Uk ?_;go_wp2_with fail;refine⟨D3.out,?_⟩;refine Qdi ?_;clear s3;go_wp2_with fail;go_meet;exact⟨rfl,D3.out⟩
 case rest=>
  obtain⟨rfl,cW⟩:=hcut;obtain⟨V,hV⟩:=Zx wc;rw[←hV]at cW⊢;clear hV;have CV:=O cW;clear cW;cases is with
  |false=>
   have E:=O (show s.changeE c=81 by
    have h1:=am.out;rw[HE.out,if_pos (by
     cases hc:s.tree.at c.id with
     |none=>rfl
     |some x=>rw[hc]at h1;cases h1)])
   have u:=O (R.out V CV.out (NO.out (by rw[E.out];decide)));clear R d NO HG J;go_wp2_with fail;go_ret;exact⟨by rw[E.out];rfl,u.out⟩
  |true=>
   have HS:=O (show(s.tree.at c.id).isNone=false by
    have h1:=am.out;cases hc:s.tree.at c.id with
    |none=>rw[hc]at h1;cases h1
    |some x=>rfl)
   obtain⟨m,au⟩:=Zx (s.many c.id);rw[←au]at HE J;clear au;obtain⟨g0,_⟩:=(show J0 V w.heap.size c from CV.out.blk S0.out (fun h=>h)).cells;by_cases hm:0<m
   ·have E:=O (show s.changeE c=230 by rw[HE.out,HS.out,if_neg (by decide),if_pos hm]);have dm:decide (0<m)=true:=by simpa using hm
    rw[dm]at J;clear hm dm HE;go_wp2_with fail;refine(J.out V CV.out).mono ?_;rintro e I⟨rfl,c4⟩;have u:=O (R.out I (CV.out.trans' c4) (NO.out (by rw[E.out];decide)));clear c4;go_wp2_with fail;go_ret;exact⟨by rw[E.out];rfl,u.out⟩
   ·have E:=O (show s.changeE c=s.tree.changeE c by rw[HE.out,HS.out,if_neg (by decide),if_neg hm]);have dm:decide (0<m)=false:=by simpa using hm
    rw[dm]at J;clear hm dm HE;go_wp2_with fail;refine(J.out V CV.out).mono ?_;rintro e I⟨rfl,c4⟩;have C4:=O (CV.out.trans' c4);clear c4 g0;go_wp2_with fail;obtain⟨a0,a1,a2,a3,a4⟩:=Ys (C4.out.drew.blk HA.out (fun h=>h));obtain⟨g0,g1,g2,g3,g4,g5,g6,g7,g8,g9,Z,U,ab,aa⟩:=(show J0 I.drew w.heap.size c from C4.out.drew.blk S0.out (fun h=>h)).cells;unfold ptr at*;refine Qi [(0,0),(0,1),(0,2),(0,3),(0,4),(2,5),(2,6)] (by kernel_rfl) (by kernel_rfl) ?_ ?_;·exact fun _ _ _ _ _ h=>h
    simp only[Zs,Zf,Ze,Zd];iterate 5 (refine Zz (by kernel_rfl) (by go_simp;try with_reducible rfl) ?_)
    clear a0 a1 a2 a3 a4 g0 g1 g2 g3 g4 g5 g6 g7 g8 g9 Z U ab aa;refine Jj ?_;go_wp2_with fail;refine(ap.out _ C4.out.drew).mono ?_;rintro e w5⟨rfl,h5,c5⟩;have H5:=O h5;have C5:=O c5;have S5:=O (show J0 w5 w.heap.size c from c5.blk S0.out NF.out);clear h5 c5 ap J HG R;go_wp2_with fail;refine Jj ?_;go_wp2_with fail;refine Zu ?_;by_cases h0:s.tree.changeE c=0
    ·have HT:=O (K.out (E.out.trans h0));have hd:decide (s.tree.changeE c=0)=true:=by simpa using h0
     rw[h0];rw[h0]at hd;have E0:=O (E.out.trans h0);clear h0 K NO hd E;go_wp2_with fail;obtain⟨a0,a1,a2,a3,a4⟩:=Ys H5.out.drew.blk;obtain⟨g0,g1,g2,g3,g4,g5,g6,g7,g8,g9,Z,U,ab,aa⟩:=(show J0 w5.drew w.heap.size c from S5.out.keep (Qc.refl Qb w5).drew).cells;unfold ptr at*;refine Qi [(0,0),(0,1),(0,2),(0,3),(0,4),(2,5)] (by kernel_rfl) (by kernel_rfl) ?_ ?_;·exact fun _ _ _ _ _ h=>h
     simp only[Zs,Zf,Ze,Zd];iterate 5 (refine Zz (by kernel_rfl) (by go_simp;try with_reducible rfl) ?_)
     clear a0 a1 a2 a3 a4 g0 g1 g2 g3 g4 g5 g6 g7 g8 g9 Z U ab aa;refine Jj ?_;go_wp2_with fail;refine(HT.out.1 w5 H5.out C5.out).mono ?_;rintro e z⟨rfl,h6,c6,ai⟩;have H6:=O h6;have C6:=O c6;have S6:=O (show J0 z w.heap.size c from ai.blk S5.out (fun hk=>hk.elim NF.out (fun hk=>by
      have h1:=ba.out;omega)))
     have ah:=O HT.out.2;clear h6 c6 ai HT;go_wp2_with fail;refine Zu ?_;go_wp2_with fail;obtain⟨a0,a1,a2,a3,a4⟩:=Ys H6.out.drew.blk;obtain⟨g0,g1,g2,g3,g4,g5,g6,g7,g8,g9,Z,U,ab,aa⟩:=(show J0 z.drew w.heap.size c from S6.out.keep (Qc.refl Qb z).drew).cells;have lk:=H6.out.drew.look1 c.id;cases hl:s.leaf c.id with
     |none=>
      rw[Qrf (s:={s with tree:=s.tree.change c,pick:=s.pick.renew c}) hl]at lk;have u:=O (d.out z.drew (s.change c) (by rw[ah.out.2.1 hl];exact⟨A,H6.out.drew⟩) C6.out.drew);clear ah hl d;unfold ptr at*;refine Qi [(0,0),(0,1),(0,2),(0,3),(0,4),(0,5),(0,6),(2,7)] (by kernel_rfl) (by kernel_rfl) ?_ ?_;·exact fun _ _ _ _ _ h=>h
      simp only[Zs,Zf,Ze,Zd];iterate 7 (refine Zz (by kernel_rfl) (by go_simp;try with_reducible rfl) ?_)
      clear a0 a1 a2 a3 a4 g0 g1 g2 g3 g4 g5 g6 g7 g8 g9 Z U ab aa lk;refine Jj ?_;go_wp2_with fail;refine Zu ?_;go_wp2_with fail;go_ret;exact⟨by rw[E0.out];rfl,u.out⟩
     |some l=>
      rw[Li (s:={s with tree:=s.tree.change c,pick:=s.pick.renew c}) hl]at lk;obtain⟨qb,dv,an,hk⟩:=ah.out.2.2 l z hl H6.out C6.out;have HK:=O hk;have a5:=O an;have a6:=O ah.out.1;clear ah hl hk an;unfold ptr at*;refine Qi [(0,0),(0,1),(0,2),(0,3),(0,4),(0,5),(0,6),(2,7)] (by kernel_rfl) (by kernel_rfl) ?_ ?_;·exact fun _ _ _ _ _ h=>h
      simp only[Zs,Zf,Ze,Zd];iterate 7 (refine Zz (by kernel_rfl) (by go_simp;try with_reducible rfl) ?_)
      clear a0 a1 a2 a3 a4 lk;refine Jj ?_;go_wp2_with fail;refine Zu ?_;go_wp2_with fail;refine(a6.out z.drew).mono ?_;rintro e w7⟨pv,rfl,hD,c7⟩;have B7:=O (((Qc.refl Qb z).drew.trans' c7).blk a5.out (fun h=>h));obtain⟨y0,y1⟩:=Qz B7.out;have fz:=B7.out.frozen;have u:=O (HK.out z.drew w7 (w7.setCell ⟨A.ad c.id,1,none⟩ (.pointer pv)) (.pointer pv) (Qc.refl Qb z).drew c7 hD (B7.out.set 1 _) ((Qc.refl _ w7).setCell _ (.inl rfl)));have av:=O (d.out _ _ u.out.1 u.out.2);clear hD c7 u HK d g0 g1 g2 g3 g4 g5 g6 g7 g8 g9 Z U ab aa;go_wp2_with fail;go_ret;exact⟨by rw[E0.out];rfl,av.out⟩
    ·have e1:s.tree.change c=s.tree:=Qeo h0;have e2:s.change c=s:=NO.out (by rw[E.out];exact h0);have u:=O (d.out w5 (s.change c) (by rw[e2];have h5:=H5.out;rw[e1]at h5;exact⟨A,h5⟩) C5.out);have hd:decide (s.tree.changeE c=0)=false:=by simpa using h0
     have a7:(s.tree.changeE c==0)=false:=by simpa using h0
     generalize s.tree.changeE c=er at hd a7 E⊢;clear h0 K NO H5 d a9 e1 e2;go_wp2_with fail;go_ret;exact⟨by rw[E.out];rfl,u.out⟩
end
section
variable{A:SAd}{w w1 w2:World}{F:Fp}{b a:Nat}{s:Qg}{N:Nat}{l:Qy}
theorem Qj.openLeaf(h:Qj A w F b s){i:Int}(hl:s.leaf i=some l):∃k d,Qh w (A.ad i) #[ptr k,d] 85∧
  (∃G:Fp,quS k l.pk l.bt l.q w G∧∀w' u,quS k l.pk l.bt u w' (Qn G w w')→Qc G w w'→Qj A w' (Qn F w w') b (s.setLeaf {l with q:=u})∧Qc F w w'∧Qh w' (A.ad i) #[ptr k,d] 85)∧
  (∃G:Fp,Kn w G d l.debt∧∀w' z,Kn w' (Qn G w w') d z→Qc G w w'→Qj A w' (Qn F w w') b (s.setLeaf {l with debt:=z})∧Qc F w w'∧Qh w' (A.ad i) #[ptr k,d] 85):=by
 have hi:=(Yh (show Vp Qy.id i s.leaves=some l from hl)).2;obtain⟨K,U,hK,c⟩:=h.leafOf hl;obtain⟨k,d,B,⟨R,gq,sq,nq,pq⟩,⟨Gd,gd,sd,nd,pd⟩⟩:=U.opn;refine⟨k,d,B,⟨R,gq,fun w' u Z hc=>?_⟩,⟨Gd,gd,fun w' z V hc=>?_⟩⟩;·obtain⟨p1,J⟩:=pq w' u Z hc;obtain⟨I,E⟩:=c w' {l with q:=u} hi p1 J;exact⟨I,E,hc.blk B nq⟩
 ·obtain⟨p1,J⟩:=pd w' z V hc;obtain⟨I,E⟩:=c w' {l with debt:=z} hi p1 J;exact⟨I,E,hc.blk B nd⟩
theorem Eu{l1 l2:Qy}(e:l2.id=l1.id):(s.setLeaf l1).setLeaf l2=s.setLeaf l2:=by
 unfold Qg.setLeaf;simp only[List.map_map,e];congr 1;refine List.map_congr_left fun x c=>?_;dsimp only[Function.comp];by_cases c:x.id=l1.id;·simp[c]
 ·simp[c]
theorem Ui{l1:Qy}{i:Int}(hl:s.leaf i=some l)(e:l1.id=i):(s.setLeaf l1).leaf i=some l1:=by subst e;have:=Qle (key:=Qy.id) (x:=l1) (show Vp Qy.id l1.id s.leaves=some l from hl) l1.id;rw[if_pos rfl]at this;exact this
theorem Qxm{h:Qm}{i:Int}{c:Kk}(hc:h.at i=some c):i∈h.map Kk.id:=List.mem_map.2 ⟨c,(Qm.at_mem hc).1,(Qm.at_mem hc).2⟩
theorem X6.row_len(ok:X6 N s)(q:Ua s.row):s.row.length≤64:=by
 have h1:=q.length_le_of_subset (l₂:=s.tree.map Kk.id) (fun i hi=>by
  obtain⟨⟨x,j,y⟩,z,rfl⟩:=List.mem_map.1 hi;obtain⟨l,d,hl,_⟩:=(ok.row x j y).1 z;obtain⟨k,u,_⟩:=ok.at (show s.leaf j=some l from hl);obtain⟨c,hc,_⟩:=k.sp;rw[u]at hc;exact Qxm hc)
 simp only[List.length_map]at h1;exact Nat.le_trans h1 ok.tree.many
theorem Qj.row_len(h:Qj A w F b s)(ok:X6 N s):s.row.length≤64:=by obtain⟨p,G,_,c⟩:=h.once;exact ok.row_len c.1
theorem Qj.qPush(h:Qj A w F b s){i:Int}(hl:s.leaf i=some l)(p:Z4):∃c z,Qh w (A.ad i) #[ptr c,z] 85∧(∃G:Fp,Kn w G z l.debt)∧
  ∀w1,Qc Qb w w1→Cl 73 #[ptr c,.agg #[.int .u64 p.id,.int .i64 p.cls,.int .i64 p.len,.int .u64 p.at_]] w1 fun e w2=>e=.returned (.int .i64 (Oa l.pk l.bt l.q p))∧
   (Oa l.pk l.bt l.q p≠0→Qc Qb w1 w2)∧
   (Oa l.pk l.bt l.q p=0→Qc F w w2∧Qj A w2 (Qn F w w2) b (s.setLeaf {l with q:=l.q++[p]})∧Qh w2 (A.ad i) #[ptr c,z] 85∧∃r,Jg w2 c r l.pk l.bt (l.q++[p])):=by
 obtain⟨c,z,V,⟨G,K,u⟩,Gd,hd,_⟩:=h.openLeaf hl;refine⟨c,z,V,⟨Gd,hd⟩,fun w1 E=>?_⟩;obtain⟨r,U,Z,g2,g3⟩:=(Dk c l.pk l.bt l.q).keep K E (Je.none _);by_cases h0:Oa l.pk l.bt l.q p=0;·refine(Qxe U p h0).mono ?_;rintro e w2⟨rfl,J,I,d,B⟩;have R:Qc G w w2:=(E.none (F:=G)).trans' (B.sub fun k hk=>by rcases hk with rfl|rfl<;>assumption);have s1:=E.size;have lt:=d.lt;obtain⟨m1,m2,m3⟩:=u w2 (l.q++[p]) ⟨J,d,.inl Z,I.elim (fun e=>.inl (e▸g2)) (fun e=>.inr ⟨by omega,lt.2⟩),((Dk c l.pk l.bt l.q).bd K).ext R⟩ R;exact⟨by rw[h0],fun h=>absurd h0 h,fun _=>⟨m2,m1,m3,J,d⟩⟩
 ·refine(Qxf U p h0).mono ?_;rintro e w2⟨rfl,B⟩;exact⟨rfl,fun _=>B,fun h=>absurd h h0⟩
theorem Qj.noDebt(h:Qj A w F b s){i:Int}(hl:s.leaf i=some l){E:Nat}{k:Value}(B:Qh w (A.ad i) #[ptr E,k] 85)(I:l.debt=none):k=.pointer none:=by obtain⟨u,z,d,_,G,q,_⟩:=h.openLeaf hl;have e:=B.inj d;injection e with e;injection e with e1 c;injection c with c;rw[I]at q;rw[c];exact q.1
theorem Qj.debtStep(h:Qj A w F b s){i:Int}(hl:s.leaf i=some l){E:Nat}{z:Value}(Z:Qh w (A.ad i) #[ptr E,z] 85){d:Jq}(J:l.debt=some d):∃q,z=ptr q∧∃G:Fp,X9 w G q d∧
  ∀w' c,X9 w' (Qn G w w') q c→Qc G w w'→Qj A w' (Qn F w w') b (s.setLeaf {l with debt:=some c})∧Qc F w w'∧Qh w' (A.ad i) #[ptr E,z] 85:=by
 obtain⟨I,U,u,_,G,B,R⟩:=h.openLeaf hl;have e:=Z.inj u;injection e with e;injection e with e1 k;injection e1 with e1;injection e1 with e1;injection e1 with e1 _;injection k with k;subst k;subst e1;rw[J]at B;obtain⟨q,K,hD⟩:=B;subst K;exact⟨q,rfl,G,hD,fun w' c h1 V=>R w' (some c) ⟨q,rfl,h1⟩ V⟩
theorem Qj.wakeDebt(h:Qj A w F b s){i:Int}(hl:s.leaf i=some l){R:Nat}{B:Value}(K:Qh w (A.ad i) #[ptr R,B] 85){d:Jq}(J:l.debt=some d)(hn:d.run.l.length+1<549755813888)(hg:d.got≤Jz)(now:Nat)(hw:now<18446744073709551616)(len:Int):
  ∃q,B=ptr q∧∀w1,Qc Qb w w1→Cl 74 #[ptr q,.int .u64 (now:Int),.int .i64 len] w1 fun e w2=>e=.returned (.tuple #[])∧Qj A w2 (Qn F w w2) b (s.setLeaf {l with debt:=some (d.wake now len)})∧Qc F w w2∧Qh w2 (A.ad i) #[ptr R,B] 85:=by
 obtain⟨q,I,_⟩:=h.debtStep hl K J;refine⟨q,I,fun w1 u=>?_⟩;have h1:=(Qj.obj A).keep h u (Je.none F);obtain⟨q',c,G,U,k⟩:=h1.debtStep hl (u.blk K (fun h=>h)) J;rw[I]at c;injection c with c;injection c with c;injection c with c _;subst c;refine(Qpq U hn hg now hw len).mono ?_;rintro e w2⟨rfl,z,c2⟩;obtain⟨Z,m2,V⟩:=k w2 _ z c2;have E:Qc F w w2:=u.none.trans' m2;exact⟨rfl,(Qj.obj A).more Z (Yl u.size) (((Qj.obj A).bd h).ext E),E,V⟩
theorem Qj.noteDebt(h:Qj A w F b s){i:Int}(hl:s.leaf i=some l){V q:Nat}(R:Qh w (A.ad i) #[ptr V,ptr q] 85){d:Jq}(Z:l.debt=some d)(hr:s.row.length≤64):
  ∀w1,Qc Qb w w1→Cl 75 #[ptr A.rb,.int .i64 i,ptr q] w1 fun e w2=>e=.returned (.tuple #[])∧Qj A w2 (Qn F w w2) b {s with row:=Hb s.row i d}∧Qc F w w2:=by
 intro w1 u;have h1:=(Qj.obj A).keep h u (Je.none F);obtain⟨q',c,G,E,_⟩:=h1.debtStep hl (u.blk R (fun h=>h)) Z;injection c with c;injection c with c;injection c with c _;subst c;obtain⟨H,I,_,k⟩:=h1.rowOf;refine(Qqd I E (by omega) i).mono ?_;rintro e w2⟨rfl,z,K⟩;obtain⟨J,U⟩:=k w2 _ z K;have B:Qc F w w2:=u.none.trans' U;exact⟨rfl,(Qj.obj A).more J (Yl u.size) (((Qj.obj A).bd h).ext B),B⟩
theorem Qj.pickWake(h:Qj A w F b s){dep:Int→Nat}(ok:Qp dep N s.pick)(E:N<549755813000)(i:Int)(now:Nat)(c:now<18446744073709551616):
  ∀w1,Qc Qb w w1→Cl 76 #[ptr A.pb,.int .i64 i,.int .u64 (now:Int)] w1 fun e w2=>e=.returned (.tuple #[])∧Qj A w2 (Qn F w w2) b {s with pick:=s.pick.wake i now}∧Qc F w w2:=by
 intro w1 k;have h1:=(Qj.obj A).keep h k (Je.none F);obtain⟨H,⟨J,z⟩,_,d⟩:=h1.pickOf;refine(Qqs z ok E i now c).mono ?_;rintro e w2⟨rfl,q,I⟩;obtain⟨B,K⟩:=d w2 _ ⟨J,q⟩ I;have u:Qc F w w2:=k.none.trans' K;exact⟨rfl,(Qj.obj A).more B (Yl k.size) (((Qj.obj A).bd h).ext u),u⟩
end
section
variable{A:SAd}{w w1 w2:World}{F:Fp}{b a:Nat}{s:Qg}{N:Nat}{l:Qy}
theorem Qrs{p:Z4}(hc:s.tree.at p.cls=none):s.pushE p=81:=by unfold Qg.pushE;rw[hc]
theorem Qou{p:Z4}{c:Kk}(hc:s.tree.at p.cls=some c)(hl:c.sp.leaf=false):s.pushE p=162:=by unfold Qg.pushE;rw[hc];simp[hl]
theorem Qrt{p:Z4}{c:Kk}(hc:s.tree.at p.cls=some c)(d:c.sp.leaf=true)(hl:s.leaf p.cls=some l)(u:s.most<65536):s.pushE p=if Gb p.len s.most≠0 then Gb p.len s.most else Oa l.pk l.bt l.q p:=by
 unfold Qg.pushE;rw[hc];simp only[d,hl];rw[if_neg (by simp)];split;·rfl
 ·rename_i h1;have k:¬(p.len<1∨65535<p.len):=by
   unfold Gb at h1;intro q;apply h1;split;·decide
   ·rw[if_pos (by omega)];decide
  unfold Oa;rw[if_neg k]
theorem Qhx(h:Qs w F b s)(ok:X6 N s)(hN:N<549755813000)(p:Z4)(now:Nat)(aj:now<18446744073709551616):
  Cl 28 #[ptr b,.agg #[.int .u64 (p.id:Int),.int .i64 p.cls,.int .i64 p.len,.int .u64 (p.at_:Int)],.int .u64 (now:Int)] w fun e w'=>e=.returned (.int .i64 (s.pushE p))∧Qs w' (Qn F w w') b (s.push p now)∧Qc F w w':=by
 obtain⟨A,h⟩:=h;have ai:=(Qj.obj A).bd h;obtain⟨W,hW⟩:=Zx (w.alloc (.cells #[.int .u64 (p.id:Int),.int .i64 p.cls,.int .i64 p.len,.int .u64 (p.at_:Int)] 34));have S0:Hid (Qh W w.heap.size #[.int .u64 (p.id:Int),.int .i64 p.cls,.int .i64 p.len,.int .u64 (p.at_:Int)] 34):=O (by rw[hW];exact Qh.new _ _ _);have C0:Hid (Qc Qb w W):=O (by rw[hW];exact(Qc.refl _ _).alloc _);have hP:=(Qj.obj A).keep h C0.out (Je.none F);have HN:=O (Vl hP ok.most.1);have NF:=O (show¬F w.heap.size from fun hk=>by have:=ai _ hk;omega);have ak:Bd F W:=ai.later C0.out;have bn:=O (show w.heap.size<W.heap.size from Qh.lt S0.out);have al:=O (fun w'(c:Qc Qb W w')=>(Qj.obj A).keep hP c (Je.none F));have u:Hid (∀w' t,Qs w' (Qn F W w') b t→Qc F W w'→Qs w' (Qn F w w') b t∧Qc F w w'):=O (fun w' t h1 h2=>by
  have cc:Qc F w w':=C0.out.none.trans' h2;exact⟨Qs.obj.more h1 (Yl C0.out.size) (ai.ext cc),cc⟩)
 have z:Hid (∀w',Qc Qb W w'→s.pushE p≠0→Qs w' (Qn F w w') b (s.push p now)∧Qc F w w'):=O (fun w' cc e=>by
  rw[Qso e];obtain⟨p1,p2⟩:=Qs.obj.same ⟨A,hP⟩ cc;exact u.out w' _ p1 p2)
 have HG:Hid (∀w',Qc Qb W w'→Cl 13 #[ptr A.tb,.int .i64 p.cls] w' fun e bh=>e=.returned (.tuple #[.agg (spA (s.tree.get p.cls).sp),.bool (s.tree.at p.cls).isSome])∧Qc Qb w' bh):=O (fun w' cc=>by
  obtain⟨G,hT,_⟩:=(al.out w' cc).treeOf;exact Gh hT p.cls)
 have R:=O (fun w'=>Et p s.most w');have EM:=O (show Qdt p s.most=Gb p.len s.most from rfl);have HA:=O hP.blk;obtain⟨is,au⟩:=Zx ((s.tree.at p.cls).isSome);rw[←au]at HG;have a6:=O au;clear au;obtain⟨gs,aq⟩:=Zx ((s.tree.get p.cls).sp);rw[←aq]at HG;have bj:=O aq;clear aq;have OK:=O ok;have HP:=O hP;have K:=O ak;have av:=O hN;have ae:=O aj;unfold ptr at*;clear h ai ok hP ak hN aj;go_enter func28,ntmps28;go_wp2_with fail;rw[←hW];clear hW;refine HN.out.mono ?_;rintro e w1⟨rfl,rfl⟩;go_wp2_with fail;go_cut [7,8] (fun s7 s8 wz=>(∃r,s7=.pointer (some ⟨r,0,none⟩)∧Qh wz r (spA gs) 40)∧s8=.bool is∧Qc Qb W wz)
 case first=>
  refine Lb (.lookp 0 (.lookp 1 (.lookp 2 (.lookp 3 (.lookp 4 (.lookp 5 (.fork 6 (.lookp 7 (.lookp 8 (.lookp 9 (.walk 10 (.walk 11 (.walk 12 .nil)))))) 10 (.walk 6 (.look 7 (.look 8 (.lookp 9 (.walk 11 (.walk 12 .nil))))))))))))) (fun wv=>Qc (Qb) (W) wv) (by kernel_rfl) (by kernel_rfl) ?_ (by(repeat' (first|(with_reducible first|exact Zg _ _|assumption|refine Zh ?_ _|refine Zi ?_ _|refine Zj ?_ |refine Zk ?_ _ ?_ |(apply Or.inl;rfl))|(apply Or.inl;simp;done)|(apply Or.inr;simp;first|done|omega)))) ?_;·exact fun _ _ _ _ _ h=>h
  simp only[U9,Zf,Ze,Zd];iterate 3 (first|(refine Lk (by kernel_rfl) (by go_simp;try with_reducible rfl) ?_)|(refine Vc (by kernel_rfl) (fun wv hv=>by go_simp;try with_reducible rfl) ?_);try simp only[Act.put,Za,Zc,Zb])
  iterate 1 (refine Vc (by kernel_rfl) (fun wv hv=>by(obtain⟨z0,z1,z2,z3,z4⟩:=Ys (hv.blk HA.out (fun h=>h)));go_simp;try with_reducible rfl) ?_;try simp only[Act.put,Za,Zc,Zb])
  iterate 1 (first|(refine Lk (by kernel_rfl) (by go_simp;try with_reducible rfl) ?_)|(refine Vc (by kernel_rfl) (fun wv hv=>by go_simp;try with_reducible rfl) ?_);try simp only[Act.put,Za,Zc,Zb])
  iterate 1 (refine Vc (by kernel_rfl) (fun wv hv=>by(obtain⟨z0,z1,_⟩:=(Xt (hv.blk S0.out (fun h=>h))));go_simp;try with_reducible rfl) ?_;try simp only[Act.put,Za,Zc,Zb])
  refine Qk8 ?_ ?_
  ·go_wp2_with fail;refine(HG.out _ (Qc.refl Qb W).drew).mono ?_;rintro e w2⟨rfl,c2⟩;have C2:=O ((Qc.refl Qb W).drew.trans' c2);clear c2;go_wp2_with fail;refine⟨C2.out,?_⟩;iterate 3 (first|(refine Lk (by kernel_rfl) (by go_simp;try with_reducible rfl) ?_)|(refine Vc (by kernel_rfl) (fun wv hv=>by go_simp;try with_reducible rfl) ?_);try simp only[Act.put,Za,Zc,Zb])
   refine Uk ?_;go_wp2_with fail;refine⟨C2.out.alloc _,?_⟩;obtain⟨W3,s3,ah,C3⟩:=Z1 (P:=prog) (vs:=spA gs) (Qh.new w2 #[.int .i64 0,.int .i64 0,.bool false,.int .u64 0,.int .u64 0,.int .u64 0,.int .u64 0,.int .u64 0,.int .u64 0,.int .u64 0,.int .u64 0,.int .u64 0,.int .i64 0,.int .i64 0] 40) rfl (Lc _);have D3:=O (show Qc Qb W W3 from(C2.out.alloc _).trans C3 (fun k e=>.inr (by have:=C2.out.size;omega)));have ay:=O ah;clear ah C3;refine Uk ?_;go_wp2_with fail;refine⟨D3.out,?_⟩;refine Uk ?_;go_wp2_with fail;refine⟨D3.out,?_⟩;refine Qdi ?_;clear s3;go_wp2_with fail;go_meet;exact⟨⟨_,rfl,ay.out⟩,rfl,D3.out⟩
  ·go_wp2_with fail;refine⟨((Qc.refl Qb W).drew.alloc _),?_⟩;have CA:=O ((Qc.refl Qb W).drew.alloc (.cells #[.int .i64 0,.int .i64 0,.bool false,.int .u64 0,.int .u64 0,.int .u64 0,.int .u64 0,.int .u64 0,.int .u64 0,.int .u64 0,.int .u64 0,.int .u64 0,.int .i64 0,.int .i64 0] 40));have BA:=O (show Qh (W.drew.alloc (.cells #[.int .i64 0,.int .i64 0,.bool false,.int .u64 0,.int .u64 0,.int .u64 0,.int .u64 0,.int .u64 0,.int .u64 0,.int .u64 0,.int .u64 0,.int .u64 0,.int .i64 0,.int .i64 0] 40)) W.heap.size #[.int .i64 0,.int .i64 0,.bool false,.int .u64 0,.int .u64 0,.int .u64 0,.int .u64 0,.int .u64 0,.int .u64 0,.int .u64 0,.int .u64 0,.int .u64 0,.int .i64 0,.int .i64 0] 40 from Qh.new W.drew _ _);refine Uk ?_;go_wp2_with fail;refine(HG.out _ CA.out).mono ?_;rintro e w2⟨rfl,c2⟩;obtain⟨W3,s3,ah,C3⟩:=Z1 (P:=prog) (vs:=spA gs) (c2.blk BA.out (fun h=>h)) rfl (Lc _);have C2:=O (CA.out.trans' c2);have D3:=O (show Qc Qb W W3 from C2.out.trans C3 (fun k e=>.inr (by omega)));have ay:=O ah;clear ah C3 c2;go_wp2_with fail;refine⟨C2.out,?_⟩;iterate 3 (first|(refine Lk (by kernel_rfl) (by go_simp;try with_reducible rfl) ?_)|(refine Vc (by kernel_rfl) (fun wv hv=>by go_simp;try with_reducible rfl) ?_);try simp only[Act.put,Za,Zc,Zb])
   refine Uk ?_;go_wp2_with fail;refine⟨D3.out,?_⟩;refine Uk ?_;go_wp2_with fail;refine⟨D3.out,?_⟩;refine Qdi ?_;clear s3;go_wp2_with fail;go_meet;exact⟨⟨_,rfl,ay.out⟩,rfl,D3.out⟩
 case rest=>
  obtain⟨⟨r,rfl,hR⟩,rfl,cW⟩:=hcut;obtain⟨V,hV⟩:=Zx wc;rw[←hV]at cW hR⊢;clear hV;have CV:=O cW;clear cW;cases is with
  |false=>
   have E:=O (show s.pushE p=81 by
    have h1:=a6.out;cases hc:s.tree.at p.cls with
    |none=>exact Qrs hc
    |some x=>rw[hc]at h1;cases h1)
   have B:=O (z.out V CV.out (by rw[E.out];decide));clear z u HG R hR;go_wp2_with fail;go_ret;exact⟨by rw[E.out];rfl,B.out⟩
  |true=>
   obtain⟨c,hc,bl⟩:∃c,s.tree.at p.cls=some c∧gs=c.sp:=by
    have h1:=a6.out;cases hc:s.tree.at p.cls with
    |none=>rw[hc]at h1;cases h1
    |some x=>exact⟨x,rfl,by rw[bj.out,Qj3 _ hc]⟩
   subst bl;obtain⟨y0,y1,y2,_⟩:=(show J0 V r c.sp from hR).cells;cases I:c.sp.leaf with
   |false=> have E:=O (show s.pushE p=162 from Qou hc I);have B:=O (z.out V CV.out (by rw[E.out];decide));rw[I]at y2;clear z u HG R hR hc I y0 y1;go_wp2_with fail;go_ret;exact⟨by rw[E.out];rfl,B.out⟩
   |true=>
    obtain⟨l,hl⟩:=OK.out.lv _ _ hc I;have E:=O (Qrt hc I hl OK.out.most.2);rw[I]at y2;clear hR hc I y0 y1;go_wp2_with fail;clear y2;obtain⟨a0,a1,a2,a3,a4⟩:=Ys (CV.out.drew.blk HA.out (fun h=>h));obtain⟨g0,g1,Z,g3⟩:=Xt (CV.out.drew.blk S0.out (fun h=>h));unfold ptr at*;refine Qi [(0,0),(0,1),(0,2),(0,3),(0,4),(2,5),(2,6)] (by kernel_rfl) (by kernel_rfl) ?_ ?_;·exact fun _ _ _ _ _ h=>h
    simp only[Zs,Zf,Ze,Zd];iterate 5 (refine Zz (by kernel_rfl) (by go_simp;try with_reducible rfl) ?_)
    clear a0 a1 a2 a3 a4 g0 g1 Z g3;refine Jj ?_;go_wp2_with fail;refine(R.out _).mono ?_;rintro e w4⟨rfl,c4⟩;rw[EM.out];have C4:=O (CV.out.drew.trans' c4);clear c4;go_wp2_with fail;refine Jj ?_;go_wp2_with fail;refine Zu ?_;by_cases h0:Gb p.len s.most=0
    ·have E1:=O (show s.pushE p=Oa l.pk l.bt l.q p by rw[E.out,if_neg (by rw[h0];decide)]);rw[h0];clear h0 E;go_wp2_with fail;obtain⟨qb,dv,a7,⟨Gd,bk⟩,aa⟩:=HP.out.qPush hl p;have bg:=O aa;have bi:=O a7;have HL:=O hl;have lk:=(al.out _ C4.out.drew).look1 p.cls;rw[Li hl]at lk;obtain⟨a0,a1,a2,a3,a4⟩:=Ys (C4.out.drew.blk HA.out (fun h=>h));obtain⟨g0,g1,Z,g3⟩:=Xt (C4.out.drew.blk S0.out (fun h=>h));clear a7 bk aa hl HG R;unfold ptr at*;refine Qi [(0,0),(0,1),(0,2),(0,3),(0,4),(0,5),(0,6),(2,7)] (by kernel_rfl) (by kernel_rfl) ?_ ?_;·exact fun _ _ _ _ _ h=>h
     simp only[Zs,Zf,Ze,Zd];iterate 7 (refine Zz (by kernel_rfl) (by go_simp;try with_reducible rfl) ?_)
     clear a0 a1 a2 a3 a4 g0 g1 Z g3 lk;refine Jj ?_;go_wp2_with fail;refine Zu ?_;go_wp2_with fail;obtain⟨y0,y1⟩:=Qz (C4.out.drew.drew.blk bi.out (fun h=>h));obtain⟨g0,g1,Z,g3⟩:=Xt (C4.out.drew.drew.blk S0.out (fun h=>h));unfold ptr at*;refine Qi [(0,0),(0,1),(0,2),(0,3),(0,4),(2,5),(2,6)] (by kernel_rfl) (by kernel_rfl) ?_ ?_;·exact fun _ _ _ _ _ h=>h
     simp only[Zs,Zf,Ze,Zd];iterate 5 (refine Zz (by kernel_rfl) (by go_simp;try with_reducible rfl) ?_)
     clear y0 y1 g0 g1 Z g3;refine Jj ?_;go_wp2_with fail;refine(bg.out _ C4.out.drew.drew).mono ?_;rintro e w5⟨rfl,a8,am⟩;have ap:=O a8;have af:=O am;clear a8 am bg;go_wp2_with fail;refine Jj ?_;go_wp2_with fail;refine Zu ?_;by_cases h1:Oa l.pk l.bt l.q p=0
     ·have E0:=O (E1.out.trans h1);have PS:=O (Qdr (now:=now) E0.out HL.out);obtain⟨c5,h5,bf,rq,a9⟩:=af.out h1;have H5:=O h5;have C5:=O c5;have ab:=O bf;have J:=O (Qne a9);obtain⟨n1,an⟩:=Zx ((l.q++[p]).length);rw[←an]at J;have a5:=O an;rw[h1];obtain⟨y0,y1⟩:=Qz ab.out;clear h1 h5 c5 bf a9 af ap an z E1;unfold ptr at*;by_cases hq:l.q=[]
      ·have hz:n1=1:=by rw[a5.out,hq];rfl
       subst hz;rw[show((1:Nat):Int)=1 from rfl]at J;have bd:=O (PS.out.trans (if_neg (by simpa using hq)));clear hq PS;go_wp2_with fail;refine J.out.mono ?_;rintro e w6⟨rfl,rfl⟩;have ax:=O (show l.id=p.cls from(Yh (show Vp Qy.id p.cls s.leaves=some l from HL.out)).2);have az:=O (show(s.setLeaf {l with q:=l.q++[p]}).leaf p.cls=some {l with q:=l.q++[p]}from Ui HL.out ax.out);cases U:l.debt with
       |none=>
        have ar:dv=.pointer none:=H5.out.noDebt az.out ab.out U;have ag:=O (show s.owe {l with q:=l.q++[p]} (fun d=>d.wake now p.len)=s.setLeaf {l with q:=l.q++[p]} by unfold Qg.owe;dsimp only;rw[U]);subst ar;clear U;go_wp2_with fail;clear y0 y1;obtain⟨a0,a1,a2,a3,a4⟩:=Ys H5.out.drew.blk;obtain⟨g0,g1,Z,g3⟩:=Xt (Qc.blk C5.out.drew S0.out NF.out);have ac:=O (H5.out.pickWake (dep:=J5 s.tree) OK.out.pick av.out p.cls now ae.out);unfold ptr at*;refine Qi [(0,0),(0,1),(0,2),(0,3),(0,4),(0,5),(0,6),(2,7)] (by kernel_rfl) (by kernel_rfl) ?_ ?_;·exact fun _ _ _ _ _ h=>h
        simp only[Zs,Zf,Ze,Zd];iterate 7 (refine Zz (by kernel_rfl) (by go_simp;try with_reducible rfl) ?_)
        clear a0 a1 a2 a3 a4 g0 g1 Z g3;refine Jj ?_;go_wp2_with fail;refine(ac.out _ (Qc.refl Qb w5).drew).mono ?_;rintro e w9⟨rfl,h9,c9⟩;obtain⟨n1,n2⟩:=(Qj.obj A).two h9 K.out C5.out c9;have B:=O (u.out w9 (s.push p now) (by rw[bd.out,ag.out];exact⟨A,n1⟩) n2);clear h9 c9 n1 n2 ac;go_wp2_with fail;refine Zu ?_;go_wp2;go_ret;exact⟨by rw[E0.out];rfl,B.out⟩
       |some d=>
        obtain⟨dg,dn,_⟩:=(OK.out.at HL.out).1.debt d U;obtain⟨q,ar,be⟩:=H5.out.wakeDebt az.out ab.out (d:=d) U (by have:=av.out;omega) dg now ae.out p.len;have ag:=O (show s.owe {l with q:=l.q++[p]} (fun d=>d.wake now p.len)={s.setLeaf {l with q:=l.q++[p],debt:=some (d.wake now p.len)}with row:=Hb s.row p.cls (d.wake now p.len)} by unfold Qg.owe;dsimp only;rw[U,ax.out]);have ba:=O be;subst ar;clear U be dg dn;unfold ptr at*;go_wp2_with fail;clear y0 y1;obtain⟨y0,y1⟩:=Qz ab.out.drew;obtain⟨g0,g1,Z,g3⟩:=Xt (Qc.blk C5.out.drew S0.out NF.out);unfold ptr at*;refine Qi [(0,0),(0,1),(0,2),(0,3),(0,4),(0,5),(0,6),(2,7)] (by kernel_rfl) (by kernel_rfl) ?_ ?_;·exact fun _ _ _ _ _ h=>h
        simp only[Zs,Zf,Ze,Zd];iterate 7 (refine Zz (by kernel_rfl) (by go_simp;try with_reducible rfl) ?_)
        clear y0 y1 g0 g1 Z g3;refine Jj ?_;go_wp2_with fail;refine(ba.out _ (Qc.refl Qb w5).drew).mono ?_;rintro e w7⟨rfl,h7,c7,bb⟩;obtain⟨m1,m2⟩:=(Qj.obj A).two h7 K.out C5.out c7;have H7:=O (show Qj A w7 (Qn F W w7) b (s.setLeaf {l with q:=l.q++[p],debt:=some (d.wake now p.len)}) by
         rw[←Eu (s:=s) (l1:={l with q:=l.q++[p]}) (l2:={l with q:=l.q++[p],debt:=some (d.wake now p.len)}) rfl];exact m1)
        have C7:=O m2;have aw:=O bb;have bm:=O (show(s.setLeaf {l with q:=l.q++[p],debt:=some (d.wake now p.len)}).leaf p.cls=some {l with q:=l.q++[p],debt:=some (d.wake now p.len)}from Ui HL.out ax.out);have bc:=O (H7.out.noteDebt bm.out aw.out rfl (HP.out.row_len OK.out));clear h7 c7 bb m1 m2 ba H5 C5 ab;go_wp2_with fail;refine Zu ?_;go_wp2_with fail;obtain⟨a0,a1,a2,a3,a4⟩:=Ys H7.out.drew.blk;obtain⟨y0,y1⟩:=Qz aw.out.drew;obtain⟨g0,g1,Z,g3⟩:=Xt (Qc.blk C7.out.drew S0.out NF.out);unfold ptr at*;refine Qi [(0,0),(0,1),(0,2),(0,3),(0,4),(0,5),(0,6),(0,7),(0,8),(0,9),(2,10)] (by kernel_rfl) (by kernel_rfl) ?_ ?_;·exact fun _ _ _ _ _ h=>h
        simp only[Zs,Zf,Ze,Zd];iterate 10 (refine Zz (by kernel_rfl) (by go_simp;try with_reducible rfl) ?_)
        clear a0 a1 a2 a3 a4 y0 y1 g0 g1 Z g3;refine Jj ?_;go_wp2_with fail;refine(bc.out _ (Qc.refl Qb w7).drew).mono ?_;rintro e w8⟨rfl,h8,c8⟩;obtain⟨m1,m2⟩:=(Qj.obj A).two h8 K.out C7.out c8;have H8:=O m1;have C8:=O m2;clear h8 c8 m1 m2 bc H7 C7 aw;go_wp2_with fail;refine Zu ?_;go_wp2_with fail;obtain⟨a0,a1,a2,a3,a4⟩:=Ys H8.out.drew.blk;obtain⟨g0,g1,Z,g3⟩:=Xt (Qc.blk C8.out.drew S0.out NF.out);have ac:=O (H8.out.pickWake (dep:=J5 s.tree) OK.out.pick av.out p.cls now ae.out);unfold ptr at*;refine Qi [(0,0),(0,1),(0,2),(0,3),(0,4),(0,5),(0,6),(2,7)] (by kernel_rfl) (by kernel_rfl) ?_ ?_;·exact fun _ _ _ _ _ h=>h
        simp only[Zs,Zf,Ze,Zd];iterate 7 (refine Zz (by kernel_rfl) (by go_simp;try with_reducible rfl) ?_)
        clear a0 a1 a2 a3 a4 g0 g1 Z g3;refine Jj ?_;go_wp2_with fail;refine(ac.out _ (Qc.refl Qb w8).drew).mono ?_;rintro e w9⟨rfl,h9,c9⟩;obtain⟨n1,n2⟩:=(Qj.obj A).two h9 K.out C8.out c9;have B:=O (u.out w9 (s.push p now) (by rw[bd.out,ag.out];exact⟨A,n1⟩) n2);clear h9 c9 n1 n2 ac;go_wp2_with fail;refine Zu ?_;go_wp2;go_ret;exact⟨by rw[E0.out];rfl,B.out⟩
      ·have U:decide ((1:Int)<(n1:Int))=true:=by have:=a5.out;have h0:l.q.length≠0:=fun e=>hq (List.eq_nil_of_length_eq_zero e);simp at this⊢;omega
       have bo:decide (1<n1)=true:=by simp at U⊢;omega
       have B:=O (u.out w5 (s.push p now) (by rw[PS.out,if_pos hq];exact⟨A,H5.out⟩) C5.out);clear hq PS u H5;go_wp2_with fail;refine J.out.mono ?_;rintro e w6⟨rfl,rfl⟩;go_wp2_with fail;go_ret;exact⟨by rw[E0.out];rfl,B.out⟩
     ·have B:=O (z.out w5 (C4.out.drew.drew.trans' (ap.out h1)) (by rw[E1.out];exact h1));have U:decide (Oa l.pk l.bt l.q p=0)=false:=by simpa using h1
      have ao:(Oa l.pk l.bt l.q p==0)=false:=by simpa using h1
      generalize Oa l.pk l.bt l.q p=er at U ao E1⊢;clear h1 z u ap af;go_wp2_with fail;go_ret;exact⟨by rw[E1.out];rfl,B.out⟩
    ·have E1:=O (show s.pushE p=Gb p.len s.most by rw[E.out,if_pos h0]);have B:=O (z.out w4 C4.out (by rw[E1.out];exact h0));have U:decide (Gb p.len s.most=0)=false:=by simpa using h0
     have ao:(Gb p.len s.most==0)=false:=by simpa using h0
     generalize Gb p.len s.most=er at U ao E1⊢;clear h0 E z u EM;go_wp2_with fail;go_ret;exact⟨by rw[E1.out];rfl,B.out⟩
end
end
end Go.Proofs.YtnnhmpehkbihnaaGreat
