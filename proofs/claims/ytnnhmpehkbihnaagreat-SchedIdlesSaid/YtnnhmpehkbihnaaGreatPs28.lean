/- A part of the proof: no condition. -/
import Derived.Test.YtnnhmpehkbihnaaGreatPs27
import Derived.Deep.MidRow
namespace Go.Proofs.YtnnhmpehkbihnaaGreat
set_option linter.unusedVariables false
set_option maxRecDepth 100000
set_option maxHeartbeats 4000000
open Go.RowKit
open Go.Proofs.Tryz
section
attribute [local go_sem] Qp
attribute [local go_sem ↓] X8 Yd
attribute [local irreducible] Kl J9 Xo
theorem Yy.spec_cells{w}{r:Nat}{a:Yy}{t:TypeId}(h:Qh w r a.cells.toArray t):w.cell? ⟨r,1,none⟩=some (.int .i64 a.s.id)∧w.cell? ⟨r,2,none⟩=some (.int .i64 a.s.par)∧w.cell? ⟨r,3,none⟩=some (.bool a.s.leaf)∧w.cell? ⟨r,4,none⟩=some (.int .u64 a.s.real.f)∧w.cell? ⟨r,5,none⟩=some (.int .u64 a.s.real.l)∧w.cell? ⟨r,6,none⟩=some (.int .u64 a.s.real.r)∧w.cell? ⟨r,7,none⟩=some (.int .u64 a.s.share.f)∧w.cell? ⟨r,8,none⟩=some (.int .u64 a.s.share.l)∧w.cell? ⟨r,9,none⟩=some (.int .u64 a.s.share.r)∧w.cell? ⟨r,10,none⟩=some (.int .u64 a.s.aN.f)∧w.cell? ⟨r,11,none⟩=some (.int .u64 a.s.aN.l)∧w.cell? ⟨r,12,none⟩=some (.int .u64 a.s.aN.r)∧w.cell? ⟨r,13,none⟩=some (.int .i64 a.s.pk)∧w.cell? ⟨r,14,none⟩=some (.int .i64 a.s.bt):=
 ⟨h.at 1 rfl,h.at 2 rfl,h.at 3 rfl,h.at 4 rfl,h.at 5 rfl,h.at 6 rfl,h.at 7 rfl,h.at 8 rfl,h.at 9 rfl,h.at 10 rfl,h.at 11 rfl,h.at 12 rfl,h.at 13 rfl,h.at 14 rfl⟩
section
variable{w:World}{F:Fp}{b:Nat}{s:Qf}{N:Nat}
theorem Qg7(h:Xc w F b s)(ok:Xp N s)(hb:∀c∈s.tree,c.sp.id<64)(hN:N<549755813000)(a:Yy)(hw:a.wf)(hk:a.kind%6=0):
  Cl 29 #[ptr b,.agg a.cells.toArray] w fun e w'=>e=.returned (.tuple #[])∧∃s',Xc w' (Qn F w w') b s'∧Xp (N+16) s'∧(∀c∈s'.tree,c.sp.id<64)∧Qc F w w':=by
 obtain⟨sb,us,now,ps,h,E,aa⟩:=h;obtain⟨m,hm,i1,i2,i3⟩:=Qot a.s.id;obtain⟨W,W1,I,F2,ae,PP⟩:=Rp h E a m;obtain⟨hW,a1,af,c19,e1,hW1,k0,k1,kf,hW2,k2,J,V,B,ac,Z,d⟩:=PP;have z:∀w' s',Xc w' (Qn F2 I w') b s'→Qc F2 I w'→Xc w' (Qn F w w') b s'∧Qc F w w':=fun w' s' g c=>d w' s' g (c.sub fun k hk=>.inl hk);have q:=V.aB (Zg Qb I).drew (Jl.none F2);have u:=(Zg Qb I).drew.blk B (fun h=>h);have D2:=O (Zg Qb I).drew;obtain⟨c,hc⟩:∃c:Yk,c=⟨1+(m:Int),a.s.par,a.s.leaf,a.s.real,a.s.share,a.s.aN,a.s.pk,a.s.bt⟩:=⟨_,rfl⟩;have K:Hi (Cl 27 #[ptr sb,Fb c] I.drew fun e w'=>e=.returned (.int .i64 (s.aO c))∧Xc w' (Qn F w w') b (s.add c)∧Qc F w w'):=O (by
  obtain⟨G,hS,hG,al,ab⟩:=q.sched;refine Zz (Cy hS ok c) ?_;rintro w3⟨h3,c3⟩;obtain⟨m1,m2⟩:=ab w3 _ h3 c3;exact⟨rfl,z w3 _ ⟨sb,us,ae,ps,m1,Z,fun k h1 h2=>by rw[Qt8 ok];exact aa k h1 h2⟩ m2.undrew⟩)
 have U:Hi (Xp (N+16) (s.add c)):=O (by
  by_cases h0:s.aO c=0;·exact(ok.add h0).more (by omega)
  ·rw[Qem h0];exact ok.more (by omega))
 have R:=O (Qtp hb (c:=c) (by rw[hc];show 1+(m:Int)<64;omega));generalize s.aO c=er at K;generalize s.add c=s2 at K U R;unfold Fb at K;rw[hc]at K;clear hc;have e3:a.kind.tmod 6=0:=by rw[Int.tmod_eq_emod_of_nonneg hw.1];exact hk
 have b0:I.drew.cell? ⟨b,0,none⟩=some (ptr sb):=q.blk.1.at 0 rfl;obtain⟨x1,x2,x3,x4,x5,x6,x7,x8,x9,ag,ah,ai,aj,ak⟩:=Yy.spec_cells u;dsimp only[Yy.withId]at x1 x2 x3 x4 x5 x6 x7 x8 x9 ag ah ai aj ak;clear q u;have HB:=O hb;have OK:=O ok;clear V J B ac z d Z aa h ok hb;unfold ptr at*;unfold Yy.cells at hW;unfold Yy.cells;go_enter func29,ntmps29;go_wp2_with fail;rw[←hW];clear hW k2;refine Qj [(0,0),(0,1),(0,2),(0,3),(0,4),(0,5),(0,6),(0,7),(0,8),(0,9),(0,10),(0,11),(2,12)] Zq (by kernel_rfl) (fun _ _ _ _ _ h=>h) ?_;simp only[Jk,Zf,Ze,Zd];iterate 6 (refine Jq (by kernel_rfl) (by go_simp;try rfl) ?_)
 try simp only[Act.put,Za,Zc,Zb]
 iterate 6 (refine Jq (by kernel_rfl) (by go_simp;try rfl) ?_)
 try simp only[Act.put,Za,Zc,Zb]
 refine J7 ?_;go_wp2_with fail;refine Jo ?_;first|rw[←hW1]|rw[e1,←hW1]
 clear hW1 e1 E a1 c19 af;go_wp2_with fail;rw[←hW2];clear hW2 k0 k1 kf;refine Qj [(0,0),(0,1),(0,2),(0,3),(0,4),(0,5),(2,6)] Zq (by kernel_rfl) (fun _ _ _ _ _ h=>h) ?_;simp only[Jk,Zf,Ze,Zd];iterate 6 (refine Jq (by kernel_rfl) (by go_simp;try rfl) ?_)
 try simp only[Act.put,Za,Zc,Zb]
 clear x1 x2 x3 x4 x5 x6 x7 x8 x9 ag ah ai aj ak b0;refine J7 ?_;go_wp2_with fail;refine Zy K ?_;intro w3 h3;have H3:=O h3;clear h3;go_wp2_with fail;refine Jo ?_;go_wp2_with fail;exact bodyPost_end (results_none rfl _ _ _) rfl ⟨rfl,_,H3.o.1,U.o,R.o,H3.o.2⟩
theorem Qhb(h:Xc w F b s)(ok:Xp N s)(hb:∀c∈s.tree,c.sp.id<64)(hN:N<549755813000)(a:Yy)(hw:a.wf)(hk:4≤a.kind%6):
  Cl 29 #[ptr b,.agg a.cells.toArray] w fun e w'=>e=.returned (.tuple #[])∧∃s',Xc w' (Qn F w w') b s'∧Xp (N+16) s'∧(∀c∈s'.tree,c.sp.id<64)∧Qc F w w':=by
 obtain⟨sb,us,now,ps,h,z,U⟩:=h;obtain⟨m,hm,i1,i2,i3⟩:=Qot a.s.id;obtain⟨W,W1,J,F2,Z,PP⟩:=Rp h z a m;obtain⟨hW,a1,af,c19,e1,hW1,k0,k1,kf,hW2,k2,E,B,u,V,R,d⟩:=PP;have q:∀w' s',Xc w' (Qn F2 J w') b s'→Qc F2 J w'→Xc w' (Qn F w w') b s'∧Qc F w w':=fun w' s' g c=>d w' s' g (c.sub fun k hk=>.inl hk);have K:=B.aB (Zg Qb J).drew (Jl.none F2);have I:=(Zg Qb J).drew.blk u (fun h=>h);have D2:=O (Zg Qb J).drew;have HC:Hi (∀w',w'=J→Cl 77 #[ptr b] w' fun e w'=>e=.returned (.tuple #[])∧∃s',Xc w' (Qn F w w') b s'∧Xp (N+16) s'∧(∀c∈s'.tree,c.sp.id<64)∧Qc F w w'):=O (by
  rintro w' rfl;refine Zz (Qe0 ⟨sb,us,Z,ps,B,R,U⟩ ok hb hN) ?_;rintro w3⟨s3,g3,o3,i3,c3⟩;obtain⟨m1,m2⟩:=q w3 s3 g3 c3;exact⟨rfl,s3,m1,o3,i3,m2⟩)
 have e3:(a.kind.tmod 6==0)=false∧(a.kind.tmod 6==1)=false∧(a.kind.tmod 6==2)=false∧(a.kind.tmod 6==3)=false:=by rw[Int.tmod_eq_emod_of_nonneg hw.1];simp;omega
 obtain⟨e4,e5,e6,e7⟩:=e3;clear K I;have HB:=O hb;have OK:=O ok;clear B E u V q d R U h ok hb;unfold ptr at*;unfold Yy.cells at hW;unfold Yy.cells;go_enter func29,ntmps29;go_wp2_with fail;rw[←hW];clear hW k2;refine Qj [(0,0),(0,1),(0,2),(0,3),(0,4),(0,5),(0,6),(0,7),(0,8),(0,9),(0,10),(0,11),(2,12)] Zq (by kernel_rfl) (fun _ _ _ _ _ h=>h) ?_;simp only[Jk,Zf,Ze,Zd];iterate 6 (refine Jq (by kernel_rfl) (by go_simp;try rfl) ?_)
 try simp only[Act.put,Za,Zc,Zb]
 iterate 6 (refine Jq (by kernel_rfl) (by go_simp;try rfl) ?_)
 try simp only[Act.put,Za,Zc,Zb]
 refine J7 ?_;go_wp2_with fail;refine Jo ?_;first|rw[←hW1]|rw[e1,←hW1]
 clear hW1 e1 z a1 c19 af;go_wp2_with fail;rw[←hW2];clear hW2 k0 k1 kf;refine Zz (HC.o _ rfl) ?_;intro w3 h3;have H3:=O h3;clear h3;go_wp2_with fail;exact bodyPost_end (results_none rfl _ _ _) rfl ⟨rfl,H3.o⟩
end
section
variable{w:World}{F:Fp}{b:Nat}{s:Qf}{N:Nat}
theorem Qg8(h:Xc w F b s)(ok:Xp N s)(hb:∀c∈s.tree,c.sp.id<64)(hN:N<549755813000)(a:Yy)(hw:a.wf)(K:a.kind%6=1):
  Cl 29 #[ptr b,.agg a.cells.toArray] w fun e w'=>e=.returned (.tuple #[])∧∃s',Xc w' (Qn F w w') b s'∧Xp (N+16) s'∧(∀c∈s'.tree,c.sp.id<64)∧Qc F w w':=by
 obtain⟨sb,us,now,ps,h,ac,an⟩:=h;obtain⟨m,hm,i1,i2,i3⟩:=Qot a.s.id;obtain⟨W,W1,z,R,u,PP⟩:=Rp h ac a m;obtain⟨hW,a1,af,c19,e1,hW1,k0,k1,kf,hW2,k2,aa,ai,J,ae,am,d⟩:=PP;have I:∀w' s',Xc w' (Qn R z w') b s'→Qc R z w'→Xc w' (Qn F w w') b s'∧Qc F w w':=fun w' s' g c=>d w' s' g (c.sub fun k K=>.inl K);have Z:=ai.aB (Zg Qb z).drew (Jl.none R);have ab:=(Zg Qb z).drew.blk J (fun h=>h);have D2:=O (Zg Qb z).drew;obtain⟨c,hc⟩:∃c:Yk,c=⟨1+(m:Int),a.s.par,a.s.leaf,a.s.real,a.s.share,a.s.aN,a.s.pk,a.s.bt⟩:=⟨_,rfl⟩;have U:Hi (Cl 51 #[ptr sb,Fb c] z.drew fun e w'=>e=.returned (.int .i64 (s.aG c))∧Xm sb us us w' (Qn R z w') b (s.change c) u true ps∧Qc R z w'):=O (by
  obtain⟨G,hS,hG,az,ax⟩:=Z.sched;refine Zz (Qfp hS ok c) ?_;rintro w3⟨E,B⟩;obtain⟨m1,m2⟩:=ax w3 _ E B;exact⟨rfl,m1,m2.undrew⟩)
 have LF:Hi (∀w3,Xm sb us us w3 (Qn R z w3) b (s.change c) u true ps→Qc R z w3→Xc w3 (Qn F w w3) b (s.change c)∧Qc F w w3):=O (fun w3 E B=>
  I w3 _ ⟨sb,us,u,ps,E,am,fun k h1 h2=>by rw[Qbb];exact an k h1 h2⟩ B)
 have ag:=O (Qkm hb c);have e4:(a.kind.tmod 6==0)=false∧a.kind.tmod 6=1:=by rw[Int.tmod_eq_emod_of_nonneg hw.1];simp;omega
 obtain⟨e4,e5⟩:=e4;have av:=O (fun w3(B:Qc R z w3)=>B.blk J ae);have b0:z.drew.cell? ⟨b,0,none⟩=some (ptr sb):=Z.blk.1.at 0 rfl;obtain⟨x1,x2,x3,x4,x5,x6,x7,x8,x9,ao,ap,aq,ar,au⟩:=Yy.spec_cells ab;dsimp only[Yy.withId]at x1 x2 x3 x4 x5 x6 x7 x8 x9 ao ap aq ar au;clear Z ab;by_cases h0:s.aG c=0
 ·have al:=ok.change h0;have HM:Hi ((s.change c).many (1+(m:Int))=0):=O (by
   have:=Qhv ok h0 (1+(m:Int));rw[this];have hi:c.id=1+(m:Int):=by rw[hc]
   have:=(L8 h0).1;rw[hi]at this;exact Qo7 this)
  have HW:Hi (∀w3,Xm sb us us w3 (Qn R z w3) b (s.change c) u true ps→Cl 11 #[ptr sb,.int .i64 (1+(m:Int))] w3 fun e w'=>∃q:Int,e=.returned (.tuple #[.int .i64 0,.int .i64 q])∧Qc Qb w3 w'):=O (fun w3 E=>by
   obtain⟨G,⟨A,hS⟩,_⟩:=E.sched;refine Zz (Dn hS al (1+(m:Int))) ?_;intro w4 V;exact⟨_,by rw[HM.o],V⟩)
  have ah:Hi (Xp (N+16) (s.change c)):=O (al.more (by omega));have aj:Hi (∀w3 w4,Xm sb us us w3 (Qn R z w3) b (s.change c) u true ps→Qc R z w3→Qc Qb w3 w4→Xc (w4.setCell ⟨b,66,none⟩ (.bool true)) (Qn F w (w4.setCell ⟨b,66,none⟩ (.bool true))) b (s.change c)∧Qc F w (w4.setCell ⟨b,66,none⟩ (.bool true))):=O (fun w3 w4 E B V=>by
   obtain⟨m1,m2⟩:=(E.aB V (Jl.none _)).fine;have c5:Qc R z (w4.setCell ⟨b,66,none⟩ (.bool true)):=(B.aA V.none).trans m2 (fun k K=>K.elim .inl (fun K=>.inr K.1));exact LF.o _ (m1.more (fun k K=>by
    have z1:=B.size;have z2:=V.size;have z3:=m2.size;rcases K with(K|K)|K;·exact .inl K
    ·exact .inr ⟨K.1,by omega⟩
    ·exact .inr ⟨by omega,K.2⟩) (ai.bd.ext c5)) c5)
  rw[h0]at U;generalize s.change c=s2 at U ah ag HW aj HM LF;clear al h0;unfold Fb at U;rw[hc]at U;clear hc;have HB:=O hb;have OK:=O ok;clear ai aa J ae I d am an h ok hb;unfold ptr at*;unfold Yy.cells at hW;unfold Yy.cells;go_enter func29,ntmps29;go_wp2_with fail;rw[←hW];clear hW k2;refine Qj [(0,0),(0,1),(0,2),(0,3),(0,4),(0,5),(0,6),(0,7),(0,8),(0,9),(0,10),(0,11),(2,12)] Zq (by kernel_rfl) (fun _ _ _ _ _ h=>h) ?_;simp only[Jk,Zf,Ze,Zd];iterate 6 (refine Jq (by kernel_rfl) (by go_simp;try rfl) ?_)
  try simp only[Act.put,Za,Zc,Zb]
  iterate 6 (refine Jq (by kernel_rfl) (by go_simp;try rfl) ?_)
  try simp only[Act.put,Za,Zc,Zb]
  refine J7 ?_;go_wp2_with fail;refine Jo ?_;first|rw[←hW1]|rw[e1,←hW1]
  clear hW1 e1 ac a1 c19 af;go_wp2_with fail;rw[←hW2];clear hW2 k0 k1 kf;refine Qj [(0,0),(0,1),(0,2),(0,3),(0,4),(0,5),(2,6),(0,7)] Zq (by kernel_rfl) (fun _ _ _ _ _ h=>h) ?_;simp only[Jk,Zf,Ze,Zd];iterate 6 (refine Jq (by kernel_rfl) (by go_simp;try rfl) ?_)
  try simp only[Act.put,Za,Zc,Zb]
  clear x1 x2 x3 x4 x5 x6 x7 x8 x9 ao ap aq ar au b0;refine J7 ?_;go_wp2_with fail;refine Zy U ?_;rintro w3⟨E,B⟩;have H3:=O E;have C3:=O B;have ak:=O (fun w4(V:Qc Qb w3 w4)=>V.blk E.blk.1 (fun h=>h));have ay:=O (fun w4(V:Qc Qb w3 w4)=>V.blk (av.o w3 B) (fun h=>h));have D3:=O (Zg Qb w3).drew;have b0:w3.drew.cell? ⟨b,0,none⟩=some (ptr sb):=(ak.o _ D3.o).at 0 rfl;have x1:w3.drew.cell? ⟨w.heap.size,1,none⟩=some (.int .i64 (1+(m:Int))):=(ay.o _ D3.o).at 1 rfl;have aw:=O (HW.o w3.drew (E.aB (Zg Qb w3).drew (Jl.none _)));unfold ptr at*;clear E B U HW;go_wp2_with fail;refine Jq (by kernel_rfl) (by go_simp;try rfl) ?_;try simp only[Act.put,Za,Zc,Zb]
  refine Jo ?_;go_wp2_with fail;refine Jp [(0,0),(0,1),(0,2),(0,3),(0,4),(0,5),(0,6),(2,7),(0,8),(0,9),(1,10),(2,11),(3,12)] (fun wv=>Qc (Qb) (w3) wv) Zq (by kernel_rfl) (fun _ _ _ _ _ h=>h) (Zj (Zg _ _)) ?_;simp only[Jk,Zf,Ze,Zd];iterate 7 (refine Xe (by kernel_rfl) (by go_simp;try rfl) ?_)
  try simp only[Act.put,Za,Zc,Zb]
  clear b0 x1;refine Yb ?_;go_wp2_with fail;refine Zo aw ?_;rintro e w4⟨q,rfl,V⟩;have C4:=O (D3.o.aA V);clear V aw;go_wp2_with fail;refine⟨C4.o,?_⟩;iterate 2 (refine Xe (by kernel_rfl) (by go_simp;try rfl) ?_)
  (refine Qy (by kernel_rfl) (fun wv hv=>by go_simp;try rfl) ?_;try simp only[Act.put,Za,Zc,Zb]);try simp only[Act.put,Za,Zc,Zb]
  refine Yb ?_;go_wp2_with fail;refine⟨C4.o,?_⟩;refine Km ?_;go_wp2_with fail;refine Ky ?_;have f0:w4.cell? ⟨b,66,none⟩=some (.bool true):=(ak.o _ C4.o).at 66 (E6 _ _ _ _);have ff:=(ak.o _ C4.o).frozen 66;have FF:=O (aj.o w3 w4 H3.o C3.o C4.o);clear aj;go_wp2_with fail;exact bodyPost_end (results_none rfl _ _ _) rfl ⟨rfl,_,FF.o.1,ah.o,ag.o,FF.o.2⟩
 ·rw[Sj h0]at U LF ag;have ah:Hi (Xp (N+16) s):=O (ok.more (by omega));have e6:(s.aG c==0)=false:=by simpa using h0
  generalize s.aG c=er at U e6;clear h0;unfold Fb at U;rw[hc]at U;clear hc;have HB:=O hb;have OK:=O ok;clear ai aa J ae I d am an h ok hb;unfold ptr at*;unfold Yy.cells at hW;unfold Yy.cells;go_enter func29,ntmps29;go_wp2_with fail;rw[←hW];clear hW k2;refine Qj [(0,0),(0,1),(0,2),(0,3),(0,4),(0,5),(0,6),(0,7),(0,8),(0,9),(0,10),(0,11),(2,12)] Zq (by kernel_rfl) (fun _ _ _ _ _ h=>h) ?_;simp only[Jk,Zf,Ze,Zd];iterate 6 (refine Jq (by kernel_rfl) (by go_simp;try rfl) ?_)
  try simp only[Act.put,Za,Zc,Zb]
  iterate 6 (refine Jq (by kernel_rfl) (by go_simp;try rfl) ?_)
  try simp only[Act.put,Za,Zc,Zb]
  refine J7 ?_;go_wp2_with fail;refine Jo ?_;first|rw[←hW1]|rw[e1,←hW1]
  clear hW1 e1 ac a1 c19 af;go_wp2_with fail;rw[←hW2];clear hW2 k0 k1 kf;refine Qj [(0,0),(0,1),(0,2),(0,3),(0,4),(0,5),(2,6),(0,7)] Zq (by kernel_rfl) (fun _ _ _ _ _ h=>h) ?_;simp only[Jk,Zf,Ze,Zd];iterate 6 (refine Jq (by kernel_rfl) (by go_simp;try rfl) ?_)
  try simp only[Act.put,Za,Zc,Zb]
  clear x1 x2 x3 x4 x5 x6 x7 x8 x9 ao ap aq ar au b0;refine J7 ?_;go_wp2_with fail;refine Zy U ?_;rintro w3⟨E,B⟩;have FF:=O (LF.o w3 E B);clear E B U;go_wp2_with fail;refine Jq (by kernel_rfl) (by go_simp;try rfl) ?_;try simp only[Act.put,Za,Zc,Zb]
  refine Jo ?_;go_wp2_with fail;exact bodyPost_end (results_none rfl _ _ _) rfl ⟨rfl,_,FF.o.1,ah.o,ag.o,FF.o.2⟩
end
section
variable{w:World}{F:Fp}{b:Nat}{s:Qf}{N:Nat}
theorem Qg9(h:Xc w F b s)(ok:Xp N s)(hb:∀c∈s.tree,c.sp.id<64)(hN:N<549755813000)(a:Yy)(hw:a.wf)(z:a.kind%6=2):
  Cl 29 #[ptr b,.agg a.cells.toArray] w fun e w'=>e=.returned (.tuple #[])∧∃s',Xc w' (Qn F w w') b s'∧Xp (N+16) s'∧(∀c∈s'.tree,c.sp.id<64)∧Qc F w w':=by
 obtain⟨sb,us,now,ps,h,ab,aj⟩:=h;obtain⟨m,hm,i1,i2,i3⟩:=Qot a.s.id;obtain⟨W,W1,q,K,I,PP⟩:=Rp h ab a m;obtain⟨hW,a1,af,c19,e1,hW1,k0,k1,kf,hW2,k2,Z,U,E,ae,ak,d⟩:=PP;have B:∀w' s',Xc w' (Qn K q w') b s'→Qc K q w'→Xc w' (Qn F w w') b s'∧Qc F w w':=fun w' s' g c=>d w' s' g (c.sub fun k z=>.inl z);have V:=U.aB (Zg Qb q).drew (Jl.none K);have aa:=(Zg Qb q).drew.blk E (fun h=>h);have D2:=O (Zg Qb q).drew;have HC:Hi (Cl 52 #[ptr sb,.int .i64 (1+(m:Int))] q.drew fun e w'=>e=.returned (.int .i64 (s.aP (1+(m:Int))))∧Xm sb us us w' (Qn K q w') b (s.drop (1+(m:Int))) I true ps∧Qc K q w'):=O (by
  obtain⟨G,hS,hG,ar,ac⟩:=V.sched;refine Zz (Qmd hS ok (1+(m:Int))) ?_;rintro w3⟨R,u⟩;obtain⟨m1,m2⟩:=ac w3 _ R u;exact⟨rfl,m1,m2.undrew⟩)
 have LF:Hi (∀w3,Xm sb us us w3 (Qn K q w3) b (s.drop (1+(m:Int))) I true ps→Qc K q w3→Xc w3 (Qn F w w3) b (s.drop (1+(m:Int)))∧Qc F w w3):=O (fun w3 R u=>
  B w3 _ ⟨sb,us,I,ps,R,ak,fun k h1 h2=>by rw[Qsf ok];exact aj k h1 h2⟩ u)
 have ag:=O (Qrp hb (1+(m:Int)));have e4:(a.kind.tmod 6==0)=false∧(a.kind.tmod 6==1)=false∧a.kind.tmod 6=2:=by rw[Int.tmod_eq_emod_of_nonneg hw.1];simp;omega
 obtain⟨e4,e5,e6⟩:=e4;have am:=O (fun w3(u:Qc K q w3)=>u.blk E ae);have b0:q.drew.cell? ⟨b,0,none⟩=some (ptr sb):=V.blk.1.at 0 rfl;have x1:q.drew.cell? ⟨w.heap.size,1,none⟩=some (.int .i64 (1+(m:Int))):=aa.at 1 rfl;clear V aa;by_cases h0:s.aP (1+(m:Int))=0
 ·have an:=ok.drop h0;have ah:Hi (Xp (N+16) (s.drop (1+(m:Int)))):=O (an.more (by omega));have ao:ps (1+m)=[]:=by
   rw[aj (1+m) (by omega) (by omega)];have e:((1+m:Nat):Int)=1+(m:Int):=by omega
   rw[e];have aq:=(Ng h0).1;cases hl:s.leaf (1+(m:Int))with
   |none=>exact Qbc hl
   |some l=>rw[Ov hl];exact ok.idle hl aq
  obtain⟨ra,J,ap⟩:∃ra J,us (1+m)=.slice ra 0 J:=by obtain⟨G,ac,_⟩:=U.rowOf (c:=1+m) (by omega);obtain⟨ra,J,e,_⟩:=ac.row;rw[ao]at e;exact⟨ra,J,e⟩
  have al:Hi (∀w3 w4,Xm sb us us w3 (Qn K q w3) b (s.drop (1+(m:Int))) I true ps→Qc K q w3→Qc Qb (w3.setCell ⟨b,66,none⟩ (.bool true)) w4→Xc w4 (Qn F w w4) b (s.drop (1+(m:Int)))∧Qc F w w4):=O (fun w3 w4 R u c4=>by
   obtain⟨m1,m2⟩:=R.fine;have c5:Qc K q (w3.setCell ⟨b,66,none⟩ (.bool true)):=u.trans m2 (fun k z=>z.elim .inl (fun z=>.inr z.1));have c6:Qc K q w4:=c5.trans c4 (fun k z=>z.elim);exact LF.o _ ((m1.aB c4 (Jl.none _)).more (fun k z=>by
    have z1:=u.size;have z2:=c4.size;have z3:=m2.size;rcases z with(z|z)|z;·exact .inl z
    ·exact .inr ⟨z.1,by omega⟩
    ·exact .inr ⟨by omega,by omega⟩) (U.bd.ext c6)) c6)
  rw[h0]at HC;generalize s.drop (1+(m:Int))=s2 at HC ah ag al LF;clear an h0 ao;have HB:=O hb;have OK:=O ok;clear U Z E ae B d ak aj h ok hb;unfold ptr at*;unfold Yy.cells at hW;unfold Yy.cells;go_enter func29,ntmps29;go_wp2_with fail;rw[←hW];clear hW k2;refine Qj [(0,0),(0,1),(0,2),(0,3),(0,4),(0,5),(0,6),(0,7),(0,8),(0,9),(0,10),(0,11),(2,12)] Zq (by kernel_rfl) (fun _ _ _ _ _ h=>h) ?_;simp only[Jk,Zf,Ze,Zd];iterate 6 (refine Jq (by kernel_rfl) (by go_simp;try rfl) ?_)
  try simp only[Act.put,Za,Zc,Zb]
  iterate 6 (refine Jq (by kernel_rfl) (by go_simp;try rfl) ?_)
  try simp only[Act.put,Za,Zc,Zb]
  refine J7 ?_;go_wp2_with fail;refine Jo ?_;first|rw[←hW1]|rw[e1,←hW1]
  clear hW1 e1 ab a1 c19 af;go_wp2_with fail;rw[←hW2];clear hW2 k0 k1 kf;refine Qj [(0,0),(0,1),(0,2),(0,3),(0,4),(0,5),(0,6),(2,7),(0,8)] Zq (by kernel_rfl) (fun _ _ _ _ _ h=>h) ?_;simp only[Jk,Zf,Ze,Zd];iterate 7 (refine Jq (by kernel_rfl) (by go_simp;try rfl) ?_)
  try simp only[Act.put,Za,Zc,Zb]
  clear x1 b0;refine J7 ?_;go_wp2_with fail;refine Zy HC ?_;rintro w3⟨R,u⟩;have H3:=O R;have C3:=O u;have D3:=(Zg Qb w3).drew;have ai:=D3.blk R.blk.1 (fun h=>h);have f0:w3.drew.cell? ⟨b,66,none⟩=some (.bool true):=ai.at 66 (E6 _ _ _ _);have ff:=ai.frozen 66;have x1:w3.drew.cell? ⟨w.heap.size,1,none⟩=some (.int .i64 (1+(m:Int))):=(D3.blk (am.o w3 u) (fun h=>h)).at 1 rfl;have y2:w3.drew.cell? ⟨b,2+(1+m),none⟩=some (us (1+m)):=ai.at _ (Sk _ _ _ _ (by omega));rw[ap]at y2;have k0:(0:Int)≤1+(m:Int):=by omega
  have k1:1+(m:Int)<64:=by omega
  have k2:(1+(m:Int)).toNat=1+m:=by omega
  clear R u HC D3 ai ap;go_wp2_with fail;refine Jq (by kernel_rfl) (by go_simp;try rfl) ?_;try simp only[Act.put,Za,Zc,Zb]
  refine Jo ?_;go_wp2_with fail;refine Qj [(0,0),(0,1),(0,2),(0,3),(0,4),(0,5),(0,6),(0,7),(0,8),(0,9),(0,10),(0,11),(0,12),(0,13),(0,14),(0,15),(0,16),(0,17),(0,18),(2,19)] Zq (by kernel_rfl) (fun _ _ _ _ _ h=>h) ?_;simp only[Jk,Zf,Ze,Zd];iterate 6 (refine Jq (by kernel_rfl) (by go_simp;try rfl) ?_)
  try simp only[Act.put,Za,Zc,Zb]
  iterate 7 (refine Jq (by kernel_rfl) (by go_simp;try rfl) ?_)
  try simp only[Act.put,Za,Zc,Zb]
  iterate 6 (refine Jq (by kernel_rfl) (by go_simp;try rfl) ?_)
  try simp only[Act.put,Za,Zc,Zb]
  refine J7 ?_;go_wp2_with fail;refine Jo ?_;go_wp2_with fail;have FF:=O (al.o w3 _ H3.o C3.o ((Zg Qb _).drew));exact bodyPost_end (results_none rfl _ _ _) rfl ⟨rfl,_,FF.o.1,ah.o,ag.o,FF.o.2⟩
 ·rw[I0 h0]at HC LF ag;have ah:Hi (Xp (N+16) s):=O (ok.more (by omega));have e7:(s.aP (1+(m:Int))==0)=false:=by simpa using h0
  generalize s.aP (1+(m:Int))=er at HC e7;clear h0;have HB:=O hb;have OK:=O ok;clear U Z E ae B d ak aj h ok hb;unfold ptr at*;unfold Yy.cells at hW;unfold Yy.cells;go_enter func29,ntmps29;go_wp2_with fail;rw[←hW];clear hW k2;refine Qj [(0,0),(0,1),(0,2),(0,3),(0,4),(0,5),(0,6),(0,7),(0,8),(0,9),(0,10),(0,11),(2,12)] Zq (by kernel_rfl) (fun _ _ _ _ _ h=>h) ?_;simp only[Jk,Zf,Ze,Zd];iterate 6 (refine Jq (by kernel_rfl) (by go_simp;try rfl) ?_)
  try simp only[Act.put,Za,Zc,Zb]
  iterate 6 (refine Jq (by kernel_rfl) (by go_simp;try rfl) ?_)
  try simp only[Act.put,Za,Zc,Zb]
  refine J7 ?_;go_wp2_with fail;refine Jo ?_;first|rw[←hW1]|rw[e1,←hW1]
  clear hW1 e1 ab a1 c19 af;go_wp2_with fail;rw[←hW2];clear hW2 k0 k1 kf;refine Qj [(0,0),(0,1),(0,2),(0,3),(0,4),(0,5),(0,6),(2,7),(0,8)] Zq (by kernel_rfl) (fun _ _ _ _ _ h=>h) ?_;simp only[Jk,Zf,Ze,Zd];iterate 7 (refine Jq (by kernel_rfl) (by go_simp;try rfl) ?_)
  try simp only[Act.put,Za,Zc,Zb]
  clear x1 b0;refine J7 ?_;go_wp2_with fail;refine Zy HC ?_;rintro w3⟨R,u⟩;have FF:=O (LF.o w3 R u);clear R u HC;go_wp2_with fail;refine Jq (by kernel_rfl) (by go_simp;try rfl) ?_;try simp only[Act.put,Za,Zc,Zb]
  refine Jo ?_;go_wp2_with fail;exact bodyPost_end (results_none rfl _ _ _) rfl ⟨rfl,_,FF.o.1,ah.o,ag.o,FF.o.2⟩
end
section
variable{w:World}{F:Fp}{b:Nat}{s:Qf}{N:Nat}
theorem Qha(h:Xc w F b s)(ok:Xp N s)(hb:∀c∈s.tree,c.sp.id<64)(hN:N<549755813000)(a:Yy)(hw:a.wf)(B:a.kind%6=3):
  Cl 29 #[ptr b,.agg a.cells.toArray] w fun e w'=>e=.returned (.tuple #[])∧∃s',Xc w' (Qn F w w') b s'∧Xp (N+16) s'∧(∀c∈s'.tree,c.sp.id<64)∧Qc F w w':=by
 obtain⟨sb,us,now,ps,h,an,ai⟩:=h;obtain⟨m,hm,i1,i2,i3⟩:=Qot a.s.id;replace i1:∀x,x=a.s.id→(IntKind.u64.wrap x).tmod 63=(m:Int):=fun x e=>by rw[e];exact i1
 obtain⟨W,W1,W2,F2,d,PP⟩:=Rp h an a m;obtain⟨hW,a1,af,c19,e1,hW1,k0,k1,kf,hW2,k2,U,al,Z,aa,au,E⟩:=PP;have am:∀w' s',Xc w' (Qn F2 W2 w') b s'→Qc F2 W2 w'→Xc w' (Qn F w w') b s'∧Qc F w w':=fun w' s' g c=>E w' s' g (c.sub fun k B=>.inl B);have a5:=al.aB (Zg Qb W2).drew (Jl.none F2);have a0:=(Zg Qb W2).drew.blk Z (fun h=>h);have D2:=O (Zg Qb W2).drew;obtain⟨n,hn,j1,j2,j3⟩:=Qot a.p.cls;replace j1:∀x,x=a.p.cls→(IntKind.u64.wrap x).tmod 63=(n:Int):=fun x e=>by rw[e];exact j1
 have J:=O (Zt (Zt i1 (Zt i2 i3)) (Zt j1 (Zt j2 j3)));clear i1 i2 i3 j1 j2 j3;obtain⟨q,hq⟩:∃q:Jr,q=⟨a.p.id,1+(n:Int),a.p.len,a.p.at_⟩:=⟨_,rfl⟩;have a7:W1.cell? ⟨w.heap.size,16,none⟩=some (.int .i64 a.p.cls):=U.at 16 rfl;have aw:=U.frozen 16;obtain⟨K,ac⟩:=Zx (W2.setCell ⟨w.heap.size,16,none⟩ (.int .i64 (1+(n:Int))));have ah:Qc (fun k=>k=w.heap.size) W2 K:=by rw[ac];exact(Zg (fun k=>k=w.heap.size) W2).setCell (a:=⟨w.heap.size,16,none⟩) _ (.inl rfl)
 have ar:=al.aB ah (fun k B e=>aa (e▸B));have V:Qh K w.heap.size ((a.withId (1+(m:Int))).withCls (1+(n:Int))).cells.toArray 74:=by rw[ac];exact Z.set' 16 (.int .i64 (1+(n:Int))) rfl
 have ag:=ar.aB (Zg Qb K).drew (Jl.none F2);have z:=(Zg Qb K).drew.blk V (fun h=>h);have Xg:w.heap.size<W2.heap.size:=Z.lt;have az:Bd F2 W2:=al.bd;have I:∀w' s',Xc w' (Qn F2 K w') b s'→Qc F2 K w'→Xc w' (Qn F w w') b s'∧Qc F w w':=fun w' s'⟨bf,bg,n',be,hg,bc,bd⟩hc=>by
  have z3:=ah.size;have z4:=hc.size;have e:K.heap.size=W2.heap.size:=by rw[ac];simp
  have cc:Qc (fun k=>F2 k∨k=w.heap.size) W2 w':=(ah.sub fun k e=>.inr e).aA (hc.sub fun k B=>.inl B);exact E w' s' ⟨bf,bg,n',be,hg.more (fun k B=>B.elim .inl (fun B=>.inr ⟨by omega,B.2⟩)) (fun k B=>B.elim (fun B=>by have:=az k B;omega) (fun B=>B.2)),bc,bd⟩ cc
 have HC:Hi (Cl 28 #[ptr sb,.agg #[.int .u64 q.id,.int .i64 q.cls,.int .i64 q.len,.int .u64 q.at_],.int .u64 d] K.drew fun e w'=>e=.returned (.int .i64 (s.aQ q))∧Xm sb us us w' (Qn F2 K w') b (s.push q d) d true ps∧Qc F2 K w'):=O (by
  obtain⟨G,hS,hG,ae,ao⟩:=ag.sched;refine Zz (Qbn hS ok hN q d (by omega)) ?_;rintro w3⟨h3,c3⟩;obtain⟨m1,m2⟩:=ao w3 _ h3 c3;exact⟨rfl,m1,m2.undrew⟩)
 have ap:Hi (∀c∈(s.push q d).tree,c.sp.id<64):=O (fun c hc=>hb c (by rw[←Qpn q d];exact hc));have e4:(a.kind.tmod 6==0)=false∧(a.kind.tmod 6==1)=false∧(a.kind.tmod 6==2)=false∧a.kind.tmod 6=3:=by rw[Int.tmod_eq_emod_of_nonneg hw.1];simp;omega
 obtain⟨e4,e5,e6,e7⟩:=e4;have a3:=O (fun w3(c3:Qc F2 K w3)=>c3.blk V aa);have b0:K.drew.cell? ⟨b,0,none⟩=some (ptr sb):=ag.blk.1.at 0 rfl;have b1:K.drew.cell? ⟨b,1,none⟩=some (.int .u64 d):=ag.blk.1.at 1 rfl;have x0:K.drew.cell? ⟨w.heap.size,15,none⟩=some (.int .u64 a.p.id):=z.at 15 rfl;have x1:K.drew.cell? ⟨w.heap.size,16,none⟩=some (.int .i64 (1+(n:Int))):=z.at 16 rfl;have x2:K.drew.cell? ⟨w.heap.size,17,none⟩=some (.int .i64 a.p.len):=z.at 17 rfl;have x3:K.drew.cell? ⟨w.heap.size,18,none⟩=some (.int .u64 a.p.at_):=z.at 18 rfl;clear a5 a0 ag z;by_cases h0:s.aQ q=0
 ·have aq:Hi (Xp (N+16) (s.push q d)):=O (ok.push d h0);have H0:=O h0;rw[h0]at HC;clear h0;have a2:q.cls=1+(n:Int):=by rw[hq]
  have R:((1+n:Nat):Int)=1+(n:Int):=by omega
  have n1:1≤1+n:=Nat.le_add_right 1 n;have n2:1+n<64:=Nat.add_lt_add_left hn 1;have av:(ps (1+n)).length+1≤4096:=by rw[ai (1+n) n1 n2,R,←a2];obtain⟨c,l,hc,bh,_,hl,hr⟩:=Mk H0.o;rw[Ov hl];obtain⟨lk,bj,_⟩:=ok.at hl;obtain⟨c',bb,a6,e1,_⟩:=lk.sp;have:=(Qam (ok.tree.may c' (Qm.aE bb).1) a6).2.1;have h1:=lk.many;have h2:¬l.q.length=l.pk:=fun e=>hr (.inl e);clear hr;omega
  have a4:=O av;have ay:Hi (∀w4,Xm sb us us w4 (Qn F2 K w4) b (s.push q d) d true ps→Qc F2 K w4→∃G:Fp,¬G b∧¬G w.heap.size∧∃(ra:Option Addr)(rl rc:Nat)(w6:World),(Builtin.append_ #[27,27] 27 #[us (1+n),.slice (some ⟨w4.heap.size,0,none⟩) 1 1]).run prog ((w4.alloc (.cells #[.int .u64 a.p.id,.int .i64 (1+(n:Int)),.int .i64 a.p.len,.int .u64 a.p.at_] 34)).drew)=.ok (.slice ra rl rc) w6∧Qc G w4 w6∧
    Xc (w6.setCell ⟨b,2+(1+n),none⟩ (.slice ra rl rc)) (Qn F w (w6.setCell ⟨b,2+(1+n),none⟩ (.slice ra rl rc))) b (s.push q d)∧Qc F w (w6.setCell ⟨b,2+(1+n),none⟩ (.slice ra rl rc))):=O (fun w4 h4 c4=>by
   obtain⟨G,hp,a9,ae,ao⟩:=h4.rowOf (c:=1+n) n2;have z4:=c4.size;have z3:=ah.size;have a8:Qc Qb w4 ((w4.alloc (.cells #[.int .u64 a.p.id,.int .i64 (1+(n:Int)),.int .i64 a.p.len,.int .u64 a.p.at_] 34)).drew):=((Zg Qb w4).alloc _).drew;have ba:Qh ((w4.alloc (.cells #[.int .u64 a.p.id,.int .i64 (1+(n:Int)),.int .i64 a.p.len,.int .u64 a.p.at_] 34)).drew) w4.heap.size #[.int .u64 a.p.id,.int .i64 (1+(n:Int)),.int .i64 a.p.len,.int .u64 a.p.at_] 34:=(Qh.new w4 _ _).drew;obtain⟨v',w6,r6,p6,c6⟩:=hp.append a4.o q _ a8 (a:=⟨w4.heap.size,0,none⟩) (c:=1) (fun j u hu=>by
    rw[Addr.add_lit,Nat.zero_add,ba.cell];rw[hq]at hu;simpa[Jr.cells]using hu) 27
   obtain⟨ra,rc,hv,_⟩:=p6.row;subst hv;obtain⟨m1,m2⟩:=h4.putRow (c:=1+n) n2 ao p6 c6;have c7:Qc F2 K (w6.setCell ⟨b,2+(1+n),none⟩ (.slice ra (ps (1+n)++[q]).length rc)):=c4.trans m2 (fun k B=>B.elim .inl (fun B=>.inr B.1));refine⟨G,ae,fun B=>(a9 _ B).elim aa (fun e=>by omega),ra,_,rc,w6,r6,c6,?_⟩;refine I _ _ ⟨sb,upd us (1+n) _,d,upd ps (1+n) (ps (1+n)++[q]),m1.more (fun k B=>Qn.trans c4.size m2.size k B) (ar.bd.ext c7),au,fun c h1 h2=>?_⟩ c7;rw[Qsg ok d H0.o,a2];by_cases e:c=1+n;·subst e;rw[Qbz,R,if_pos rfl,ai (1+n) n1 n2,R]
   ·rw[Qb0 _ _ e,if_neg (by omega),ai c h1 h2])
  generalize s.push q d=s2 at HC aq ap ay;rw[hq]at HC;clear H0 hq a2 I ar V ah a4 av n1 n2 R az Xg;obtain⟨⟨i1,i2,i3⟩,j1,j2,j3⟩:=J.o;have HB:=O hb;have OK:=O ok;clear al U Z aa am E au ai h ok hb;unfold ptr at*;unfold Yy.cells at hW;unfold Yy.cells;go_enter func29,ntmps29;go_wp2_with fail;rw[←hW];clear hW k2;refine Qj [(0,0),(0,1),(0,2),(0,3),(0,4),(0,5),(0,6),(0,7),(0,8),(0,9),(0,10),(0,11),(2,12)] Zq (by kernel_rfl) (fun _ _ _ _ _ h=>h) ?_;simp only[Jk,Zf,Ze,Zd];iterate 6 (refine Jq (by kernel_rfl) (by go_simp;try rfl) ?_)
  try simp only[Act.put,Za,Zc,Zb]
  iterate 6 (refine Jq (by kernel_rfl) (by go_simp;try rfl) ?_)
  try simp only[Act.put,Za,Zc,Zb]
  refine J7 ?_;go_wp2_with fail;refine Jo ?_;first|rw[←hW1]|rw[e1,←hW1]
  clear hW1 e1 an a1 c19 af;go_wp2_with fail;rw[←hW2];clear hW2 k0 k1 kf;rw[←ac];clear ac a7 aw;refine Qj [(0,0),(0,1),(0,2),(0,3),(0,4),(0,5),(0,6),(0,7),(0,8),(0,9),(2,10),(0,11)] Zq (by kernel_rfl) (fun _ _ _ _ _ h=>h) ?_;simp only[Jk,Zf,Ze,Zd];iterate 5 (refine Jq (by kernel_rfl) (by go_simp;try rfl) ?_)
  try simp only[Act.put,Za,Zc,Zb]
  iterate 5 (refine Jq (by kernel_rfl) (by go_simp;try rfl) ?_)
  try simp only[Act.put,Za,Zc,Zb]
  clear x0 x1 x2 x3 b0 b1;refine J7 ?_;go_wp2_with fail;refine Zy HC ?_;rintro w4⟨h4,c4⟩;obtain⟨G,ae,aj,ra,rl,rc,w6,r6,c6,g6,d6⟩:=ay.o w4 h4 c4;have FF:=O (Zt g6 d6);have C6:=O c6;have ax:=O h4.blk.1;have ak:=O (a3.o w4 c4);have NG:=O (Zt ae aj);obtain⟨v,hv⟩:=Zx (us (1+n));have ab:=O (fun(wv)(c:Qc G w4 wv)=>(show wv.cell? ⟨w.heap.size,16,none⟩=some (.int .i64 (1+(n:Int)))∧wv.cell? ⟨b,2+(1+n),none⟩=some v from⟨(c.blk ak.o NG.o.2).at 16 rfl,by rw[hv];exact(c.blk ax.o NG.o.1).at _ (Sk _ _ _ _ (by omega))⟩));have D4:=O (Zg G w4).drew;have x0:w4.drew.cell? ⟨w.heap.size,15,none⟩=some (.int .u64 a.p.id):=(D4.o.blk ak.o aj).at 15 rfl;have x1:w4.drew.cell? ⟨w.heap.size,16,none⟩=some (.int .i64 (1+(n:Int))):=(D4.o.blk ak.o aj).at 16 rfl;have x2:w4.drew.cell? ⟨w.heap.size,17,none⟩=some (.int .i64 a.p.len):=(D4.o.blk ak.o aj).at 17 rfl;have x3:w4.drew.cell? ⟨w.heap.size,18,none⟩=some (.int .u64 a.p.at_):=(D4.o.blk ak.o aj).at 18 rfl;have y6:=(c6.blk ax.o ae).frozen (2+(1+n));obtain⟨u6,bi⟩:∃u,w6.cell? ⟨b,2+(1+n),none⟩=some u:=⟨_,(c6.blk ax.o ae).at _ (Sk _ _ _ _ (by omega))⟩;rw[←hv]at r6;have k0:(0:Int)≤1+(n:Int):=by omega
  have k1:1+(n:Int)<64:=by omega
  have k2:(1+(n:Int)).toNat=1+n:=by omega
  clear h4 c4 HC ay g6 d6 c6 ae aj hv;go_wp2_with fail;refine Jq (by kernel_rfl) (by go_simp;try rfl) ?_;try simp only[Act.put,Za,Zc,Zb]
  refine Jo ?_;go_wp2_with fail;refine Jp [(1,0),(1,1),(1,2),(1,3),(1,4),(1,5),(1,6),(1,7),(1,8),(1,9),(1,10),(1,11),(0,12),(0,13),(1,16),(1,17),(2,14),(2,15),(0,18),(3,19)] (fun wv=>Qc (G) (w4) wv) Zq (by kernel_rfl) (fun _ _ _ _ _ h=>h) (Zj (Zg _ _)) ?_;simp only[Jk,Zf,Ze,Zd];iterate 3 (refine Qy (by kernel_rfl) (fun wv hv=>by go_simp;try rfl) ?_;try simp only[Act.put,Za,Zc,Zb])
  iterate 1 (refine Qy (by kernel_rfl) (fun wv hv=>by(obtain⟨z0,z1⟩:=ab.o wv hv);go_simp;try rfl) ?_;try simp only[Act.put,Za,Zc,Zb])
  iterate 3 (refine Qy (by kernel_rfl) (fun wv hv=>by go_simp;try rfl) ?_;try simp only[Act.put,Za,Zc,Zb])
  iterate 1 (refine Qy (by kernel_rfl) (fun wv hv=>by(obtain⟨z0,z1⟩:=ab.o wv hv);go_simp;try rfl) ?_;try simp only[Act.put,Za,Zc,Zb])
  iterate 3 (refine Qy (by kernel_rfl) (fun wv hv=>by go_simp;try rfl) ?_;try simp only[Act.put,Za,Zc,Zb])
  iterate 1 (refine Qy (by kernel_rfl) (fun wv hv=>by(obtain⟨z0,z1⟩:=ab.o wv hv);go_simp;try rfl) ?_;try simp only[Act.put,Za,Zc,Zb])
  try simp only[Act.put,Za,Zc,Zb]
  iterate 2 (refine Xe (by kernel_rfl) (by go_simp;try rfl) ?_)
  iterate 2 (refine Qy (by kernel_rfl) (fun wv hv=>by go_simp;try rfl) ?_;try simp only[Act.put,Za,Zc,Zb])
  try simp only[Act.put,Za,Zc,Zb]
  refine Yb ?_;go_wp2_with fail;refine⟨D4.o.alloc _,?_⟩;refine Yb ?_;go_wp2_with (at_builtin;refine Lib.wpList_append_run _ rfl (.tmp 137) (.tmp 140) 27 27 rfl _ _ rfl rfl _ _ r6 ?_);clear r6;go_wp2_with fail;refine⟨C6.o,?_⟩;refine Xe (by kernel_rfl) (by go_simp;try rfl) ?_;try simp only[Act.put,Za,Zc,Zb]
  refine Km ?_;go_wp2_with fail;refine Ky ?_;go_wp2_with fail;exact bodyPost_end (results_none rfl _ _ _) rfl ⟨rfl,_,FF.o.1,aq.o,ap.o,FF.o.2⟩
 ·rw[Qnm h0]at HC ap;have LF:Hi (∀w3,Xm sb us us w3 (Qn F2 K w3) b s d true ps→Qc F2 K w3→Xc w3 (Qn F w w3) b s∧Qc F w w3):=O (fun w3 h3 c3=>I w3 _ ⟨sb,us,d,ps,h3,au,ai⟩ c3);have aq:Hi (Xp (N+16) s):=O (ok.more (Nat.le_add_right N 16));have e8:(s.aQ q==0)=false:=by simpa using h0
  generalize s.aQ q=er at HC e8;rw[hq]at HC;clear h0 hq I ar V ah az Xg;obtain⟨⟨i1,i2,i3⟩,j1,j2,j3⟩:=J.o;have HB:=O hb;have OK:=O ok;clear al U Z aa am E au ai h ok hb;unfold ptr at*;unfold Yy.cells at hW;unfold Yy.cells;go_enter func29,ntmps29;go_wp2_with fail;rw[←hW];clear hW k2;refine Qj [(0,0),(0,1),(0,2),(0,3),(0,4),(0,5),(0,6),(0,7),(0,8),(0,9),(0,10),(0,11),(2,12)] Zq (by kernel_rfl) (fun _ _ _ _ _ h=>h) ?_;simp only[Jk,Zf,Ze,Zd];iterate 6 (refine Jq (by kernel_rfl) (by go_simp;try rfl) ?_)
  try simp only[Act.put,Za,Zc,Zb]
  iterate 6 (refine Jq (by kernel_rfl) (by go_simp;try rfl) ?_)
  try simp only[Act.put,Za,Zc,Zb]
  refine J7 ?_;go_wp2_with fail;refine Jo ?_;first|rw[←hW1]|rw[e1,←hW1]
  clear hW1 e1 an a1 c19 af;go_wp2_with fail;rw[←hW2];clear hW2 k0 k1 kf;rw[←ac];clear ac a7 aw;refine Qj [(0,0),(0,1),(0,2),(0,3),(0,4),(0,5),(0,6),(0,7),(0,8),(0,9),(2,10),(0,11)] Zq (by kernel_rfl) (fun _ _ _ _ _ h=>h) ?_;simp only[Jk,Zf,Ze,Zd];iterate 5 (refine Jq (by kernel_rfl) (by go_simp;try rfl) ?_)
  try simp only[Act.put,Za,Zc,Zb]
  iterate 5 (refine Jq (by kernel_rfl) (by go_simp;try rfl) ?_)
  try simp only[Act.put,Za,Zc,Zb]
  clear x0 x1 x2 x3 b0 b1;refine J7 ?_;go_wp2_with fail;refine Zy HC ?_;rintro w3⟨h3,c3⟩;have FF:=O (LF.o w3 h3 c3);clear h3 c3 HC;go_wp2_with fail;refine Jq (by kernel_rfl) (by go_simp;try rfl) ?_;try simp only[Act.put,Za,Zc,Zb]
  refine Jo ?_;go_wp2_with fail;exact bodyPost_end (results_none rfl _ _ _) rfl ⟨rfl,_,FF.o.1,aq.o,ap.o,FF.o.2⟩
end
end
section
attribute [local go_sem] Qp
attribute [local irreducible] Kl J9 Xo
section
variable{w:World}{F:Fp}{b:Nat}{s:Qf}{N:Nat}
theorem Qkh(h:Xc w F b s)(ok:Xp N s)(q:∀c∈s.tree,c.sp.id<64)(k:N<549755813000)(a:Yy)(u:a.wf):
  Cl 29 #[ptr b,.agg a.cells.toArray] w fun e w'=>e=.returned (.tuple #[])∧∃s',Xc w' (Qn F w w') b s'∧Xp (N+16) s'∧(∀c∈s'.tree,c.sp.id<64)∧Qc F w w':=by
 have z:a.kind%6=0∨a.kind%6=1∨a.kind%6=2∨a.kind%6=3∨4≤a.kind%6:=by omega
 rcases z with d|d|d|d|d;·exact Qg7 h ok q k a u d
 ·exact Qg8 h ok q k a u d
 ·exact Qg9 h ok q k a u d
 ·exact Qha h ok q k a u d
 ·exact Qhb h ok q k a u d
theorem Qec{w}:∀{L:List Ya},(∀P∈L,P w fun _=>False)→Oh L w fun _=>False
 |[],_=>fun k c=>c.elim
 |P::L,h=>Q7 (h P List.mem_cons_self) (Qec fun Q d=>h Q (Zr _ d)) (fun k c=>c.elim) (fun k c=>c) (fun k c=>c) (fun k c=>c.elim)
theorem Xc.start{w w1}{sb:Nat}{most:Int}(h:Qt w1 (Qn Qb w w1) sb (Qf.new most))(z:Qc Qb w w1):
  Xc (w1.alloc (.cells (Va sb 0 (fun _=>.slice none 0 0) true) 32)) (Qn Qb w (w1.alloc (.cells (Va sb 0 (fun _=>.slice none 0 0) true) 32))) w1.heap.size (Qf.new most)∧Qc Qb w (w1.alloc (.cells (Va sb 0 (fun _=>.slice none 0 0) true) 32)):=by
 have q:Qc Qb w1 (w1.alloc (.cells (Va sb 0 (fun _=>.slice none 0 0) true) 32)):=(Zg _ _).alloc _;have B:Qh (w1.alloc (.cells (Va sb 0 (fun _=>.slice none 0 0) true) 32)) w1.heap.size (Va sb 0 (fun _=>.slice none 0 0) true) 32:=Qh.new _ _ _;generalize w1.alloc (.cells (Va sb 0 (fun _=>.slice none 0 0) true) 32)=w2 at*;have s1:=z.size;have s2:=B.lt;have E:Qc Qb w w2:=z.aA q;have u:Bd (Qn Qb w w2) w2:=fun k d=>((Qr k).1 d).2;refine⟨⟨sb,fun _=>.slice none 0 0,0,fun _=>[],?_,by omega,fun c _ _=>(Qbc (s:=Qf.new most) rfl).symm⟩,E⟩;show Oh _ w2 _;unfold Qc9;refine Q7 (G:=fun k=>k=w1.heap.size) (H:=Qn Qb w w1) ⟨B,rfl,fun k e=>e▸s2⟩ ?_ ?_ (fun k e=>(Qr k).2 (by omega)) (fun k d=>(Qr k).2 (by have:=(Qr k).1 d;omega)) u;·refine Q7 (G:=Qn Qb w w1) (H:=fun _=>False) (Qt.obj.aB h q (Jl.none _)) ?_ (fun k _ d=>d) (fun k d=>d) (fun k d=>d.elim) (fun k d=>by have:=(Qr k).1 d;omega);refine Qec fun P I=>?_;obtain⟨c,_,rfl⟩:=Z3.1 I;exact Uh.nil (fun k d=>d.elim)
 ·intro k e d;have:=(Qr k).1 d;omega
theorem Qg6(sb:Nat):(Va sb 0 (fun _=>.slice none 0 0) true)=(Tryz.zeroCells32.setIfInBounds 0 (ptr sb)).setIfInBounds 66 (.bool true):=by kernel_rfl
theorem Qe4(most:Int)(l:List Yy)(a:Option Addr)(cap:Nat)(W)(q:most<1∨65536≤most):
  Cl 10 #[.int .i64 most,.slice a l.length cap] W fun e w'=>(e=.returned (.pointer none)∨∃k s,e=.returned (ptr k)∧Xc w' (Qn Qb W w') k s∧Xp 2400 s∧(∀c∈s.tree,c.sp.id<64))∧Qc Qb W w':=by
 have z:=O (Qiz most W q);clear q;go_enter func10,ntmps10;go_wp2_with fail;refine Zy z ?_;intro w1 d;have u:=O d;clear d;go_wp2;go_ret;exact⟨.inl rfl,u.o⟩
theorem Qch(most:Int)(l:List Yy)(a:Option Addr)(cap:Nat)(W)(hl:l.length≤150)(hr:Kb Yy.cells 20 W a l)(hw:∀x∈l,x.wf)(hm:¬(most<1∨65536≤most)):
  Cl 10 #[.int .i64 most,.slice a l.length cap] W fun e w'=>(e=.returned (.pointer none)∨∃gb s,e=.returned (ptr gb)∧Xc w' (Qn Qb W w') gb s∧Xp 2400 s∧(∀c∈s.tree,c.sp.id<64))∧Qc Qb W w':=by
 have HR:=O hr;have HW:=O hw;have R:=O (Qeb most (by omega) (by omega) W);have aa:=O (Xp.new (N:=0) (most:=most) (by omega) (by omega));clear hm hr hw;unfold ptr at*;go_enter func10,ntmps10;go_wp2_with fail;refine Zo R ?_;rintro e w1⟨sb,rfl,h1,c1⟩;obtain⟨W2,hW2⟩:=Zx (w1.alloc (.cells (Va sb 0 (fun _=>.slice none 0 0) true) 32));have ST:=O (Xc.start h1 c1);rw[←hW2]at ST;have I:=hW2;rw[Qg6]at I;clear h1 c1 R;unfold ptr at*;go_wp2_with fail;rw[←I];clear I hW2;go_loopw [8] (fun t8 wr=>∃(k:Nat)(s:Qf),t8=.int .i64 k∧k≤l.length∧Xc wr (Qn Qb W wr) w1.heap.size s∧Qc Qb W wr∧Xp (16*k) s∧∀c∈s.tree,c.sp.id<64) (fun t8 _=>l.length-(intOf t8).toNat);case atStart=>exact⟨0,_,rfl,Nat.zero_le _,ST.o.1,ST.o.2,aa.o,nofun⟩
 case round=>
  obtain⟨k,s,rfl,J,hG,hc,V,B⟩:=hrel;have HC:=O hc;have HG:=O hG;have K:=O V;have z:=O B;clear hc hG V B;by_cases d:k<l.length
  ·have hd:decide ((k:Int)<(l.length:Int))=true:=by simp;omega
   have ab:decide (k<l.length)=true:=by simpa using d
   have HP:=O (Qkh HG.o K.o z.o (by omega) l[k] (HW.o _ (List.getElem_mem d)));obtain⟨g,o,rfl,hj⟩:=HR.o k d;have ai:IntKind.i64.wrap ((k:Int)+1)=(k:Int)+1:=by rw[IntWalk.i64_in _ (by omega)]
   have k0:(0:Int)≤(k:Int):=by omega
   have k1:(k:Int)<(l.length:Int):=by omega
   generalize U:l[k]=act at hj HP;have HL:=O (show wr.rangeAt g (o+k*20) act.cells from fun j u hu=>HC.o.same (hj j u hu));clear hj U;go_wp2_with (with_reducible refine wpList_load_mid rfl 74 (.tmp 28) rfl g (o+k*20) rfl act.cells _ HL.o underlying74 rfl (by kernel_rfl) ?_);generalize act.cells.toArray=ac at HP⊢;refine Zy HP ?_;rintro w3⟨s3,g3,Z,E,c3⟩;have q:=O (show Xc w3 (Qn Qb W w3) w1.heap.size s3∧Qc Qb W w3∧Xp (16*(k+1)) s3∧∀c∈s3.tree,c.sp.id<64 from by
    have cc:Qc Qb W w3:=HC.o.trans c3 (fun k J=>.inr ((Qr k).1 J).1);obtain⟨ag,ah,n',af,hg,ae,hq⟩:=g3;refine⟨⟨ag,ah,n',af,hg.more (fun k J=>Qn.trans HC.o.size c3.size k J) (fun k J=>((Qr k).1 J).2),ae,hq⟩,cc,?_,E⟩;rw[Nat.mul_add];exact Z)
   clear g3 Z E c3;go_wp2;go_roundw;case measure=>simp only[intOf];omega
   case rel=>exact⟨k+1,s3,by rw[←Int.natCast_one,←Int.natCast_add],by omega,q.o.1,q.o.2.1,q.o.2.2.1,q.o.2.2.2⟩
  ·have hd:decide ((k:Int)<(l.length:Int))=false:=by simp;omega
   have ab:decide (k<l.length)=false:=by simpa using d
   have q:=O (Zt HG.o (Zt (K.o.more (show 16*k≤2400 by omega)) z.o));go_wp2;go_ret;exact⟨.inr ⟨_,s,rfl,q.o.1,q.o.2.1,q.o.2.2⟩,HC.o⟩
theorem Te(most:Int)(l:List Yy)(a:Option Addr)(cap:Nat)(W)(hl:l.length≤150)(hr:Kb Yy.cells 20 W a l)(q:∀x∈l,x.wf):
  Cl 10 #[.int .i64 most,.slice a l.length cap] W fun e w'=>(e=.returned (.pointer none)∨∃d s,e=.returned (ptr d)∧Xc w' (Qn Qb W w') d s∧Xp 2400 s∧(∀c∈s.tree,c.sp.id<64))∧Qc Qb W w':=by
 by_cases k:most<1∨65536≤most;·exact Qe4 most l a cap W k
 ·exact Qch most l a cap W hl hr q k
end
end
theorem Aa:∀{l:List Xu}{s:Nat×Int},low l=some s→∀e∈l,e.2.2=s.1→s.2≤e.2.1
 |e::l,s,h,f,hf,he=>by
  rw[low]at h;cases hl:low l with
  |none=>
   rw[hl]at h;obtain rfl:=Zs h;rw[Ei hl]at hf;obtain rfl:f=e:=by simpa using hf
   exact Int.le_refl _
  |some q=>
   rw[hl]at h;obtain rfl:=Zs h;have c:=Cn hl;rcases Zu.1 hf with rfl|hf
   ·unfold Xn at he⊢;split;·exact Int.le_refl _
    ·rename_i h';simp only[not_or,not_and]at h';rw[if_neg (by simp only[not_or,not_and];exact h')]at he;have:=h'.2.2 he;exact Int.not_lt.1 this
   ·have h1:=c f hf;unfold Xn at he⊢;split
    ·rename_i h';rw[if_pos h']at he;dsimp only at he⊢;rcases h' with h'|h'|h';·rw[←h']at hl;have:=Aa hl f hf he;exact this
     ·dsimp only at h';omega
     ·have:=Aa hl f hf (by rw[he];exact h'.1);have:=h'.2;dsimp only at this;omega
    ·rename_i h';rw[if_neg h']at he;exact Aa hl f hf he
section
variable{s:Qf}{N:Nat}
def Qf.fit(s:Qf)(i:Int):Nat:=s.pick.fitAt i
theorem Xp.row_of(h:Xp N s){a b:Nat}{i:Int}(u:(a,i,b)∈s.row):s.elig i=a∧s.due i=b∧∃l,s.leaf i=some l∧l.q≠[]:=by
 obtain⟨l,d,hl,q,k,rfl,rfl⟩:=(h.row a i b).1 u;have c:s.leaf i=some l:=hl;refine⟨?_,?_,l,c,?_⟩;·unfold Qf.elig;rw[c];simp[q,Ju.from_,k]
 ·unfold Qf.due;rw[c];simp[q,Ju.dueAt,k]
 ·have:=((h.at c).1.debt d q).2.2;rw[k]at this;exact of_decide_eq_true this.symm
theorem Xp.row_has(h:Xp N s){now:Nat}(hn:now<Qq){i:Int}(k:s.elig i≤now):(s.elig i,i,s.due i)∈s.row:=by
 unfold Qf.elig Qf.due at*;cases hl:s.leaf i with
 |none=>rw[hl]at k;simp at k;omega
 |some l=>
  rw[hl]at k;cases q:l.debt with
  |none=>simp[q]at k;omega
  |some d=>
   simp only[Option.bind_some,q,Zn,Option.getD_some]at k⊢;unfold Ju.from_ at k;by_cases c:d.aL=true
   ·refine(h.row _ i _).2 ⟨l,d,hl,q,c,?_,?_⟩;·simp[Ju.from_,c]
    ·simp[Ju.dueAt,c]
   ·rw[if_neg c]at k;omega
theorem Xp.least_none(h:Xp N s){now:Nat}(hn:now<Qq)(ha:Jt now s.row=none)(i:Int):¬s.elig i≤now:=fun d=>by have k:=h.row_has hn d;unfold Jt at ha;have:=Ei ha;have c:(s.elig i,i,s.due i)∈s.row.filter fun e=>decide (e.1≤now):=List.mem_filter.2 ⟨k,by simpa using d⟩;rw[this]at c;cases c
theorem Xp.least_some(h:Xp N s){now:Nat}(hn:now<Qq){x:Nat×Int}(ha:Jt now s.row=some x):
  s.elig x.2≤now∧s.due x.2=x.1∧(∀i,s.elig i≤now→x.1≤s.due i∧(s.due i=x.1→x.2≤i))∧∃l,s.leaf x.2=some l∧l.q≠[]:=by
 unfold Jt at ha;obtain⟨a,d⟩:=Sq ha;obtain⟨d,c⟩:=List.mem_filter.1 d;obtain⟨e1,q,u⟩:=h.row_of d;refine⟨by rw[e1];simpa using c,q,fun i hi=>?_,u⟩;have k:(s.elig i,i,s.due i)∈s.row.filter fun e=>decide (e.1≤now):=List.mem_filter.2 ⟨h.row_has hn hi,by simpa using hi⟩;exact⟨Cn ha _ k,fun e=>Aa ha _ k e⟩
end
section
variable{p:Qe}{N:Nat}{dep:Int→Nat}
def Qe.fits(p:Qe)(now:Nat)(i:Int):Prop:=p.aL i=true∧∃c,p.at i=some c∧c.fit≤now
theorem Nh{now:Nat}(hn:now<Qq){i:Int}:p.fits now i↔p.fitAt i≤now:=by
 unfold Qe.fits Qe.fitAt;constructor;·rintro⟨ha,c,hc,hf⟩;rw[if_pos ha,hc];exact hf
 ·intro h;by_cases ha:p.aL i=true
  ·rw[if_pos ha]at h;cases hc:p.at i with
   |none=>rw[hc]at h;simp at h;omega
   |some c=>rw[hc]at h;exact⟨ha,c,rfl,h⟩
  ·rw[if_neg ha]at h;omega
theorem Ad{v:Nat}{l:List Xu}{e:Xu}(c:Xf v l=some e):e∈l∧e.2.2≤v:=by unfold Xf at c;exact⟨List.mem_of_find?_eq_some c,by simpa using List.find?_some c⟩
theorem Qug{v:Nat}{l:List Xu}(c:Xf v l=none):∀e∈l,¬e.2.2≤v:=by unfold Xf at c;simpa using List.find?_eq_none.1 c
theorem Qd5{n:Nat}{i x:Int}(d:x∈p.path n i):∃m c,n=m+1∧0<i∧p.at i=some c∧(x=i∨x∈p.path m c.par):=by
 cases n with
 |zero=>rw[Qe.path]at d;cases d
 |succ m=>
  rw[Qe.path]at d;by_cases hi:i<1;·rw[if_pos hi]at d;cases d
  ·rw[if_neg hi]at d;cases hc:p.at i with
   |none=>rw[hc]at d;cases d
   |some c=> rw[hc]at d;exact⟨m,c,rfl,by omega,rfl,Zu.1 d⟩
theorem Qdw(I:Uz p)(now:Nat):∀(n:Nat)(i j:Int),p.next now n i=some j→(∀m,∀x∈p.path m i,p.fits now x)→∀m,∀x∈p.path m j,p.fits now x
 |0,i,j,h,_=>by rw[Qe.next]at h;cases h
 |n+1,i,j,h,hi=>by
  rw[Qe.next]at h;cases hc:p.at i with
  |none=>rw[hc]at h;cases h
  |some c=>
   rw[hc]at h;dsimp only at h;by_cases hl:c.leaf=true;·rw[if_pos hl]at h;obtain rfl:=Zs h;exact hi
   ·rw[if_neg hl]at h;cases E:Xf now c.tree with
    |none=>rw[E]at h;cases h
    |some e=>
     rw[E]at h;dsimp only at h;obtain⟨a,k,b⟩:=e;obtain⟨U,K⟩:=Ad E;obtain⟨_,R,_,J,u,B,z⟩:=(I.ent k i c hc a b).1 U;refine Qdw I now n k j h fun m x d=>?_;obtain⟨V,c',rfl,_,q,d⟩:=Qd5 d;rw[u]at q;obtain rfl:=Zs q;rcases d with rfl|d;·exact⟨R,J,u,by rw[←z];exact K⟩
     ·rw[B]at d;exact hi V x d
theorem Ib{l:List Xu}{v:Nat}{x:Nat×Int}(h:low l=some x)(k:x.1≤v):∃e,Xf v l=some e:=by
 obtain⟨a,d⟩:=Sq h;cases c:Xf v l with
 |some e=>exact⟨e,rfl⟩
 |none=>exact absurd k (Qug c _ d)
theorem Qay(ok:Qs dep N p)(K:Uz p){now:Nat}(hn:now<Qq):∀(n:Nat)(i:Int),0<i→(∃c,p.at i=some c∧c.fit≤now)→8-dep i<n→∃j,p.next now n i=some j
 |0,_,_,_,h=>by omega
 |n+1,i,hi,⟨c,hc,hf⟩,hd=>by
  rw[Qe.next,hc];dsimp only;by_cases hl:c.leaf=true;·exact⟨i,by rw[if_pos hl]⟩
  ·rw[if_neg hl];unfold Qx.fit at hf;dsimp only at hf;rw[if_neg hl]at hf;cases d:low c.tree with
   |none=>rw[d]at hf;dsimp only at hf;omega
   |some x=> rw[d]at hf;dsimp only at hf;obtain⟨e,J⟩:=Ib d (show x.1≤now by omega);rw[J];dsimp only;obtain⟨a,k,b⟩:=e;obtain⟨U,R⟩:=Ad J;obtain⟨E,V,_,I,q,z,u⟩:=(K.ent k i c hc a b).1 U;have B:=(ok.up.2 I (Qe.aE q).1 (by rw[(Qe.aE q).2];omega)).2.2;rw[(Qe.aE q).2,z]at B;exact Qay ok K hn n k E ⟨I,q,by rw[←u];exact R⟩ (by omega)
theorem Qdx(ok:Qs dep N p)(U:Uz p){now:Nat}(hn:now<Qq):(∃j,p.next now 10 0=some j)↔p.tick≤now:=by
 obtain⟨r,hr,K⟩:=ok.root;unfold Qe.tick;rw[Qe.next,hr];dsimp only;rw[if_neg (by rw[K];exact Bool.false_ne_true)];cases c:low r.tree with
 |none=>
  rw[Ei c];refine⟨fun⟨j,h⟩=>?_,fun h=>?_⟩;·cases h
  ·dsimp only at h;omega
 |some x=>
  dsimp only;constructor
  ·rintro⟨j,h⟩;cases q:Xf now r.tree with
   |none=>rw[q]at h;cases h
   |some e=> obtain⟨J,B⟩:=Ad q;exact Zp (Cn c e J) B
  ·intro V;obtain⟨e,q⟩:=Ib c V;rw[q];dsimp only;obtain⟨a,k,b⟩:=e;obtain⟨J,B⟩:=Ad q;obtain⟨I,Z,_,R,d,z,u⟩:=(U.ent k 0 r hr a b).1 J;have E:=(ok.up.2 R (Qe.aE d).1 (by rw[(Qe.aE d).2];omega)).2.2;rw[(Qe.aE d).2,z]at E;exact Qay ok U hn 9 k I ⟨R,d,by rw[←u];exact B⟩ (by omega)
theorem Qpc(ok:Qs dep N p)(K:Uz p){now:Nat}(hn:now<Qq){i:Int}{c:Qx}(hc:p.at i=some c)(hi:0<i)(hf:∀x∈p.path 9 i,p.fits now x):∃j,p.next now 10 0=some j:=by
 refine(Qdx ok K hn).2 ?_;obtain⟨E,J,R⟩:=De ok hc;have top:∀(l:List Int),l≠[]→Vy p l→(∀x∈l,p.fits now x)→p.tick≤now:=by
  intro l;induction l with
  |nil=>exact fun h=>absurd rfl h
  |cons a l ih=>
   intro _ U q;obtain⟨h0,⟨c,hc,V⟩,hr⟩:=U;by_cases hl:l=[]
   ·subst hl;obtain⟨ha,c',k,u⟩:=q a List.mem_cons_self;rw[hc]at k;obtain rfl:=Zs k;have I:c.par=0:=V;obtain⟨r,z,Z⟩:=ok.root;have B:=(K.ent a 0 r z (p.v a) c.fit).2 ⟨h0,ha,rfl,c,hc,I,rfl⟩;unfold Qe.tick;rw[z];dsimp only;cases d:low r.tree with
    |none=>rw[Ei d]at B;cases B
    |some x=>exact Zp (Cn d _ B) u
   ·exact ih hl hr fun x hx=>q x (Zr _ hx)
 refine top _ (fun e=>?_) E hf;rw[e]at J;have:i=0:=J.symm;omega
end
section
def Quv:Yk:=⟨1,0,true,⟨0,0,256⟩,⟨0,0,0⟩,⟨0,0,0⟩,5,1000⟩
def Quw:Yk:=⟨2,0,true,⟨0,0,0⟩,⟨0,0,256⟩,⟨0,0,0⟩,5,1000⟩
def Im:Jr:=⟨1,1,100,0⟩
def In:Jr:=⟨2,2,100,0⟩
def aw0:Qf:=.new 1500
def aw1:Qf:=aw0.add Quv
def aw2:Qf:=aw1.add Quw
def aw3:Qf:=aw2.push Im 0
def aw4:Qf:=aw3.push In 0
def aw5:Qf:=aw4.push Im 0
def aw6:Qf:=aw5.push In 0
def aw7:Qf:=(aw6.next 0).2
def aw8:Qf:=(aw7.next 1).2
def aw9:Qf:=(aw8.next 99).2
def aw10:Qf:=(aw9.next 99).2
def aw11:Qf:=(aw10.next 100).2
set_option maxRecDepth 100000
theorem Qvj:aw0.aO Quv=0:=by decide+kernel
theorem Qvk:aw1.aO Quw=0:=by decide+kernel
theorem Qvf:aw2.aQ Im=0:=by decide+kernel
theorem Qvg:aw3.aQ In=0:=by decide+kernel
theorem Qvh:aw4.aQ Im=0:=by decide+kernel
theorem Qvi:aw5.aQ In=0:=by decide+kernel
set_option maxRecDepth 100000
theorem Qvw:(aw6.next 0).1=some ⟨Im,1,100⟩:=by rfl
theorem Qvx:(aw7.next 1).1=some ⟨In,2,0⟩:=by rfl
theorem Qvy:(aw8.next 99).1=some ⟨In,2,0⟩:=by rfl
theorem Qvt:(aw9.next 99).1=none:=by rfl
theorem Qvu:aw10.tick=100:=by rfl
theorem Qvv:(aw10.next 100).1=some ⟨Im,1,200⟩:=by rfl
theorem Qvs:aw11.aQ ⟨0,9,5,0⟩=81:=by decide+kernel
theorem aw_ok0:Xp 0 aw0:=Xp.new (by decide) (by decide)
theorem aw_ok1:Xp 0 aw1:=aw_ok0.add Qvj
theorem aw_ok2:Xp 0 aw2:=aw_ok1.add Qvk
theorem aw_ok3:Xp 16 aw3:=aw_ok2.push 0 Qvf
theorem aw_ok4:Xp 32 aw4:=aw_ok3.push 0 Qvg
theorem aw_ok5:Xp 48 aw5:=aw_ok4.push 0 Qvh
theorem aw_ok6:Xp 64 aw6:=aw_ok5.push 0 Qvi
theorem aw_ok7:Xp 80 aw7:=aw_ok6.next 0
theorem aw_ok8:Xp 96 aw8:=aw_ok7.next 1
theorem aw_ok9:Xp 112 aw9:=aw_ok8.next 99
theorem aw_ok10:Xp 128 aw10:=aw_ok9.next 99
theorem Qtd:Xp 144 aw11:=aw_ok10.next 100
end
end Go.Proofs.YtnnhmpehkbihnaaGreat
