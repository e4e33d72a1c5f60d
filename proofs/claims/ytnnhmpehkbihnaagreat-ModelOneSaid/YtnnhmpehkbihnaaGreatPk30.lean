/- A part of the proof: no condition. -/
import Derived.Test.YtnnhmpehkbihnaaGreatPk28
import Derived.Test.YtnnhmpehkbihnaaGreatPk29
namespace Go.Proofs.YtnnhmpehkbihnaaGreat
set_option linter.unusedVariables false
set_option maxRecDepth 100000
set_option maxHeartbeats 4000000
open Go.RowKit
open Go.Proofs.Tryz
section
attribute [local go_sem] Qp
attribute [local irreducible] Kl J9
section
variable{A:Dz}{w:World}{F:Fp}{b:Nat}{p:Qe}{N:Nat}{dep:Int→Nat}
def Dz.lim(A:Dz)(i:Int)(vb:Value):Dz:=⟨A.m,A.ad,fun j=>if j=i then vb else A.vl j,A.pf,A.pt⟩
theorem Qq7{i:Int}{vb:Value}{c:Qx}(h:c.id≠i):Sy (A.lim i vb) c=Sy A c:=by unfold Sy Dz.lim;simp only[h,if_false]
theorem Qo.renewed(h:Qo A w F b p){c c':Qx}(hc:c∈p)(E:c'.id=c.id)(hm:c'.mem=c.mem)(ht:c'.tree=c.tree){w0 w1 w2}{vb:Nat}(Z:Qc Qb w w0)(c1:Qc Qb w0 w1)(hl:Ho w1 (Qn Qb w0 w1) vb c'.limit)
  (c2:Qc (fun k=>k=A.ad c.id) w1 w2) (hb:Qh w2 (A.ad c.id) (Pn c' (ptr vb) (A.pf c.id) (A.pt c.id)) 143):Qo (A.lim c.id (ptr vb)) w2 (Qn F w w2) b (p.set c')∧Qc F w w2:=by
 have am:=(Qo.obj A).bd h;obtain⟨l,hp,hs⟩:=h;obtain⟨H,h1,h2,_,h3⟩:=Xv 1 (Vh A b l) rfl hs;have ag:c∈l:=hp.mem_iff.2 hc;obtain⟨G,k1,k2,k3⟩:=h1.ex;have ab:=(k1 c ag).2;obtain⟨af,G0,R0,g0,ai,d0,s0,s1⟩:=ab;obtain⟨_,G1,R1,g1,aj,d1,s2,s3⟩:=ai;obtain⟨_,G2,R2,g2,ak,d2,s4,s5⟩:=aj;obtain⟨_,G3,R3,g3,_,d3,s6,_⟩:=ak;have cc:Qc (G c.id) w w2:=(Z.none.aA c1.none).aA (c2.sub fun k d=>d▸s0 _ g0.2.1);have cH:Qc H w w2:=cc.sub fun k d=>(k2 _ k d).1;have u:Bd (G c.id) w:=af;have cA:Qc Qb w w1:=Z.aA c1;have z1:=c1.size;have z2:=c2.size;have z0:=Z.size;have K:∀k,G2 k→k≠A.ad c.id:=fun k d e=>d0 (A.ad c.id) g0.2.1 (s3 _ (s4 _ (e▸d)));have R:∀k,G3 k→k≠A.ad c.id:=fun k d e=>d0 (A.ad c.id) g0.2.1 (s3 _ (s5 _ (s6 _ (e▸d))));have z:∀k,G2 k→G c.id k:=fun k d=>s1 _ (s3 _ (s4 _ d));have q:∀k,G3 k→G c.id k:=fun k d=>s1 _ (s3 _ (s5 _ (s6 _ d)));have ae:A.ad c.id<w.heap.size:=u _ (s0 _ g0.2.1);have f2:J0 w2 G2 (A.pf c.id) c'.mem:=by rw[hm];exact J0.obj.aB (J0.obj.aB g2 cA (Jl.none _)) c2 (fun k d e=>K k d e)
 have f3:Jg w2 G3 (A.pt c.id) c'.tree:=by rw[ht];exact Jg.obj.aB (Jg.obj.aB g3 cA (Jl.none _)) c2 (fun k d e=>R k d e)
 have f1:Do (ptr vb) c'.limit w2 (Qn Qb w0 w1):=.inr ⟨vb,rfl,Ho.obj.aB hl c2 (fun k d e=>by have:=((Qr k).1 d).1;omega)⟩;have aa:Bd (Qn (G c.id) w w2) w2:=u.ext cc;have hX:Um (A.lim c.id (ptr vb)) w2 (Qn (G c.id) w w2) (A.ad c.id) c':=by
  refine⟨by rw[E];rfl,?_⟩;have e2:(A.lim c.id (ptr vb)).vl c'.id=ptr vb:=by simp[Dz.lim,E]
  unfold Sy;rw[e2];show Oh [Tv (A.ad c'.id) (Pn c' (ptr vb) (A.pf c'.id) (A.pt c'.id)) 143,Do (ptr vb) c'.limit,fun w F=>J0 w F (A.pf c'.id) c'.mem,fun w F=>Jg w F (A.pt c'.id) c'.tree] w2 _;rw[E];have V:∀{U:Fp},(∀k,U k→Qn (G c.id) w w2 k)→Bd U w2:=fun hU=>aa.sub hU;have u1:∀k,Qn Qb w0 w1 k→Qn (G c.id) w w2 k:=fun k d=>.inr ⟨by have:=((Qr k).1 d).1;omega,by have:=((Qr k).1 d).2;omega⟩;refine Q7 (G:=fun k=>k=A.ad c.id) (H:=fun k=>Qn Qb w0 w1 k∨G2 k∨G3 k) ⟨hb,rfl,fun k e=>e▸hb.lt⟩ ?_ ?_ (fun k e=>e▸ .inl (s0 _ g0.2.1)) ?_ aa
  ·refine Q7 (G:=Qn Qb w0 w1) (H:=fun k=>G2 k∨G3 k) f1 ?_ ?_ (fun k d=>.inl d) (fun k d=>.inr d) (V fun k d=>d.elim (u1 k) (fun d=>d.elim (fun d=>.inl (z k d)) (fun d=>.inl (q k d))));·refine Q7 (G:=G2) (H:=G3) f2 (Y6 f3 (V fun k d=>.inl (q k d))) (fun k a b=>d2 k a (s6 _ b)) (fun k d=>.inl d) (fun k d=>.inr d) (V fun k d=>d.elim (fun d=>.inl (z k d)) (fun d=>.inl (q k d)))
   ·intro k d I;have:=((Qr k).1 d).1;rcases I with I|I;·have:=u k (z k I);omega
    ·have:=u k (q k I);omega
  ·rintro k rfl d;rcases d with d|d|d;·have:=((Qr _).1 d).1;omega
   ·exact K _ d rfl
   ·exact R _ d rfl
  ·intro k d;rcases d with d|d|d;·exact u1 k d
   ·exact .inl (z k d)
   ·exact .inl (q k d)
 have al:=h1.map.lt;have hC:Yn Qx.id (Um (A.lim c.id (ptr vb))) w2 (Qn H w w2) A.m A.ad (Lg Qx.id c' l):=by
  refine⟨?_,h1.bd.ext cH,.inl h1.at_,fun i=>if i=c.id then Qn (G c.id) w w2 else G i,?_,?_,?_⟩;·rw[Qcy];exact h1.map.aB cc fun B=>(k2 _ _ B).2 rfl
  ·intro y hy;rcases Qao (x:=c) h1.nodup hy with rfl|⟨hy,ah⟩;·dsimp only;rw[E,if_pos rfl];exact hX
   ·dsimp only;have J:y.id≠c.id:=by rw[←E];exact ah
    rw[if_neg J];have ac:=(Um.obj A).aB (k1 y hy) cc (fun k a b=>J (k3 _ _ k a b));exact⟨ac.1,by rw[Qq7 J];exact ac.2⟩
  ·intro i k B;try dsimp only at B
   split at B
   ·rcases B with B|B;·exact⟨.inl (k2 _ k B).1,(k2 _ k B).2⟩
    ·exact⟨.inr B,by omega⟩
   ·exact⟨.inl (k2 i k B).1,(k2 i k B).2⟩
  ·intro i j k a b;try dsimp only at a b
   split at a<;>split at b;·rename_i e1 e2;rw[e1,e2]
   ·rename_i e1 e2;rcases a with a|a;·rw[e1];exact k3 _ _ k a b
    ·have:=h1.bd k (k2 j k b).1;omega
   ·rename_i e1 e2;rcases b with b|b;·rw[e2];exact k3 _ _ k a b
    ·have:=h1.bd k (k2 i k a).1;omega
   ·exact k3 _ _ k a b
 have e3:=h3 w2 (fun w G=>Yn Qx.id (Um (A.lim c.id (ptr vb))) w G A.m A.ad (Lg Qx.id c' l)) cH hC;exact⟨⟨Lg Qx.id c' l,hp.map _,e3⟩,cH.sub h2⟩
theorem Qt0{i:Int}{c:Qx}{g:Qx→Qx}(hn:(p.map Qx.id).Nodup)(hc:p.at i=some c)(k:(g c).id=c.id):(p.map fun x=>if x.id=i then g x else x)=p.set (g c):=by
 obtain⟨u,d⟩:=Qe.aE hc;unfold Qe.set;refine List.map_congr_left fun x q=>?_;rw[k,d];by_cases e:x.id=i;·rw[if_pos e,if_pos e];have h1:=Qe.at_of hn q;rw[e,hc]at h1;rw[Zs h1]
 ·rw[if_neg e,if_neg e]
theorem Qso{x y:Qx}(h:x.id≠y.id):(p.set x).set y=(p.set y).set x:=by
 unfold Qe.set;rw[List.map_map,List.map_map];refine List.map_congr_left fun z _=>?_;simp only[Function.comp];by_cases h1:z.id=x.id;·rw[if_pos h1,if_neg h,if_neg (fun e=>h (h1.symm.trans e)),if_pos h1]
 ·rw[if_neg h1];by_cases c:z.id=y.id;·rw[if_pos c,if_neg (fun e=>h e.symm)]
  ·rw[if_neg c,if_neg h1]
def Uk(c:Qx)(s:Yk):Qx:={c with aJ:=s.aJ,total:=0,limit:=Ha s.aN}
theorem Qbf{s:Yk}{c q:Qx}(k:Qs dep N p)(h1:1≤s.id)(hc:p.at s.id=some c)(ha:p.aL s.id=false)(B:p.at c.par=some q):
  p.aK s=if s.aJ then((p.set {q with mem:=q.mem.drop s.id}).set (Uk c s)).set {q with mem:=(q.mem.drop s.id).add s.id s.share}else(p.set {q with mem:=q.mem.drop s.id}).set (Uk c s):=by
 obtain⟨d,E⟩:=k.pid hc (by omega) B;have z:=(Qe.aE hc).2;have key:∀f:Jc→Jc,((p.fam s.id f).map fun x=>if x.id=s.id then{x with aJ:=s.aJ,total:=0,limit:=Ha s.aN}else x)=(p.set {q with mem:=f q.mem}).set (Uk c s):=fun f=>by rw[Py hc B];have u:(p.set {q with mem:=f q.mem}).at s.id=some c:=(V5 (x:={q with mem:=f q.mem}) (show s.id≠q.id from fun e=>d e.symm)).trans hc;exact Qt0 (g:=fun x=>{x with aJ:=s.aJ,total:=0,limit:=Ha s.aN}) (by rw[Qns];exact k.nd) u rfl
 have e:p.aK s=((p.fam s.id fun f=>if s.aJ then(f.drop s.id).add s.id s.share else f.drop s.id).map fun x=>if x.id=s.id then{x with aJ:=s.aJ,total:=0,limit:=Ha s.aN}else x):=by
  unfold Qe.aK;rw[hc];dsimp only;rw[ha];have:¬s.id<1:=by omega
  simp[this]
 rw[e,key];cases hs:s.aJ with
 |false=>simp
 |true=> simp only[if_true];rw[←Qso (p:=p.set {q with mem:=q.mem.drop s.id}) (x:={q with mem:=(q.mem.drop s.id).add s.id s.share}) (y:=Uk c s) (show q.id≠c.id from by rw[z];exact d)];rw[Qe.set_set p (x:={q with mem:=q.mem.drop s.id}) (y:={q with mem:=(q.mem.drop s.id).add s.id s.share}) rfl]
end
section
variable{A:Dz}{w:World}{F:Fp}{b:Nat}{p:Qe}{N:Nat}{dep:Int→Nat}
theorem Qii(h:Qo A w F b p)(ab:Qs dep N p)(s:Yk){c q:Qx}(h1:1≤s.id)(hc:p.at s.id=some c)(ha:p.aL s.id=false)(hq:p.at c.par=some q):
  Cl 109 #[ptr b,Fb s] w fun e w'=>e=.returned (.bool true)∧Yr w' (Qn F w w') b (p.aK s)∧Qc F w w':=by
 have ak:=(Qo.obj A).bd h;obtain⟨W,hW⟩:=Zx (w.alloc (.cells (Z4 s.leaf s) 40));have S0:Hi (Xx W w.heap.size s):=O (by rw[hW];exact Xx.new w s);have C0:Hi (Qc Qb w W):=O (by rw[hW];exact(Zg _ _).alloc _);have Z:=(Qo.obj A).aB h C0.o (Jl.none F);have av:=(Qo.obj A).bd Z;have HA:=O (Hw Z s.id);rw[Xz hc]at HA;have am:=O (Hx Z ab s.id);rw[ha]at am;obtain⟨a0,a1,a2,a3,a4,a5,a6,a7,a8,a9,ap,aq,ar,au⟩:=(show Xx (w.alloc _) _ _ from hW▸S0.o).cells;have Xg:¬s.id<1:=by omega
 have bj:=O (fun w=>Ns s w);have bh:=O (fun w=>Qdj s.aN w);obtain⟨bo,z⟩:=Zx (p.aK s);rw[←z];rw[Qbf ab h1 hc ha hq]at z;have ag:=O z;obtain⟨al,ac⟩:=ab.pid hc (by omega) hq;obtain⟨ax,B⟩:=Qe.aE hc;have bg:Hi (∀w1,Qc Qb W w1→Cl 173 #[ptr (A.pf c.par),.int .i64 s.id] w1 fun e w'=>(∃r,e=.returned (.bool r))∧Qo A w' (Qn F W w') b (p.set {q with mem:=q.mem.drop s.id})∧Qc F W w'):=O (by
  intro w1 cc;obtain⟨G,hF,bm,J⟩:=Z.famAt hq;refine Zz (Qb3 (J0.obj.aB hF cc (Jl.none G)) s.id) ?_;rintro w2⟨hf,c2⟩;obtain⟨m1,m2⟩:=J w1 w2 _ cc hf c2;exact⟨⟨_,rfl⟩,m1,m2⟩)
 have aa:(p.set {q with mem:=q.mem.drop s.id}).at s.id=some c:=(V5 (x:={q with mem:=q.mem.drop s.id}) (show s.id≠q.id from fun e=>al e.symm)).trans hc;have ba:(p.set {q with mem:=q.mem.drop s.id}).at c.par=some {q with mem:=q.mem.drop s.id}:=by have:=Hq (p:=p) (x:={q with mem:=q.mem.drop s.id}) (y:=q) (by show p.at q.id=_;rw[ac];exact hq);rw[←ac];exact this
 have bb:((p.set {q with mem:=q.mem.drop s.id}).set (Uk c s)).at c.par=some {q with mem:=q.mem.drop s.id}:=(V5 (x:=Uk c s) (show c.par≠c.id from fun e=>al (by rw[ac,e,B]))).trans ba;have ah:F (A.ad s.id):=by obtain⟨G,g1,g2,_⟩:=Z.part ax 0 rfl;rw[←B];exact g2 _ g1.2.1
 have bl:Hi (w.heap.size≠A.ad s.id):=O (fun e=>by have:=ak _ ah;omega);have nF:¬F w.heap.size:=fun hk=>by have:=ak _ hk;omega
 have NF:=O nF;have ao:Hi (∀w2 w3 w4 vb,Qo A w2 (Qn F W w2) b (p.set {q with mem:=q.mem.drop s.id})→Qc F W w2→Qc Qb w2 w3→Qc Qb w3 w4→Ho w4 (Qn Qb w3 w4) vb (Ha s.aN)→∀w5,w5=((w4.setCell ⟨A.ad s.id,2,none⟩ (.bool s.aJ)).setCell ⟨A.ad s.id,3,none⟩ (.int .u64 0)).setCell ⟨A.ad s.id,4,none⟩ (ptr vb)→
   Qo (A.lim s.id (ptr vb)) w5 (Qn F W w5) b ((p.set {q with mem:=q.mem.drop s.id}).set (Uk c s))∧Qc F W w5):=O (by
  rintro w2 w3 w4 vb h2 bk c3 c4 hL w5 rfl;have I:=c4.blk (c3.blk (h2.cell aa) (fun h=>h)) (fun h=>h);have ay:=(Qe.aE aa).1;have r:=h2.renewed (c:=c) (c':=Uk c s) ay rfl rfl rfl c3 c4 hL (w2:=((w4.setCell ⟨A.ad s.id,2,none⟩ (.bool s.aJ)).setCell ⟨A.ad s.id,3,none⟩ (.int .u64 0)).setCell ⟨A.ad s.id,4,none⟩ (ptr vb))
   (by rw[B];exact(((Zg (fun k=>k=A.ad s.id) w4).setCell (a:=⟨A.ad s.id,2,none⟩) _ (.inl rfl)).setCell (a:=⟨A.ad s.id,3,none⟩) _ (.inl rfl)).setCell (a:=⟨A.ad s.id,4,none⟩) _ (.inl rfl))
   (by rw[B];exact((I.set' 2 (.bool s.aJ) rfl).set' 3 (.int .u64 0) rfl).set' 4 (ptr vb) rfl)
  rw[B]at r;obtain⟨r1,r2⟩:=r;exact(Qo.obj _).two r1 av bk r2)
 have af:Hi (∀A' w' p',Qo A' w' (Qn F W w') b p'→Qc F W w'→Yr w' (Qn F w w') b p'∧Qc F w w'):=O (fun A' w' p' h' c'=>by
  have c2:Qc F w w':=C0.o.none.aA c';exact⟨⟨A',(Qo.obj A').more h' (Ke C0.o.size) (ak.ext c2)⟩,c2⟩)
 have HC:=O (Z.cell hc);have HQ:=O (Z.cell hq);have HL:=O (fun w'(cc:Qc Qb W w')=>((Qo.obj A).aB Z cc (Jl.none F)).look1 c.par);rw[Xz hq]at HL;have HB:=O Z.blk;have bd:=O aa;have bi:=O bb;have bc:=O av;have bf:Hi (s.aJ=true→∀w5 vb,Qo (A.lim s.id (ptr vb)) w5 (Qn F W w5) b ((p.set {q with mem:=q.mem.drop s.id}).set (Uk c s))→Qc F W w5→Cl 127 #[ptr (A.pf c.par),.int .i64 s.id,cV s.share] w5 fun e w'=>(∃r,e=.returned (.bool r))∧Qo (A.lim s.id (ptr vb)) w' (Qn F W w') b (((p.set {q with mem:=q.mem.drop s.id}).set (Uk c s)).set {q with mem:=(q.mem.drop s.id).add s.id s.share})∧Qc F W w'):=O (by
  intro hs w5 vb h5 c5;have az:s.share.May:=by unfold Yk.aJ at hs;simp only[Zw,decide_eq_true_eq]at hs;exact hs.2
  obtain⟨G,hF,_,J⟩:=h5.famAt bi.o;refine(Qeh hF s.id s.share az).mono ?_;rintro e w7⟨hr,hf,c7⟩;obtain⟨m1,m2⟩:=J _ w7 _ (Zg Qb _) hf c7;obtain⟨n1,n2⟩:=(Qo.obj _).two m1 bc.o c5 m2;exact⟨hr,n1,n2⟩)
 unfold Fb ptr cV at*;clear h Z ab hc hq ha z ac B ax aa ba bb al nF ah;go_enter func109,ntmps109;go_wp2_with fail;rw[←hW]at a0 a1 a2 a3 a4 a5 a6 a7 a8 a9 ap aq ar au⊢;clear hW;refine Zy HA ?_;rintro w1 rfl;go_wp2_with fail;refine Zy am ?_;intro w1 d;have C1:=O d;obtain⟨d0,_,_,_,_,_,_,_⟩:=Ja (d.drew.blk HC.o (fun h=>h));obtain⟨_,_,_,_,_,q5,_,_⟩:=Ja (d.drew.blk HQ.o (fun h=>h));have hL:=HL.o _ d.drew;have y0:=Jf (d.drew.blk HB.o (fun h=>h));obtain⟨z0,z1,z2,z3,z4,z5,z6,z7,z8,z9,K,R,U,V⟩:=(show Xx w1.drew w.heap.size s from d.drew.blk S0.o (fun h=>h)).cells;unfold ptr at*;clear d a0 a1 a2 a3 a4 a5 a6 a7 a8 a9 ap aq ar au;go_wp2_with fail;refine Qj [(0,0),(0,1),(0,2),(0,3),(0,4),(0,5),(0,6),(0,7),(0,8),(0,9),(0,10),(0,11),(2,12)] Zq (by kernel_rfl) (fun _ _ _ _ _ h=>h) ?_;simp only[Jk,Zf,Ze,Zd];iterate 12 (refine Jq (by kernel_rfl) (by go_simp;try rfl) ?_)
 refine J7 ?_;go_wp2_with fail;refine Jo ?_;go_wp2_with fail;refine(bg.o _ C1.o.drew).mono ?_;rintro e w2⟨⟨r,rfl⟩,h2,c2⟩;have H2:=O (Zt h2 c2);have S2:=O (c2.blk S0.o NF.o);have an:=O (h2.cell bd.o);clear h2 c2 d0 q5 hL y0 z0 z1 z2 z3 z4 z5 z6 z7 z8 z9 K R U V;obtain⟨z0,z1,z2,z3,z4,z5,z6,z7,z8,z9,K,R,U,V⟩:=(show Xx w2.drew w.heap.size s from(Zg Qb w2).drew.blk S2.o (fun h=>h)).cells;go_wp2_with fail;refine Jp [(1,0),(1,1),(1,2),(0,3),(1,5),(1,6),(2,4),(2,7),(0,8),(0,9),(2,10),(0,11),(0,12),(2,13),(0,14),(0,15),(3,16)] (fun wv=>Qc (fun k=>k=A.ad s.id) (w2) wv) Zq (by kernel_rfl) (fun _ _ _ _ _ h=>h) (by(repeat' (first|(with_reducible first|exact Zg _ _|assumption|refine Zh ?_ _|refine Zi ?_ _|refine Zj ?_|refine Zk ?_ _ ?_|(apply Or.inl;rfl))|(apply Or.inl;simp;done)|(apply Or.inr;simp;first|done|omega)))) ?_;simp only[Jk,Zf,Ze,Zd];iterate 3 (refine Qy (by kernel_rfl) (fun wv hv=>by go_simp;try rfl) ?_;try simp only[Act.put,Za,Zc,Zb])
 refine Xe (by kernel_rfl) (by go_simp;try rfl) ?_;(refine Qy (by kernel_rfl) (fun wv hv=>by go_simp;try rfl) ?_;try simp only[Act.put,Za,Zc,Zb]);clear z0 z1 z2 z3 z4 z5 z6 z7 z8 z9 K R U V;iterate 1 (refine Qy (by kernel_rfl) (fun wv hv=>by(have zz:=hv.blk S2.o bl.o;obtain⟨z0,z1,z2,z3,z4,z5,z6,z7,z8,z9,K,R,U,V⟩:=(show Xx wv w.heap.size s from zz).cells);go_simp;try rfl) ?_;try simp only[Act.put,Za,Zc,Zb])
 refine Yb ?_;go_wp2_with fail;refine Zz (bj.o _) ?_;intro w3 c3;have D3:=O c3.undrew;clear c3;go_wp2_with fail;refine⟨D3.o.none,?_⟩;refine Yb ?_;go_wp2_with fail;refine(bh.o _).mono ?_;rintro e w4⟨vb,rfl,aw,c4⟩;have D4:=O c4;have R5:=O (ao.o w2 w3 w4 vb H2.o.1 H2.o.2 D3.o c4 aw _ rfl);have I:=c4.blk (D3.o.blk an.o (fun h=>h)) (fun h=>h);have B4:=O I;have ai:=O (D3.o.aA c4);have z2:=I.frozen 2;have y2:=(Ja I).2.2.1;clear c4 aw ao;go_wp2_with fail;refine⟨ai.o.none,?_⟩;iterate 2 (refine Xe (by kernel_rfl) (by go_simp;try rfl) ?_)
 refine Yb ?_;go_wp2_with fail;refine⟨(ai.o.none (F:=fun k=>k=A.ad s.id)).setCell (a:=⟨A.ad s.id,2,none⟩) _ (.inl rfl),?_⟩;have b5:=B4.o.set' 2 (.bool s.aJ) rfl;have z3:=b5.frozen 3;have y3:=(Ja b5).2.2.2.1;iterate 2 (refine Xe (by kernel_rfl) (by go_simp;try rfl) ?_)
 refine Yb ?_;go_wp2_with fail;refine⟨((ai.o.none (F:=fun k=>k=A.ad s.id)).setCell (a:=⟨A.ad s.id,2,none⟩) _ (.inl rfl)).setCell (a:=⟨A.ad s.id,3,none⟩) _ (.inl rfl),?_⟩;have b6:=b5.set' 3 (.int .u64 0) rfl;have z4:=b6.frozen 4;have y4:=(Ja b6).2.2.2.2.1;iterate 2 (refine Xe (by kernel_rfl) (by go_simp;try rfl) ?_)
 refine Km ?_;go_wp2_with fail;refine Ky ?_;clear z2 y2 b5 z3 y3 b6 z4 y4;obtain⟨w5,ae⟩:=Zx (((w4.setCell ⟨A.ad s.id,2,none⟩ (.bool s.aJ)).setCell ⟨A.ad s.id,3,none⟩ (.int .u64 0)).setCell ⟨A.ad s.id,4,none⟩ (.pointer (some ⟨vb,0,none⟩)));have Q5:=O (show Qo (A.lim s.id (.pointer (some ⟨vb,0,none⟩))) w5 (Qn F W w5) b ((p.set {q with mem:=q.mem.drop s.id}).set (Uk c s))∧Qc F W w5 from by rw[ae];exact R5.o);have e2:w5.cell? ⟨A.ad s.id,2,none⟩=some (.bool s.aJ):=by rw[ae];exact(Ja (((B4.o.set' 2 (.bool s.aJ) rfl).set' 3 (.int .u64 0) rfl).set' 4 (.pointer (some ⟨vb,0,none⟩)) rfl)).2.2.1
 have S5:=O (Q5.o.2.blk S0.o NF.o);rw[←ae];clear ae R5;rcases Bool.eq_false_or_eq_true s.aJ with E|E;·rw[E]at e2;have u:=ag.o;rw[if_pos E]at u;have aj:=O u;clear u;have be:=O (bf.o E w5 vb Q5.o.1 Q5.o.2);obtain⟨z0,z1,z2,z3,z4,z5,z6,z7,z8,z9,K,R,U,V⟩:=(show Xx w5 w.heap.size s from S5.o).cells;go_wp2_with fail;refine Zo be ?_;rintro e w7⟨⟨r,rfl⟩,h7,c7⟩;have FF:=O (af.o _ _ _ h7 c7);clear h7 c7;go_wp2;go_ret;exact⟨rfl,by rw[aj.o];exact FF.o⟩
 ·rw[E]at e2;have u:=ag.o;rw[if_neg (by rw[E];decide)]at u;have aj:=O u;clear u;have FF:=O (af.o _ _ _ Q5.o.1 Q5.o.2);go_wp2;go_ret;exact⟨rfl,by rw[aj.o];exact FF.o⟩
end
section
variable{A:Dz}{w:World}{F:Fp}{b:Nat}{p:Qe}{N:Nat}{dep:Int→Nat}
theorem Qq8{w0 w1 w2 w3 w4 w5:World}{x:Qx}{vb:Value}{pf pt:Nat}(J:Qc Qb w1 w2)(E:Qc Qb w2 w3)(B:Qc Qb w3 w4)(Z:w0.heap.size<w1.heap.size)(z:Qc (fun k=>k=w0.heap.size) w4 w5)
  (hl:Do vb x.limit w2 (Qn Qb w1 w2)) (hf:J0 w3 (Qn Qb w2 w3) pf x.mem) (ht:Jg w4 (Qn Qb w3 w4) pt x.tree) (I:Qh w5 w0.heap.size (Pn x vb pf pt) 143):
  Um (A.put x.id w0.heap.size vb pf pt) w5 (Qn Qb w0 w5) w0.heap.size x:=by
 have s1:=J.size;have s2:=E.size;have s3:=B.size;have s5:=z.size;have Xg:=I.lt;refine⟨by simp[Dz.put],?_⟩;have e1:(A.put x.id w0.heap.size vb pf pt).ad x.id=w0.heap.size:=by simp[Dz.put]
 have K:(A.put x.id w0.heap.size vb pf pt).vl x.id=vb:=by simp[Dz.put]
 have R:(A.put x.id w0.heap.size vb pf pt).pf x.id=pf:=by simp[Dz.put]
 have V:(A.put x.id w0.heap.size vb pf pt).pt x.id=pt:=by simp[Dz.put]
 unfold Sy;rw[e1,K,R,V];have q:∀{u v:World},w1.heap.size≤u.heap.size→Jl (Qn Qb u v) (fun k=>k=w0.heap.size):=fun h k c e=>by have:=((Qr k).1 c).1;omega
 have h1:Do vb x.limit w5 (Qn Qb w1 w2):=(Do.good _ _).aB ((Do.good _ _).aB hl (E.aA B) (Jl.none _)) z (q (Zv _));have h2:J0 w5 (Qn Qb w2 w3) pf x.mem:=J0.obj.aB (J0.obj.aB hf B (Jl.none _)) z (q s1);have h3:Jg w5 (Qn Qb w3 w4) pt x.tree:=Jg.obj.aB ht z (q (by omega));have d:∀{U:Fp},(∀k,U k→k<w5.heap.size)→Bd U w5:=fun h=>h;refine Q7 (G:=fun k=>k=w0.heap.size) (H:=Qn Qb w1 w4) ⟨I,rfl,fun k e=>e▸Xg⟩ ?_ (fun k e c=>by have:=((Qr k).1 c).1;omega) (fun k e=>(Qr k).2 ⟨by omega,by omega⟩) (G5 (by omega) s5) (Td _ _);refine Q7 (G:=Qn Qb w1 w2) (H:=Qn Qb w2 w4) h1 ?_ (Qaa (Zv _)) (G5 (Zv _) (by omega)) (G5 s1 (Zv _)) (d fun k c=>by have:=((Qr k).1 c).2;omega);exact Q7 (G:=Qn Qb w2 w3) (H:=Qn Qb w3 w4) h2 (Y6 h3 (d fun k c=>by have:=((Qr k).1 c).2;omega)) (Qaa (Zv _)) (G5 (Zv _) s3) (G5 s2 (Zv _)) (d fun k c=>by have:=((Qr k).1 c).2;omega)
structure Qf9(A:Dz)(w:World)(l:List Qx)(b' m' r:Nat)(wr:World)(lm dn:List Qx):Prop where
 it:Kj wr A.m r (Xy Qx.id A.ad l) (Xy Qx.id A.ad lm)
 sub:lm.Sublist l
 perm:(dn++lm).Perm l
 chg:Qc Qb w wr
 blk:Qh wr b' #[.map (some m')] 138
 co:∃(A':Dz)(G:Fp),A'.m=m'∧Yn Qx.id (Um A') wr G m' A'.ad dn∧∀k,G k→w.heap.size≤k∧k≠r∧k≠b'
 nb:w.heap.size≤b'∧w.heap.size≤r∧b'≠r∧w.heap.size≤m'∧m'≠r∧m'≠b'
theorem Wj(m:Nat)(w):(binOp .eql 136 (.map (some m)) (.map none)).run prog w=.ok (.bool false) w:=by kernel_rfl
attribute [local go_sem] Wj
theorem Qf9.step{l:List Qx}{b' m' r:Nat}{wr}{lm U:List Qx}(h:Qf9 A w l b' m' r wr lm U)(J:(l.map Qx.id).Nodup){x:Qx}(hx:x∈lm){w2 w3 w4 w5 w6 w7}
  (u:Kj w2 A.m r (Xy Qx.id A.ad l) (Vu x.id (Xy Qx.id A.ad lm))) (q:Qc (fun k=>k=r) wr w2) (ah:w3=w2.alloc (.cells (Pn x (A.vl x.id) (A.pf x.id) (A.pt x.id)) 143))
  (c4:Qc Qb w3 w4) (c5:Qc Qb w4 w5) (c6:Qc Qb w5 w6) {vb:Value} {pf pt:Nat} (hl:Do vb x.limit w4 (Qn Qb w3 w4)) (hf:J0 w5 (Qn Qb w4 w5) pf x.mem) (ht:Jg w6 (Qn Qb w5 w6) pt x.tree)
  (ai:w7=((w6.setCell ⟨w2.heap.size,4,none⟩ vb).setCell ⟨w2.heap.size,5,none⟩ (ptr pf)).setCell ⟨w2.heap.size,6,none⟩ (ptr pt)) (ay:A.m<w.heap.size):
  Qh w7 b' #[.map (some m')] 138∧∃K,(Instr.mapUpdate 136 (.map (some m')) (.int .i64 x.id) (.pointer (some ⟨w2.heap.size,0,none⟩))).run prog w7=.ok () K∧
   Qf9 A w l b' m' r K (Kp Qx.id x.id lm) (U++[x])∧Dq K r<Dq wr r:=by
 obtain⟨B,G',ak,al,aa⟩:=h.co;obtain⟨n1,n2,n3,n4,n5,n6⟩:=h.nb;have ae:=J.sublist (h.sub.map Qx.id);have s1:=h.chg.size;have s2:=q.size;have aj:Qc Qb w2 w3:=by rw[ah];exact(Zg _ _).alloc _
 have ab:Qh w3 w2.heap.size (Pn x (A.vl x.id) (A.pf x.id) (A.pt x.id)) 143:=by rw[ah];exact Qh.new _ _ _
 have ac:=ab.lt;have s4:=c4.size;have s5:=c5.size;have s6:=c6.size;have ax:r<w2.heap.size:=by obtain⟨o2,h2,_⟩:=u.walk;exact(Z2.1 h2).1
 have an:=c6.blk (c5.blk (c4.blk ab (fun h=>h)) (fun h=>h)) (fun h=>h);have R:Qc (fun k=>k=w2.heap.size) w6 w7:=by rw[ai];exact(((Zg (fun k=>k=w2.heap.size) w6).setCell (a:=⟨w2.heap.size,4,none⟩) _ (.inl rfl)).setCell (a:=⟨w2.heap.size,5,none⟩) _ (.inl rfl)).setCell (a:=⟨w2.heap.size,6,none⟩) _ (.inl rfl)
 have ao:Qh w7 w2.heap.size (Pn x vb pf pt) 143:=by rw[ai];exact((an.set' 4 vb rfl).set' 5 (ptr pf) rfl).set' 6 (ptr pt) rfl
 have hX:=Qq8 (A:=B) c4 c5 c6 ac R hl hf ht ao;have d:Qc Qb w2 w7:=(((aj.aA c4).aA c5).aA c6).trans R (fun k e=>.inr (by rw[e];exact Zv _));have s7:=d.size;have c:=q.blk h.blk (by omega);have aw:=c.lt;have V:=al.aB (Um.obj B) q (fun k I e=>(aa k I).2.1 e);have Z:=(V.aB (Um.obj B) d (Jl.none G')).imp (Is':=Um (B.put x.id w2.heap.size vb pf pt)) (fun y hy G2 au=>by
  have af:y.id≠x.id:=fun e=>by have hn:=((h.perm.map Qx.id).nodup_iff).2 J;rw[List.map_append,List.nodup_append]at hn;exact hn.2.2 _ (Z3.2 ⟨y,hy,rfl⟩) _ (Z3.2 ⟨x,hx,rfl⟩) e
  refine⟨?_,?_⟩;·show B.ad y.id=(if y.id=x.id then w2.heap.size else B.ad y.id);rw[if_neg af]
  ·rw[Qgu af];exact au.2)
 obtain⟨K,ar,ap,c8⟩:=X6 (P:=prog) Z.map underlying136 underlying3 x.id (.pointer (some ⟨w2.heap.size,0,none⟩));have aq:Hn Qx.id x.id U=none:=by
  cases ha:Hn Qx.id x.id U with
  |none=>rfl
  |some y=> obtain⟨hy,av⟩:=Y3 ha;have hn:=((h.perm.map Qx.id).nodup_iff).2 J;rw[List.map_append,List.nodup_append]at hn;exact(hn.2.2 _ (Z3.2 ⟨y,hy,rfl⟩) _ (Z3.2 ⟨x,hx,rfl⟩) av).elim
 have am:=Z.put (Um.obj _) hX (fun k a b2=>by
  have h1:=((Qr k).1 a).1;have:=V.bd k b2;omega) aq ap c8
 have E:Qc (fun k=>k=m') w2 K:=(d.none).aA c8;have z:Kj K A.m r (Xy Qx.id A.ad l) (Vu x.id (Xy Qx.id A.ad lm)):=u.aB E (by omega) (by omega);have ag:=O8 (key:=Qx.id) ae hx;refine⟨d.blk c (fun h=>h),K,ar,⟨?_,List.filter_sublist.trans h.sub,?_,?_,E.blk c (by omega),⟨B.put x.id w2.heap.size vb pf pt,_,ak,am,?_⟩,h.nb⟩,?_⟩;·rw[←Hr];exact z
 ·refine List.Perm.trans ?_ h.perm;rw[List.append_assoc];exact List.Perm.append_left U ag.symm
 ·exact(h.chg.trans q (fun k e=>.inr (by rw[e];omega))).trans E (fun k e=>.inr (by rw[e];omega))
 ·intro k I;rcases I with I|I;·exact aa k I
  ·rcases(Qr k).1 I with⟨h1,_⟩;omega
 ·rw[z.left_eq,h.it.left_eq,Hr];have:=ag.length_eq;simp only[Xy,List.length_map,Zm]at*;omega
end
end
section
attribute [local go_sem] Qp
attribute [local irreducible] Kl J9 Xo
def rootC:Qx:=⟨0,0,false,false,0,none,⟨[],0⟩,[],0⟩
theorem Qig{w wE}{m bc pf pt:Nat}{Gf Gt:Fp}(cE:Qc Qb w wE)(hm:Xq wE m [])(B:Qh wE bc (Pn rootC (.pointer none) pf pt) 143)(hf:J0 wE Gf pf ⟨[],0⟩)(ht:Jg wE Gt pt [])
  (m1:w.heap.size≤m) (b1:w.heap.size≤bc) (nm:m≠bc) (V:∀k,Gf k→w.heap.size≤k∧k≠m∧k≠bc) (t1:∀k,Gt k→w.heap.size≤k∧k≠m∧k≠bc) (R:Jl Gf Gt):
  ∃w5,(Instr.mapUpdate 136 (.map (some m)) (.int .i64 0) (.pointer (some ⟨bc,0,none⟩))).run prog wE=.ok () w5∧Qc Qb w w5∧∀w',w'=w5.alloc (.cells #[.map (some m)] 138)→Yr w' (Qn Qb w w') w5.heap.size Qe.new∧Qc Qb w w':=by
 obtain⟨w5,I,ae,c5⟩:=X6 (P:=prog) hm underlying136 underlying3 0 (ptr bc);have c:Qc Qb w w5:=cE.trans c5 (fun k e=>.inr (by rw[e];exact m1));refine⟨w5,I,c,?_⟩;rintro w' rfl;have c6:Qc Qb w5 (w5.alloc (.cells #[.map (some m)] 138)):=(Zg _ _).alloc _;have K:=c.aA c6;refine⟨?_,K⟩;have J:=J0.obj.bd hf;have bt:=Jg.obj.bd ht;have bb:=B.lt;have E:=hm.lt;obtain⟨A,Z⟩:∃A:Dz,A=⟨m,fun _=>bc,fun _=>.pointer none,fun _=>pf,fun _=>pt⟩:=⟨_,rfl⟩;have hx:Um A wE (fun k=>k=bc∨Gf k∨Gt k) bc rootC:=by
  subst Z;refine⟨rfl,?_⟩;refine Q7 (G:=fun k=>k=bc) (H:=fun k=>Gf k∨Gt k) ⟨B,rfl,fun k e=>e▸bb⟩ ?_ ?_ (fun k e=>.inl e) (fun k e=>.inr e) ?_
  ·refine Q7 (G:=fun _=>False) (H:=fun k=>Gf k∨Gt k) (.inl ⟨rfl,rfl,fun k h=>h.elim⟩) ?_ (fun k h _=>h.elim) (fun k h=>h.elim) (fun k h=>h) ?_;·exact Q7 (G:=Gf) (H:=Gt) hf (Y6 ht bt) R (fun k h=>.inl h) (fun k h=>.inr h) (fun k h=>h.elim (J k) (bt k))
   ·exact fun k h=>h.elim (J k) (bt k)
  ·rintro k rfl h;rcases h with h|h;·exact(V _ h).2.2 rfl
   ·exact(t1 _ h).2.2 rfl
  ·rintro k(rfl|h|h);·exact bb
   ·exact J k h
   ·exact bt k h
 have aa:Yn Qx.id (Um A) wE (fun k=>k=m) m A.ad []:=Yn.new hm (fun k e=>e▸E) rfl;have d:=aa.put (Um.obj A) hx (by
  rintro k(rfl|h|h) rfl;·exact nm rfl
  ·exact(V _ h).2.1 rfl
  ·exact(t1 _ h).2.1 rfl) rfl ae c5
 have ab:(fun i=>if i=rootC.id then bc else A.ad i)=A.ad:=by subst Z;funext i;simp
 rw[ab]at d;have q:=d.aB (Um.obj A) c6 (Jl.none _);have z:A.m=m:=by rw[Z]
 refine⟨A,[rootC],List.Perm.refl _,?_⟩;have ac:∀k,(k=m∨k=bc∨Gf k∨Gt k)→w.heap.size≤k:=by
  rintro k(rfl|rfl|h|h);·exact m1
  ·exact b1
  ·exact(V k h).1
  ·exact(t1 k h).1
 have u:Qh (w5.alloc (.cells #[.map (some m)] 138)) w5.heap.size #[.map (some m)] 138:=Qh.new _ _ _;refine Q7 (G:=fun k=>k=w5.heap.size) (H:=fun k=>k=m∨k=bc∨Gf k∨Gt k) ⟨by rw[z];exact u,rfl,fun k e=>e▸u.lt⟩ (Y6 (by rw[z];exact q) q.bd) ?_ ?_ ?_ (Td _ _);·intro k e h;have:=d.bd k h;have U:k=w5.heap.size:=e;omega
 ·intro k e;have U:k=w5.heap.size:=e;exact(Qr k).2 ⟨by rw[U];exact c.size,by rw[U];exact u.lt⟩
 ·intro k h;exact(Qr k).2 ⟨ac k h,q.bd k h⟩
theorem Qpk(w):Cl 67 #[] w fun e w'=>∃b,e=.returned (ptr b)∧Yr w' (Qn Qb w w') b Qe.new∧Qc Qb w w':=by
 have Z:=@run_makeMap prog;have I:=O Qei;have E:=O Bw;have MN:Hi (∀w1:World,Xq (w1.alloc (.map #[] 0)) w1.heap.size []):=O Xq.new;unfold ptr at*;have u:Hi (∀w1 w2 w3 pf pt,w1=w.alloc (.map #[] 0)→J0 w2 (Qn Qb w1 w2) pf ⟨[],0⟩→Qc Qb w1 w2→Jg w3 (Qn Qb w2 w3) pt []→Qc Qb w2 w3→
   ∃w5,(Instr.mapUpdate 136 (.map (some w.heap.size)) (.int .i64 0) (.pointer (some ⟨w3.heap.size,0,none⟩))).run prog (w3.alloc (.cells #[.int .i64 0,.bool false,.bool false,.int .u64 0,.pointer none,.pointer (some ⟨pf,0,none⟩),.pointer (some ⟨pt,0,none⟩),.int .i64 0] 143))=.ok () w5∧
    ∀w',w'=w5.alloc (.cells #[.map (some w.heap.size)] 138)→Yr w' (Qn Qb w w') w5.heap.size Qe.new∧Qc Qb w w'):=O (by
  rintro w1 w2 w3 pf pt rfl hf q ht d;have U:Qc Qb w (w.alloc (.map #[] 0)):=(Zg _ _).alloc _;have z:Qc Qb w3 (w3.alloc (.cells (Pn rootC (.pointer none) pf pt) 143)):=(Zg _ _).alloc _;have s1:(w.alloc (.map #[] 0)).heap.size=w.heap.size+1:=by simp
  have s2:=q.size;have s3:=d.size;obtain⟨w5,h1,_,V⟩:=Qig (w:=w) (m:=w.heap.size) (bc:=w3.heap.size) (pf:=pf) (pt:=pt) (Gf:=Qn Qb (w.alloc (.map #[] 0)) w2) (Gt:=Qn Qb w2 w3) (((U.aA q).aA d).aA z)
   ((((Xq.new w).aB q (fun h=>h)).aB d (fun h=>h)).aB z (fun h=>h)) (Qh.new _ _ _) (J0.obj.aB (J0.obj.aB hf d (Jl.none _)) z (Jl.none _)) (Jg.obj.aB ht z (Jl.none _)) (Zv _) (by omega) (by omega)
   (fun k J=>by have:=(Qr k).1 J;omega) (fun k J=>by have:=(Qr k).1 J;omega) (Qaa (Zv _))
  exact⟨w5,h1,V⟩)
 go_enter func67,ntmps67;go_wp2_with fail;refine(I.o _).mono ?_;rintro e w2⟨pf,rfl,hf,q⟩;have R:=O hf;have K:=O q;clear hf q;go_wp2_with fail;refine(E.o _).mono ?_;rintro e w3⟨pt,rfl,ht,d⟩;obtain⟨w5,aa,c⟩:=u.o _ w2 w3 pf pt rfl R.o K.o ht d;have B:=O c;unfold ptr at*;clear ht d c u R K;go_wp2_with fail;go_ret;exact⟨_,rfl,B.o _ rfl⟩
end
section
variable{f:Jc}
theorem Cc{m:Jh}{j:Int}(h:j≠m.id):(f.set m).at j=f.at j:=by
 obtain⟨all,mark⟩:=f;unfold Jc.at Jc.set;dsimp only;induction all with
 |nil=>rfl
 |cons z l k=>
  rw[List.map_cons,List.find?_cons,List.find?_cons];by_cases c:z.id=m.id;·rw[if_pos c];have h1:¬m.id=j:=fun e=>h e.symm;have q:¬z.id=j:=fun e=>h (by rw[←e,c]);simp only[h1,q,decide_false];exact k
  ·rw[if_neg c];by_cases d:z.id=j;·simp[d]
   ·simp only[d,decide_false];exact k
theorem Ip{m y:Jh}(h:f.at m.id=some y):(f.set m).at m.id=some m:=by
 obtain⟨all,mark⟩:=f;unfold Jc.at Jc.set at*;dsimp only at*;induction all with
 |nil=>cases h
 |cons z l d=>
  rw[List.map_cons,List.find?_cons];rw[List.find?_cons]at h;by_cases c:z.id=m.id;·simp[c]
  ·simp only[c,decide_false,if_false]at h⊢;exact d h
theorem T5{m y:Jh}(h:f.at m.id=some y)(j:Int):(f.set m).at j=if j=m.id then some m else f.at j:=by
 split;·rename_i e;rw[e];exact Ip h
 ·rename_i e;exact Cc e
theorem Fu{m y:Jh}{v:Nat}(h:f.at m.id=some y)(j:Int):(f.made m v).at j=if j=m.id then some {m with v:=v}else f.at j:=
 T5 (m:={m with v:=v}) h j
theorem Qes(i j:Int):(f.wake i).at j=if j=i then(f.at i).map (fun m=>if m.aL then m else{m with run:=m.run.start (f.start m) m.total,aL:=true,v:=f.start m})else f.at j:=by
 unfold Jc.wake;cases h:f.at i with
 |none=>
  dsimp only;split;·rename_i e;rw[e,h];rfl
  ·rfl
 |some m=>
  have hi:=(Jc.aE h).2;subst hi;dsimp only;by_cases ha:m.aL=true
  ·rw[if_pos ha];split;·rename_i e;rw[e,h];simp[ha]
   ·rfl
  ·rw[if_neg ha,Fu (m:={m with run:=m.run.start (f.start m) m.total,aL:=true}) (y:=m) h];dsimp only;split;·simp[ha]
   ·rfl
theorem M6(i j:Int):(f.sleep i).at j=if j=i then(f.at i).map (fun m=>{m with aL:=false})else f.at j:=by
 unfold Jc.sleep;cases h:f.at i with
 |none=>
  dsimp only;split;·rename_i e;rw[e,h];rfl
  ·rfl
 |some m=>
  have hi:=(Jc.aE h).2;subst hi;dsimp only;rw[T5 (m:={m with aL:=false}) (y:=m) h];dsimp only;split;·rfl
  ·rfl
theorem Qeq(i:Int)(g:Nat)(j:Int):(f.gain i g).at j=if j=i then(f.at i).map (fun m=>if m.aL then{m with total:=m.total+min g (Xw-m.total),v:=m.run.reach (m.total+min g (Xw-m.total))}else{m with total:=m.total+min g (Xw-m.total)})else f.at j:=by
 unfold Jc.gain;cases h:f.at i with
 |none=>
  dsimp only;split;·rename_i e;rw[e,h];rfl
  ·rfl
 |some m=>
  have hi:=(Jc.aE h).2;subst hi;dsimp only;by_cases ha:m.aL=true
  ·rw[if_pos ha,Fu (m:={m with total:=m.total+min g (Xw-m.total)}) (y:=m) h];dsimp only;split;·simp[ha]
   ·rfl
  ·rw[if_neg ha,T5 (m:={m with total:=m.total+min g (Xw-m.total)}) (y:=m) h];dsimp only;split;·simp[ha]
   ·rfl
theorem Qq2(i:Int)(c:Jy)(j:Int):(f.add i c).at j=if j=i∧f.at i=none then some ⟨i,0,0,.new c,false⟩else f.at j:=by
 unfold Jc.add;cases h:f.at i with
 |some m=>simp
 |none=>
  obtain⟨all,mark⟩:=f;unfold Jc.at at*;dsimp only at*;rw[List.find?_append];by_cases e:j=i;·rw[e,h];simp
  ·have:¬i=j:=fun d=>e d.symm;simp[e,this]
theorem M4(i j:Int):(f.drop i).at j=if j=i then none else f.at j:=by
 obtain⟨all,mark⟩:=f;unfold Jc.at Jc.drop;dsimp only;induction all with
 |nil=>simp
 |cons z l k=>
  rw[List.filter_cons];by_cases c:z.id=i
  ·simp only[c,decide_true,Bool.not_true,Bool.false_eq_true,if_false];rw[k,List.find?_cons];by_cases e:j=i;·rw[if_pos e,if_pos e]
   ·have:¬z.id=j:=fun d=>e (by rw[←d,c]);rw[if_neg e,if_neg e];simp only[this,decide_false]
  ·simp only[c,decide_false,Bool.not_false,if_true];rw[List.find?_cons,List.find?_cons];by_cases e:z.id=j;·have:¬j=i:=fun d=>c (by rw[e,d]);simp only[e,decide_true];rw[if_neg this]
   ·simp only[e,decide_false];exact k
theorem Que{i j:Int}:(f.wake i).up j=if j=i then(f.at i).isSome else f.up j:=by
 unfold Jc.up;rw[Qes];split
 ·cases f.at i with
  |none=>rfl
  |some m=>by_cases h:m.aL=true<;>simp[h]
 ·rfl
theorem Qsz{i j:Int}:(f.sleep i).up j=if j=i then false else f.up j:=by
 unfold Jc.up;rw[M6];split;·cases f.at i<;>rfl
 ·rfl
theorem Qud{i j:Int}{g:Nat}:(f.gain i g).up j=f.up j:=by
 unfold Jc.up;rw[Qeq];split
 ·rename_i e;rw[e];cases f.at i with
  |none=>rfl
  |some m=>by_cases h:m.aL=true<;>simp[h]
 ·rfl
theorem Qqf{i j:Int}:((f.wake i).at j).isSome=(f.at j).isSome:=by
 rw[Qes];split;·rename_i e;rw[e];simp
 ·rfl
theorem Qmk{i j:Int}:((f.sleep i).at j).isSome=(f.at j).isSome:=by
 rw[M6];split;·rename_i e;rw[e];simp
 ·rfl
theorem Qqe{i j:Int}{g:Nat}:((f.gain i g).at j).isSome=(f.at j).isSome:=by
 rw[Qeq];split;·rename_i e;rw[e];simp
 ·rfl
end
section
variable{p p' p'':Qe}{N:Nat}{dep:Int→Nat}
structure Bo(p p':Qe)(j:Int):Prop where
 up:Jv p p'
 mem:∀k,(p'.at k).map (fun c=>(c.mem.up j,c.mem.v j))=(p.at k).map fun c=>(c.mem.up j,c.mem.v j)
 fit:(p'.at j).map Qx.fit=(p.at j).map Qx.fit
 tree:∀k q',p'.at k=some q'→∃q,p.at k=some q∧∀a b,(a,j,b)∈q'.tree↔(a,j,b)∈q.tree
theorem Bo.refl(p:Qe)(j:Int):Bo p p j:=⟨Jv.refl _,fun _=>rfl,rfl,fun k c h=>⟨c,h,fun _ _=>Iff.rfl⟩⟩
theorem Bo.trans{j:Int}(h:Bo p p' j)(h':Bo p' p'' j):Bo p p'' j:=⟨h.up.trans h'.up,fun k=>(h'.mem k).trans (h.mem k),h'.fit.trans h.fit,fun k c B=>by
 obtain⟨E,h1,d⟩:=h'.tree k c B;obtain⟨q,u,z⟩:=h.tree k E h1;exact⟨q,u,fun a b=>(d a b).trans (z a b)⟩⟩
theorem Jv.back(h:Jv p p'){i:Int}{c:Qx}(hc:p'.at i=some c):∃c',p.at i=some c'∧c'.par=c.par∧c'.leaf=c.leaf∧c'.aJ=c.aJ:=by have h':Jv p' p:=fun j=>(h j).symm;exact h'.get hc
theorem Jv.none(h:Jv p p'){i:Int}(hc:p.at i=none):p'.at i=none:=by have:=h i;rw[hc]at this;simpa using this
theorem Bo.aL{j:Int}(h:Bo p p' j):p'.aL j=p.aL j:=by
 unfold Qe.aL;cases hc:p.at j with
 |none=>rw[h.up.none hc]
 |some c=>
  obtain⟨c',d,e,_⟩:=h.up.get hc;rw[d];dsimp only;rw[e];have:=h.mem c.par;cases k:p.at c.par with
  |none=>rw[h.up.none k]
  |some q=> rw[k]at this;obtain⟨z,u,_⟩:=h.up.get k;rw[u]at this⊢;simp only[Zn,Option.some.injEq,Prod.mk.injEq]at this;simp[this.1]
theorem Bo.v{j:Int}(h:Bo p p' j):p'.v j=p.v j:=by
 unfold Qe.v;cases hc:p.at j with
 |none=>rw[h.up.none hc]
 |some c=>
  obtain⟨c',d,e,_⟩:=h.up.get hc;rw[d];dsimp only;rw[e];have:=h.mem c.par;cases k:p.at c.par with
  |none=>rw[h.up.none k]
  |some q=> rw[k]at this;obtain⟨z,u,_⟩:=h.up.get k;rw[u]at this⊢;simp only[Zn,Option.some.injEq,Prod.mk.injEq]at this;simp[this.2]
def Mw(p:Qe)(i:Int):Prop:=∀k q,p.at k=some q→∀a b,((a,i,b)∈q.tree↔0<i∧p.aL i=true∧a=p.v i∧∃c,p.at i=some c∧c.par=k∧b=c.fit)
theorem Mw.off{j:Int}(h:Mw p j)(u:Bo p p' j):Mw p' j:=by
 intro k I B a b;obtain⟨q,E,ht⟩:=u.tree k I B;rw[ht,h k q E,u.aL,u.v];have hf:=u.fit;refine and_congr_right fun _=>and_congr_right fun _=>and_congr_right fun _=>⟨fun⟨c,hc,h1,z⟩=>?_,fun⟨c',d,h1,z⟩=>?_⟩;·obtain⟨c',d,e,_⟩:=u.up.get hc;rw[hc,d]at hf;simp only[Zn,Option.some.injEq]at hf;exact⟨c',d,e.trans h1,z.trans hf.symm⟩
 ·obtain⟨c,hc,e,_⟩:=u.up.back d;rw[hc,d]at hf;simp only[Zn,Option.some.injEq]at hf;exact⟨c,hc,e.trans h1,z.trans hf⟩
theorem Bo.set{x y:Qx}{j:Int}(d:p.at x.id=some y)(u:x.par=y.par)(hl:x.leaf=y.leaf)(hs:x.aJ=y.aJ)(q:x.mem.up j=y.mem.up j∧x.mem.v j=y.mem.v j)(hf:j=x.id→x.fit=y.fit)
  (ht:∀a b,(a,j,b)∈x.tree↔(a,j,b)∈y.tree):Bo p (p.set x) j:=by
 refine⟨Jv.set d u hl hs,fun k=>?_,?_,fun k z c=>?_⟩
 ·rw[V0 d];split;·rename_i e;rw[e,d];simp[q.1,q.2]
  ·rfl
 ·rw[V0 d];split;·rename_i e;rw[e,d];simp[hf e]
  ·rfl
 ·rw[V0 d]at c;split at c;·rename_i e;obtain rfl:=Zs c;exact⟨y,by rw[e];exact d,ht⟩
  ·exact⟨z,c,fun _ _=>Iff.rfl⟩
def Hm(p p':Qe):Prop:=∀k j,(p'.at k).map (fun c=>((c.mem.at j).isSome,c.aM))=(p.at k).map fun c=>((c.mem.at j).isSome,c.aM)
theorem Hm.refl(p:Qe):Hm p p:=fun _ _=>rfl
theorem Hm.trans(h:Hm p p')(h':Hm p' p''):Hm p p'':=fun k j=>(h' k j).trans (h k j)
theorem Hm.set{x y:Qx}(c:p.at x.id=some y)(d:∀j,(x.mem.at j).isSome=(y.mem.at j).isSome)(q:x.aM=y.aM):Hm p (p.set x):=fun k j=>by
 rw[V0 c];split;·rename_i e;rw[e,c];simp[d,q]
 ·rfl
theorem Ab{i:Int}{c q:Qx}{f:Jc→Jc}(hc:p.at i=some c)(d:p.at c.par=some q){j:Int}(u:(f q.mem).up j=q.mem.up j∧(f q.mem).v j=q.mem.v j):Bo p (p.fam i f) j:=by rw[Py hc d];have k:=(Qe.aE d).2;exact Bo.set (x:={q with mem:=f q.mem}) (y:=q) (show p.at q.id=_ by rw[k];exact d) rfl rfl rfl u (fun _=>rfl) (fun _ _=>Iff.rfl)
theorem Qap{i:Int}{c q:Qx}{f:Jc→Jc}(hc:p.at i=some c)(d:p.at c.par=some q)(u:∀j,((f q.mem).at j).isSome=(q.mem.at j).isSome):Hm p (p.fam i f):=by rw[Py hc d];have k:=(Qe.aE d).2;exact Hm.set (x:={q with mem:=f q.mem}) (y:=q) (show p.at q.id=_ by rw[k];exact d) u rfl
theorem Be{f g:Jc}{j:Int}(h:f.at j=g.at j):f.up j=g.up j∧f.v j=g.v j:=by unfold Jc.up Jc.v;rw[h];exact⟨rfl,rfl⟩
theorem Pt{i:Int}{c q:Qx}{f:Jc→Jc}(hc:p.at i=some c)(k:p.at c.par=some q)(j:Int):(p.fam i f).at j=if j=c.par then some {q with mem:=f q.mem}else p.at j:=by rw[Py hc k];have d:=(Qe.aE k).2;have:=V0 (p:=p) (x:={q with mem:=f q.mem}) (y:=q) (show p.at q.id=_ by rw[d];exact k) j;rw[this];show(if j=q.id then _ else _)=_;rw[d]
theorem Qmq{now:Nat}{i:Int}{c:Qx}(hc:p.at i=some c):p.up1 now i=if p.aL i||!c.aJ then p else(p.fam i fun f=>f.wake i).set {c with limit:=c.limit.wake now c.total}:=by unfold Qe.up1;rw[hc]
theorem Qni(z:Qs dep N p){now:Nat}{i:Int}{c q:Qx}(hc:p.at i=some c)(hi:0<i)(B:p.at c.par=some q){j:Int}(I:j≠i):Bo p (p.up1 now i) j:=by
 rw[Qmq hc];split;·exact Bo.refl _ _
 ·obtain⟨u,E⟩:=z.pid hc hi B;have h1:Bo p (p.fam i fun f=>f.wake i) j:=Ab hc B (Be (by rw[Qes,if_neg I]));have d:=(Qe.aE hc).2;have k:(p.fam i fun f=>f.wake i).at c.id=some c:=by rw[d,Pt hc B,if_neg (fun e=>u (by rw[E,←e]))];exact hc
  exact h1.trans (Bo.set (x:={c with limit:=c.limit.wake now c.total}) (y:=c) k rfl rfl rfl ⟨rfl,rfl⟩ (fun e=>absurd (e.trans d) I) (fun _ _=>Iff.rfl))
theorem Qrz(z:Qs dep N p){now:Nat}{i:Int}{c q:Qx}(hc:p.at i=some c)(hi:0<i)(B:p.at c.par=some q):Hm p (p.up1 now i):=by
 rw[Qmq hc];split;·exact Hm.refl _
 ·obtain⟨u,E⟩:=z.pid hc hi B;have k:=(Qe.aE hc).2;have d:(p.fam i fun f=>f.wake i).at c.id=some c:=by rw[k,Pt hc B,if_neg (fun e=>u (by rw[E,←e]))];exact hc
  exact(Qap hc B (fun j=>Qqf)).trans (Hm.set (x:={c with limit:=c.limit.wake now c.total}) (y:=c) d (fun _=>rfl) rfl)
def Bt(p:Qe):Prop:=∀k q,p.at k=some q→∀j,(q.mem.at j).isSome=true↔∃c,p.at j=some c∧0<j∧c.par=k∧c.aJ=true
theorem Bt.same(h:Bt p)(hs:Jv p p')(J:Hm p p'):Bt p':=by
 intro k K u j;obtain⟨q,I,_⟩:=hs.back u;have h1:=J k j;rw[I,u]at h1;simp only[Zn,Option.some.injEq,Prod.mk.injEq]at h1;rw[h1.1,h k q I j];refine⟨fun⟨c,hc,h1,B,E⟩=>?_,fun⟨c,hc,h1,B,E⟩=>?_⟩;·obtain⟨c',d,e1,_,z⟩:=hs.get hc;exact⟨c',d,h1,e1.trans B,z.trans E⟩
 ·obtain⟨c',d,e1,_,z⟩:=hs.back hc;exact⟨c',d,h1,e1.trans B,z.trans E⟩
theorem Qqn(E:Qs dep N p)(K:Bt p){now:Nat}{i:Int}{c q:Qx}(hc:p.at i=some c)(hi:0<i)(u:p.at c.par=some q):(p.up1 now i).aL i=(p.aL i||c.aJ):=by
 rw[Qmq hc];by_cases ha:p.aL i=true;·rw[if_pos (by simp[ha]),ha];rfl
 ·have ha:p.aL i=false:=by simpa using ha
  by_cases hs:c.aJ=true
  ·rw[if_neg (by simp[ha,hs]),ha];obtain⟨B,I⟩:=E.pid hc hi u;have d:=(Qe.aE hc).2;have k:c.par≠i:=fun e=>B (by rw[I,e]);have z:(p.fam i fun f=>f.wake i).at c.id=some c:=by rw[d,Pt hc u,if_neg (Ne.symm k)];exact hc
   have h1:=V0 (x:={c with limit:=c.limit.wake now c.total}) (y:=c) z;have e1:((p.fam i fun f=>f.wake i).set {c with limit:=c.limit.wake now c.total}).at i=some {c with limit:=c.limit.wake now c.total}:=by rw[h1,if_pos d.symm]
   have J:((p.fam i fun f=>f.wake i).set {c with limit:=c.limit.wake now c.total}).at c.par=some {q with mem:=q.mem.wake i}:=by rw[h1,if_neg (fun e=>k (e.trans d)),Pt hc u,if_pos rfl]
   rw[Qe.awake_eq e1 (q:={q with mem:=q.mem.wake i}) J hi];show(q.mem.wake i).up i=_;rw[Que,if_pos rfl];have:=(K c.par q u i).2 ⟨c,hc,hi,rfl,hs⟩;rw[this,hs];rfl
  ·have hs:c.aJ=false:=by simpa using hs
   rw[if_pos (by simp[hs]),ha,hs];rfl
theorem Qaz{i:Int}{c q:Qx}(hc:p.at i=some c)(u:p.at c.par=some q){j:Int}(z:j≠i)(k:j≠c.par):Bo p (p.note i) j:=by
 rw[St hc u];have d:=(Qe.aE u).2;refine Bo.set (y:=q) (show p.at q.id=_ by rw[d];exact u) rfl rfl rfl ⟨rfl,rfl⟩ (fun e=>absurd (e.trans d) k) fun a b=>?_;dsimp only;split;·unfold Vf;rw[Lb];unfold Xa;rw[List.mem_filter];simp only[Prod.mk.injEq,z,false_and,and_false,false_or,Bool.not_eq_true',decide_eq_false_iff_not,not_false_eq_true,and_true]
 ·unfold Xa;rw[List.mem_filter];simp only[z,Bool.not_eq_true',decide_eq_false_iff_not,not_false_eq_true,and_true]
theorem Cr{i:Int}{c q:Qx}(hc:p.at i=some c)(d:p.at c.par=some q):Hm p (p.note i):=by rw[St hc d];have k:=(Qe.aE d).2;exact Hm.set (y:=q) (show p.at q.id=_ by rw[k];exact d) (fun _=>rfl) rfl
theorem Qr7{i:Int}{c q:Qx}(hc:p.at i=some c)(u:p.at c.par=some q)(j:Int):∀k,((p.note i).at k).map (fun c=>(c.mem.up j,c.mem.v j))=(p.at k).map fun c=>(c.mem.up j,c.mem.v j):=fun k=>by
 rw[St hc u];have d:=(Qe.aE u).2;rw[V0 (x:={q with tree:=if p.aL i then Vf i (p.v i) c.fit q.tree else Xa i q.tree}) (y:=q) (show p.at q.id=_ by rw[d];exact u)];show Option.map _ (if k=q.id then _ else _)=_;by_cases e:k=q.id;·rw[if_pos e,e,d,u];rfl
 ·rw[if_neg e]
theorem Qgk(hs:Jv p p'){j:Int}(B:∀k,(p'.at k).map (fun c=>(c.mem.up j,c.mem.v j))=(p.at k).map fun c=>(c.mem.up j,c.mem.v j)):p'.aL j=p.aL j∧p'.v j=p.v j:=by
 unfold Qe.aL Qe.v;cases hc:p.at j with
 |none=>rw[hs.none hc];exact⟨rfl,rfl⟩
 |some c=>
  obtain⟨c',d,e,_⟩:=hs.get hc;rw[d];dsimp only;rw[e];have:=B c.par;cases u:p.at c.par with
  |none=>rw[hs.none u];exact⟨rfl,rfl⟩
  |some q=> rw[u]at this;obtain⟨E,z,_⟩:=hs.get u;rw[z]at this⊢;simp only[Zn,Option.some.injEq,Prod.mk.injEq]at this;simp[this.1,this.2]
theorem E9(d:Qs dep N p){i:Int}{c q:Qx}(hc:p.at i=some c)(hi:0<i)(k:p.at c.par=some q)(j:Int):(p.note i).aL j=p.aL j∧(p.note i).v j=p.v j:=Qgk (d.note hc hi k).2 (Qr7 hc k j)
theorem Wg(B:Qs dep N p){i:Int}{c q:Qx}(hc:p.at i=some c)(hi:0<i)(R:p.at c.par=some q):Mw (p.note i) i:=by
 obtain⟨V,I⟩:=B.pid hc hi R;obtain⟨ha,hv⟩:=E9 B hc hi R i;intro k q' u a b;rw[ha,hv];have J:∀j,(p.note i).at j=if j=c.par then some {q with tree:=if p.aL i then Vf i (p.v i) c.fit q.tree else Xa i q.tree}else p.at j:=fun j=>by rw[St hc R,V0 (x:={q with tree:=if p.aL i then Vf i (p.v i) c.fit q.tree else Xa i q.tree}) (y:=q) (show p.at q.id=_ by rw[I];exact R)];show(if j=q.id then _ else _)=_;rw[I]
 have Z:i≠c.par:=fun e=>V (by rw[I,e]);rw[J,if_neg Z];rw[J]at u;by_cases K:k=c.par
 ·rw[if_pos K]at u;obtain rfl:=Zs u;dsimp only;by_cases z:p.aL i=true;·rw[if_pos z];unfold Vf;rw[Lb];unfold Xa;rw[List.mem_filter];simp only[Prod.mk.injEq,true_and,decide_true,Bool.not_true,Bool.false_eq_true,and_false,or_false,hi,z,hc,Option.some.injEq,exists_eq_left'];exact⟨fun⟨h1,U⟩=>⟨h1,K.symm,U⟩,fun⟨h1,_,U⟩=>⟨h1,U⟩⟩
  ·rw[if_neg z];unfold Xa;rw[List.mem_filter];simp[z]
 ·rw[if_neg K]at u;refine⟨fun hm=>?_,fun⟨_,_,_,c',d,E,_⟩=>?_⟩;·obtain⟨ab,aa⟩:=Qe.aE u;obtain⟨c',d,E,_⟩:=B.tr q' ab (a,i,b) hm;dsimp only at d;rw[hc]at d;obtain rfl:=Zs d;exact absurd (aa.symm.trans E.symm) K
  ·rw[hc]at d;obtain rfl:=Zs d;exact absurd E.symm K
theorem Wq{g:Nat}{i:Int}{c:Qx}(hc:p.at i=some c):p.gain1 g i=(p.set {c with total:=c.total+min g (Xw-c.total)}).fam i fun f=>f.gain i g:=by unfold Qe.gain1;rw[hc]
theorem Ce(z:Qs dep N p){g:Nat}{i:Int}{c q:Qx}(hc:p.at i=some c)(hi:0<i)(E:p.at c.par=some q):
  p.at c.id=some c∧(p.set {c with total:=c.total+min g (Xw-c.total)}).at i=some {c with total:=c.total+min g (Xw-c.total)}∧(p.set {c with total:=c.total+min g (Xw-c.total)}).at c.par=some q:=by
 obtain⟨u,B⟩:=z.pid hc hi E;have d:=(Qe.aE hc).2;have k:p.at c.id=some c:=by rw[d];exact hc
 have h1:=V0 (x:={c with total:=c.total+min g (Xw-c.total)}) (y:=c) k;exact⟨k,by rw[h1,if_pos d.symm],by rw[h1,if_neg (fun e=>u (by rw[B,e];exact d))];exact E⟩
theorem Qd0(u:Qs dep N p){g:Nat}{i:Int}{c q:Qx}(hc:p.at i=some c)(hi:0<i)(E:p.at c.par=some q){j:Int}(z:j≠i):Bo p (p.gain1 g i) j:=by
 rw[Wq hc];obtain⟨d,h1,B⟩:=Ce (g:=g) u hc hi E;have k:=(Qe.aE hc).2;exact(Bo.set (x:={c with total:=c.total+min g (Xw-c.total)}) (y:=c) d rfl rfl rfl ⟨rfl,rfl⟩ (fun e=>absurd (e.trans k) z) (fun _ _=>Iff.rfl)).trans
  (Ab h1 B (Be (by rw[Qeq,if_neg z])))
theorem Qk4(k:Qs dep N p){g:Nat}{i:Int}{c q:Qx}(hc:p.at i=some c)(hi:0<i)(z:p.at c.par=some q):Hm p (p.gain1 g i):=by rw[Wq hc];obtain⟨d,h1,u⟩:=Ce (g:=g) k hc hi z;exact(Hm.set (x:={c with total:=c.total+min g (Xw-c.total)}) (y:=c) d (fun _=>rfl) rfl).trans (Qap h1 u (fun j=>Qqe))
theorem Qg5(d:Qs dep N p){g:Nat}{i:Int}{c q:Qx}(hc:p.at i=some c)(hi:0<i)(k:p.at c.par=some q)(j:Int):(p.gain1 g i).aL j=p.aL j:=by
 by_cases I:j=i
 ·obtain⟨u,B⟩:=d.pid hc hi k;obtain⟨K,h1,E⟩:=Ce (g:=g) d hc hi k;have z:i≠c.par:=fun e=>u (by rw[B,e]);rw[Wq hc,I];have e1:((p.set {c with total:=c.total+min g (Xw-c.total)}).fam i fun f=>f.gain i g).at i=some {c with total:=c.total+min g (Xw-c.total)}:=by rw[Pt h1 E,if_neg z];exact h1
  have J:((p.set {c with total:=c.total+min g (Xw-c.total)}).fam i fun f=>f.gain i g).at c.par=some {q with mem:=q.mem.gain i g}:=by rw[Pt h1 E,if_pos rfl]
  rw[Qe.awake_eq e1 (q:={q with mem:=q.mem.gain i g}) J hi,Qe.awake_eq hc k hi];exact Qud
 ·exact(Qd0 d hc hi k I).aL
theorem Nu{sl:Bool}{i:Int}{c:Qx}(hc:p.at i=some c):p.rest1 sl i=Qe.note (if sl&&(c.leaf||decide (c.tree.length=0))then p.fam i fun f=>f.sleep i else p) i:=by unfold Qe.rest1;rw[hc]
theorem Sw(k:Qs dep N p){i:Int}{c q:Qx}(hc:p.at i=some c)(hi:0<i)(z:p.at c.par=some q):
  (p.fam i fun f=>f.sleep i).at i=some c∧(p.fam i fun f=>f.sleep i).at c.par=some {q with mem:=q.mem.sleep i}:=by
 obtain⟨d,B⟩:=k.pid hc hi z;have u:i≠c.par:=fun e=>d (by rw[B,e]);exact⟨by rw[Pt hc z,if_neg u];exact hc,by rw[Pt hc z,if_pos rfl]⟩
theorem Qi8(d:Qs dep N p){i:Int}{c q:Qx}(hc:p.at i=some c)(hi:0<i)(k:p.at c.par=some q):Qs dep N (p.fam i fun f=>f.sleep i)∧Jv p (p.fam i fun f=>f.sleep i):=by obtain⟨k1,k2,_⟩:=d.fam (f:=fun f=>f.sleep i) (Zv _) hc hi k ((d.ok q (Qe.aE k).1).fam.sleep i);exact⟨k1,k2⟩
theorem Qpg(u:Qs dep N p){sl:Bool}{i:Int}{c q:Qx}(hc:p.at i=some c)(hi:0<i)(z:p.at c.par=some q){j:Int}(k:j≠i)(d:j≠c.par):Bo p (p.rest1 sl i) j:=by
 rw[Nu hc];split;·obtain⟨h1,B⟩:=Sw u hc hi z;exact(Ab hc z (Be (by rw[M6,if_neg k]))).trans (Qaz h1 B k d)
 ·exact Qaz hc z k d
theorem Qk5(d:Qs dep N p){sl:Bool}{i:Int}{c q:Qx}(hc:p.at i=some c)(hi:0<i)(k:p.at c.par=some q):Hm p (p.rest1 sl i):=by
 rw[Nu hc];split;·obtain⟨h1,u⟩:=Sw d hc hi k;exact(Qap hc k (fun j=>Qmk)).trans (Cr h1 u)
 ·exact Cr hc k
theorem Qog(d:Qs dep N p){sl:Bool}{i:Int}{c q:Qx}(hc:p.at i=some c)(hi:0<i)(k:p.at c.par=some q):Mw (p.rest1 sl i) i:=by
 rw[Nu hc];split;·obtain⟨h1,u⟩:=Sw d hc hi k;exact Wg (Qi8 d hc hi k).1 h1 hi u
 ·exact Wg d hc hi k
theorem Og(d:Qs dep N p){sl:Bool}{i:Int}{c q:Qx}(hc:p.at i=some c)(hi:0<i)(u:p.at c.par=some q)(j:Int):
  (p.rest1 sl i).aL j=if j=i∧(sl&&(c.leaf||decide (c.tree.length=0)))=true then false else p.aL j:=by
 rw[Nu hc];by_cases hs:(sl&&(c.leaf||decide (c.tree.length=0)))=true
 ·obtain⟨h1,z⟩:=Sw d hc hi u;rw[if_pos hs,(E9 (Qi8 d hc hi u).1 h1 hi z j).1];by_cases k:j=i;·rw[if_pos ⟨k,hs⟩,k,Qe.awake_eq h1 z hi];show(q.mem.sleep i).up i=_;rw[Qsz,if_pos rfl]
  ·rw[if_neg (fun h=>k h.1)];exact(Ab hc u (Be (by rw[M6,if_neg k]))).aL
 ·rw[if_neg hs,if_neg (fun h=>hs h.2),(E9 d hc hi u j).1]
end
end Go.Proofs.YtnnhmpehkbihnaaGreat
