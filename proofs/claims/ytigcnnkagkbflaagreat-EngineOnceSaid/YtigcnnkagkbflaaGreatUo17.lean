/- A part of the proof: no condition. -/
import Derived.Test.YtigcnnkagkbflaaGreatUo16
import Derived.ScopeJumps
namespace Go.Proofs.YtigcnnkagkbflaaGreat
set_option linter.unusedVariables false
set_option maxRecDepth 100000
set_option maxHeartbeats 4000000
open Go.RowKit
open Go.Proofs.Tryz
attribute [local go_sem] Qp
section
attribute [local go_sem] Wk
structure Qqu(w:World)(F:Fp)(b m:Nat)(ad:Int->Nat)(f:Jc)(l:List Jh)(b' m' r:Nat)(wr:World)(lm dn:List Jh):Prop where
 it:Kj wr m r (Xy Jh.id ad l) (Xy Jh.id ad lm)
 sub:lm.Sublist l
 perm:(dn++lm).Perm l
 chg:Qc Qb w wr
 blk:Qh wr b' #[.map (some m'),ZU f.mark] 245
 co:∃ad' G,Yn Jh.id Vj wr G m' ad' dn/\∀k,G k->w.heap.size<=k/\k≠r/\k≠b'
 nb:w.heap.size<=b'/\w.heap.size<=r/\b'≠r
theorem Qmt{w}{F:Fp}{b:Nat}{f:Jc}(h:J0 w F b f)(hN:∀x∈f.all,x.run.l.length<1099511627776):
  Cl 127 #[ptr b] w λe w'=>∃b',e=.returned (ptr b')/\J0 w' (Qn Qb w w') b' f/\Qc Qb w w':=by
 obtain⟨m,ad,hA⟩:=h.addr;have HA:=O hA;obtain⟨l,hp,hB,G,hC⟩:=hA.coll;have HP:=O hp;have ak:=O hC.nodup;have a0:=Q4 hB;obtain⟨s,hs⟩:=Zx (w.heap.size);obtain⟨W,hW⟩:=Zx ((w.alloc (.map #[] 0)).alloc (.cells #[.map (some w.heap.size),ZU f.mark] 245));have bk:=@run_makeMap prog;have C0:Qc Qb w W:=by rw[hW];exact((Zg _ _).alloc _).alloc _
 have hm:Xq W s []:=by rw[hW,hs];exact(Xq.new w).aB ((Zg Qb _).alloc _) (λh=>h)
 have au:Qh W (s+1) #[.map (some s),ZU f.mark] 245:=by rw[hW,hs];exact Qh.new' _ _ (by simp)
 have Z:W.heap.size=s+1+1:=by rw[hW,hs];simp
 obtain⟨o,az,ag⟩:=Er (P:=prog) (hC.map.aB C0 (λh=>h)) underlying243;have B:Hi (∃lm E,Qqu w F b m ad f l (s+1) s (s+1+1) (W.alloc o) lm E):=O (by
  have cc:Qc Qb W (W.alloc o):=(Zg _ _).alloc _;rw[Z]at ag;refine⟨l,[],ag,List.Sublist.refl _,by simp,C0.aA cc,cc.blk au (λh=>h),⟨λ_=>0,λk=>k=s,Yn.new (hm.aB cc (λh=>h)) (λk e=>by rw[e];exact(hm.aB cc (λh=>h)).lt) rfl,?_⟩,?_⟩;·intro k e;omega
  .omega)
 have q1:=Q4 (((Zg Qb w).alloc (.map #[] 0)).blk hB (λh=>h));have f0:=q1;have e0:=(Q4 (C0.blk hB (λh=>h))).1;rw[Z]at az;rw[hW]at e0 B az;subst hs;have a7:=O hN;clear h hA hB hC hp hm au C0 ag hN Z hW;apply WH func127;go_wp2_with fail;go_loopw [4,5,6] (λ_ _ _ wr=>∃lm E,Qqu w F b m ad f l (w.heap.size+1) w.heap.size (w.heap.size+1+1) wr lm E) (λ_ _ _ wr=>Dq wr (w.heap.size+1+1));case atStart=>exact B.o
 case round=>
  obtain⟨lm,E,c⟩:=hrel;have U:=ak.o.sublist (c.sub.map _);have e1:=Q4 c.blk;rcases Rx (P:=prog) c.it 0 with⟨h0,hr⟩|⟨p,hp,w2,hr,R,K,af⟩
  .have ba:lm=[]:=by
    cases lm with
    |nil=>rfl
    |cons a l=>cases h0
   subst ba;have a4:Hi (J0 wr (Qn Qb w wr) (w.heap.size+1) f/\Qc Qb w wr):=O (by
    obtain⟨al,G',I,z⟩:=c.co;have bd:E.Perm l:=by simpa using c.perm
    refine⟨⟨w.heap.size,al,E,bd.trans HP.o,?_⟩,c.chg⟩;refine Q7 (G:=λk=>k=w.heap.size+1) (H:=G') ⟨c.blk,rfl,λk e=>e▸c.blk.lt⟩ (Y6 I I.bd) ?_ ?_ ?_ (λk d=>d.elim (λh=>h.elim) (λh=>h.2));·rintro k rfl d;exact(z _ d).2.2 rfl
    .rintro k rfl;exact .inr ⟨by omega,c.blk.lt⟩
    .intro k d;exact .inr ⟨(z k d).1,I.bd k d⟩)
   clear c U;go_wp2_with fail;go_ret;exact⟨_,rfl,a4.o⟩
  .obtain⟨x,hx,rfl⟩:=Z3.1 hp;have be:=c.sub.subset hx;have a2:=HP.o.mem_iff.1 be;have c2:Qc Qb w w2:=c.chg.trans K (λk e=>.inr (by rw[e];omega));obtain⟨p,H,hM,hR,_⟩:=((Yu.obj m ad).aB HA.o c2 (Jl.none F)).memB a2;obtain⟨W3,J⟩:=Zx (w2.alloc (.cells (Pp x p) 255));have c3:Qc Qb w2 W3:=by rw[J];exact(Zg _ _).alloc _
   have aq:Qh W3 (ad x.id) (Pp x p) 255:=c3.blk hM (λh=>h);have aa:Qh W3 w2.heap.size (Pp x p) 255:=by rw[J];exact Qh.new _ _ _
   have HC:=O (Mo (runP.aB hR c3 (Jl.none H)) (a7.o x a2));obtain⟨d0,d1,d2,d3⟩:=X9 hM;obtain⟨_,_,g2,_⟩:=X9 aq;have ae:Qh w2 (w.heap.size+1) #[.map (some w.heap.size),ZU f.mark] 245:=K.blk c.blk (by omega);have aj:=O ae;have a5:=O aa;have ai:Hi (∀w4 q,Yv w4 (Qn Qb W3 w4) q x.run->Qc Qb W3 w4->∃w6,(Instr.mapUpdate 243 (.map (some w.heap.size)) (ZI x.id) (ZP w2.heap.size)).run prog (w4.setCell ⟨w2.heap.size,2,none⟩ (ptr q))=.ok () w6/\
     Qqu w F b m ad f l (w.heap.size+1) w.heap.size (w.heap.size+1+1) w6 (Kp Jh.id x.id lm) (E++[x])/\Dq w6 (w.heap.size+1+1)<Dq wr (w.heap.size+1+1)):=O (by
    intro w4 q V c4;obtain⟨al,G',I,z⟩:=c.co;have s1:=c.chg.size;have s2:=K.size;have s3:=c3.size;have s4:=c4.size;have bh:w2.heap.size<W3.heap.size:=aa.lt;have bg:=(show w.heap.size+1+1<w2.heap.size from by
     obtain⟨o2,h2,_⟩:=R.walk;exact(Z2.1 h2).1)
    have an:Qc (λk=>k=w2.heap.size) w4 (w4.setCell ⟨w2.heap.size,2,none⟩ (ptr q)):=(Zg _ _).setCell _ (.inl rfl);have a8:=c4.blk aa (λh=>h);have ar:Qh (w4.setCell ⟨w2.heap.size,2,none⟩ (ptr q)) w2.heap.size (Pp x q) 255:=a8.set' 2 _ rfl;have a9:Yv (w4.setCell ⟨w2.heap.size,2,none⟩ (ptr q)) (Qn Qb W3 w4) q x.run:=runP.aB V an (λk d e=>by rcases(Qr k).1 d with⟨h1,_⟩;omega);have am:Qc Qb w2 (w4.setCell ⟨w2.heap.size,2,none⟩ (ptr q)):=(c3.aA c4).trans an (λk e=>.inr (by rw[e];exact Zv _));have bi:=ar.lt;have hX:Vj (w4.setCell ⟨w2.heap.size,2,none⟩ (ptr q)) (Qn Qb w2 (w4.setCell ⟨w2.heap.size,2,none⟩ (ptr q))) w2.heap.size x:=
     O1.new (p:=q) (G:=Qn Qb W3 w4) a9 (λk d=>by rcases(Qr k).1 d with⟨h1,_⟩;omega) runP ar (Zv _) (λd=>by rcases(Qr _).1 d with⟨h1,_⟩;omega)
    have ao:=I.aB Vj.obj K (λk d e=>(z k d).2.1 e);have ap:=ao.aB Vj.obj am (Jl.none G');obtain⟨w6,ah,bb,c6⟩:=X6 (P:=prog) ap.map underlying243 underlying3 x.id (ZP w2.heap.size);have bc:Hn Jh.id x.id E=none:=by
     cases ha:Hn Jh.id x.id E with
     |none=>rfl
     |some y=> obtain⟨hy,bf⟩:=Y3 ha;have aw:((E++lm).map Jh.id).Nodup:=((c.perm.map _).nodup_iff).2 ak.o;rw[List.map_append,List.nodup_append]at aw;exact(aw.2.2 _ (Z3.2 ⟨y,hy,rfl⟩) _ (Z3.2 ⟨x,hx,rfl⟩) bf).elim
    have a6:=ap.put Vj.obj hX (λk a b'=>by
     rcases(Qr k).1 a with⟨h1,_⟩;have:=ao.bd k b';omega) bc bb c6
    have bj:∀k,G' k->w.heap.size<=k/\k≠w.heap.size+1+1/\k≠w.heap.size+1:=z;have ac:Qc (λk=>k=w.heap.size) w2 w6:=(am.none).aA c6;have ab:Kj w6 m (w.heap.size+1+1) (Xy Jh.id ad l) (Vu x.id (Xy Jh.id ad lm)):=R.aB ac (by have:=HA.o.coll;obtain⟨_,_,_,_,hq⟩:=this;have:=hq.map.lt;omega) (by omega);have ay:=O8 (key:=Jh.id) U hx;refine⟨w6,ah,⟨?_,List.filter_sublist.trans c.sub,?_,?_,ac.blk ae (by omega),⟨_,_,a6,?_⟩,c.nb⟩,?_⟩;·rw[<-Hr];exact ab
    .refine List.Perm.trans ?_ c.perm;rw[List.append_assoc];exact List.Perm.append_left E ay.symm
    .exact c2.trans ac (λk e=>.inr (by rw[e];exact Zv _))
    .intro k d;rcases d with d|d;·exact z k d
     .rcases(Qr k).1 d with⟨h1,_⟩;omega
    .rw[ab.left_eq,c.it.left_eq,Hr];have:=ay.length_eq;simp only[Xy,List.length_map,Zm]at*;omega)
   dsimp only at hr af;have u:=J;unfold Pp at u;unfold ptr at hr af HC d2 g2 u;rw[u]at HC g2;clear c U R K c2 c3 hM aq hR aa ae hp;go_wp2_with fail;apply Zo HC;rintro e w4⟨q,rfl,V,c4⟩;rw[<-u]at V c4;obtain⟨w6,ah,av,Xg⟩:=ai.o w4 q V c4;have a3:=O av;have LT:=O Xg;have q4:=c4.blk a5.o (λh=>h);have k0:=X9 q4;have z2:=q4.frozen 2;have q5:=c4.blk ((show Qc Qb w2 W3 from by rw[J];exact(Zg _ _).alloc _).blk aj.o (λh=>h)) (λh=>h);have ax:w2.heap.size≠w.heap.size+1:=by have:=aj.o.lt;omega
   obtain⟨y0,y1⟩:=Q4 (q5.other (a:=⟨w2.heap.size,2,none⟩) (ptr q) ax);unfold ptr at ah y0 y1;clear V c4 av Xg q4 q5 hr af d0 d1 d2 d3 g2 J u;go_wp2_with fail;exact⟨⟨_,_,a3.o⟩,LT.o⟩
end
section
attribute [local irreducible] Kl
structure Ps(N:Nat)(c:Qx):Prop where
 total:c.total<=Xw
 lim:∀r,c.limit=some r->r.l.length<=N
 mem:∀x∈c.mem.all,x.total<=Xw/\x.run.l.length<=N/\x.v<=Qq
 mark:c.mem.mark<=Qq
 tree:c.tree.length<=N
 aM:c.aM<=65536
structure Qs(dep:Int->Nat)(N:Nat)(p:Qe):Prop where
 nd:(p.map Qx.id).Nodup
 root:∃r,p.at 0=some r/\r.leaf=false
 up:dep 0=0/\∀c∈p,c.id≠0->0<c.id/\(∃q,p.at c.par=some q)/\dep c.id=dep c.par+1/\dep c.id<=8
 tr:∀q∈p,∀e∈q.tree,∃c,p.at e.2.1=some c/\c.par=q.id/\0<e.2.1
 ok:∀c∈p,Ps N c
theorem Ps.more{N M:Nat}{c:Qx}(h:Ps N c)(d:N<=M):Ps M c:=⟨h.total,λr q=>Zp (h.lim r q) d,λx k=>⟨(h.mem x k).1,Zp (h.mem x k).2.1 d,(h.mem x k).2.2⟩,h.mark,Zp h.tree d,h.aM⟩
theorem Qs.par{dep:Int->Nat}{N:Nat}{p:Qe}(h:Qs dep N p){i:Int}{c:Qx}(d:p.at i=some c)(z:0<i):∃q,p.at c.par=some q:=by obtain⟨u,rfl⟩:=Qe.aE d;obtain⟨_,k⟩:=h.up;exact(k c u (by omega)).2.1
theorem Qs.pos{dep:Int->Nat}{N:Nat}{p:Qe}(h:Qs dep N p){i:Int}{c:Qx}(k:p.at i=some c):0<=i:=by
 obtain⟨u,rfl⟩:=Qe.aE k;obtain⟨_,q⟩:=h.up;by_cases d:c.id=0;·omega
 .have:=(q c u d).1;omega
section
variable{A:Dz}{w:World}{F:Fp}{b:Nat}{p:Qe}{N:Nat}{dep:Int->Nat}
theorem Qo.fam(h:Qo A w F b p){i:Int}{c:Qx}(k:p.at i=some c):∃G,J0 w G (A.pf i) c.mem:=by obtain⟨q,rfl⟩:=Qe.aE k;obtain⟨G,d,_⟩:=h.famOf q;exact⟨G,d⟩
theorem Qo.cell(h:Qo A w F b p){i:Int}{c:Qx}(d:p.at i=some c):Qh w (A.ad i) (Pn c (A.vl i) (A.pf i) (A.pt i)) 147:=by obtain⟨k,rfl⟩:=Qe.aE d;exact h.cells k
theorem Xz{i:Int}{c:Qx}(d:p.at i=some c):pkV A p i=ptr (A.ad i):=by unfold pkV;rw[d]
theorem Ep{i:Int}(c:p.at i=none):pkV A p i=.pointer none:=by unfold pkV;rw[c]
theorem Qo.drew(h:Qo A w F b p):Qo A w.drew F b p:=(Qo.obj A).aB h (Zg Qb w).drew (Jl.none F)
theorem Hw(h:Qo A w F b p)(i:Int):ZW 79 #[ptr b,ZI i] w (pkV A p i) λw'=>w=w':=by have c:=h.look1 i;have d:=Jf h.blk;generalize pkV A p i=v at c|-;unfold ptr;clear h;apply WH func79;exact WE
theorem Qe.awake_eq{i:Int}{c q:Qx}(d:p.at i=some c)(u:p.at c.par=some q)(k:0<i):p.aL i=q.mem.up i:=by unfold Qe.aL;simp_all
theorem Qe.awake_none{i:Int}(c:p.at i=none):p.aL i=false:=by unfold Qe.aL;rw[c]
theorem Qe.awake_neg{i:Int}(c:¬0<i):p.aL i=false:=by grind [Qe.aL,Jy.at,Tr.at,Xh.at]
theorem Qe.v_eq{i:Int}{c q:Qx}(d:p.at i=some c)(u:p.at c.par=some q)(k:0<i):p.v i=q.mem.v i:=by unfold Qe.v at*;simp_all;omega
theorem Qe.v_none{i:Int}(c:p.at i=none):p.v i=0:=by unfold Qe.v;rw[c]
theorem Qe.v_neg{i:Int}(c:¬0<i):p.v i=0:=by grind [Jc.v,Qe.v,Jy.at,Tr.at,Xh.at]
theorem Hx(h:Qo A w F b p)(d:Qs dep N p)(i:Int):ZW 158 #[ptr b,ZI i] w (.bool (p.aL i)) λw'=>Qc Qb w w':=by
 have u:=O (Hw h i);have E:=O (Zg Qb w).drew;by_cases z:0<i
 .have d1:decide (0<i)=true:=by simpa using z
  cases k:p.at i with
  |none=>
   rw[Qe.awake_none k];rw[Ep k]at u;clear h k d;apply WH func158;go_wp2_with fail;apply Zy u;rintro w1 rfl;go_wp2_with fail;apply XB 20200000000000000000000;iterate 7 (refine Jq (h:=?_))
   iterate 14 (first|(refine Qs8 (by kernel_rfl) ?_)|(refine Qmz (by kernel_rfl) ?_)|(refine Qs7 (by kernel_rfl) ?_);try simp only[Act.put,Za,Zc,Zb])
   apply YI 0;exact WD E
  |some c=>
   obtain⟨q,B⟩:=d.par k z;obtain⟨G,J⟩:=h.drew.fam B;have I:=O (Qjg J i);rw[Qe.awake_eq k B z];rw[Xz k]at u;have K:=h.drew.look1 c.par;rw[Xz B]at K;have R:=Jf h.drew.blk;have U:=Ja (h.drew.cell k);have q0:=Ja (h.drew.cell B);generalize q.mem.up i=r at I|-;clear h k d B J;apply WH func158;go_wp2_with fail;apply Zy u;rintro w1 rfl;go_wp2_with fail;apply XB 20200000000000000000000;apply YA 0;clear K R U q0;go_wp2_with fail;apply Zy I;rintro w2 rfl;go_wp2_with fail;apply YI 0;exact WD E
 .have d1:decide (0<i)=false:=by simpa using z
  rw[Qe.awake_neg z];generalize pkV A p i=v at u;clear h d;apply WH func158;go_wp2_with fail;apply Zy u;rintro w1 rfl;go_wp2_with fail;apply XB 20200000000000000000000;iterate 3 (refine Jq (h:=?_))
  iterate 2 (first|(refine Qs8 (by kernel_rfl) ?_)|(refine Qmz (by kernel_rfl) ?_)|(refine Qs7 (by kernel_rfl) ?_);try simp only[Act.put,Za,Zc,Zb])
  iterate 2 (refine Jq (h:=?_))
  iterate 14 (first|(refine Qs8 (by kernel_rfl) ?_)|(refine Qmz (by kernel_rfl) ?_)|(refine Qs7 (by kernel_rfl) ?_);try simp only[Act.put,Za,Zc,Zb])
  apply YI 0;exact WD E
theorem Qnl(h:Qo A w F b p)(d:Qs dep N p)(i:Int):ZW 217 #[ptr b,ZI i] w (ZU ((p.v i:Nat):Int)) λw'=>Qc Qb w w':=by
 have u:=O (Hw h i);have K:=O (Zg Qb w).drew;by_cases B:0<i
 .have d1:decide (i<1)=false:=by simp;omega
  have d2:¬i<1:=by omega
  cases k:p.at i with
  |none=> rw[Qe.v_none k];rw[Ep k]at u;clear h k d;apply WH func217;go_wp2_with fail;apply Zy u;rintro w1 rfl;go_wp2;go_ret;exact⟨rfl,Zg _ _⟩
  |some c=>
   obtain⟨q,z⟩:=d.par k B;obtain⟨G,I⟩:=h.drew.fam z;have E:=O (Quf I i);rw[Qe.v_eq k z B];rw[Xz k]at u;have J:=h.drew.look1 c.par;rw[Xz z]at J;have R:=Jf h.drew.blk;have U:=Ja (h.drew.cell k);have q0:=Ja (h.drew.cell z);generalize q.mem.v i=r at E|-;clear h k d z I;apply WH func217;go_wp2_with fail;apply Zy u;rintro w1 rfl;go_wp2_with fail;apply XB 220000000000000;apply YA 0;clear J R U q0;go_wp2_with fail;apply Zy E;rintro w2 rfl;go_wp2_with fail;apply YI 0;exact WD K
 .have d1:decide (i<1)=true:=by simp;omega
  have d2:i<1:=by omega
  rw[Qe.v_neg B];generalize pkV A p i=v at u;clear h d;apply WH func217;go_wp2_with fail;apply Zy u;rintro w1 rfl;go_wp2;go_ret;exact⟨rfl,Zg _ _⟩
end
section
variable{A:Dz}{w:World}{F:Fp}{b:Nat}{p:Qe}{N:Nat}{dep:Int->Nat}
theorem Qo2(x:Nat)(w):ZW 245 #[.pointer none,ZU x] w (ZU 0) λw'=>Qc Qb w w':=by have k:=O (F8 w);apply WH func245;go_wp2_with fail;apply ZQ k;intro w1 d;exact WD d
theorem Qky{v:Value}{l:Kg}{G:Fp}(h:Do v l w G)(c:∀r,l=some r->r.l.length<549755813888)(x:Nat)(d:x<18446744073709551616):
  ZW 245 #[v,ZU x] w (ZU ((l.fit x:Nat):Int)) λw'=>Qc Qb w w':=by
 rcases h with⟨rfl,rfl,_⟩|⟨b,rfl,h⟩;·exact Qo2 x w
 .exact Qo1 h c x d
theorem Qo.lim(h:Qo A w F b p){i:Int}{c:Qx}(k:p.at i=some c):∃G,Do (A.vl i) c.limit w G:=by obtain⟨q,rfl⟩:=Qe.aE k;obtain⟨G,d,_⟩:=h.limOf q;exact⟨G,d⟩
theorem Qo.tre(h:Qo A w F b p){i:Int}{c:Qx}(k:p.at i=some c):∃G,Jg w G (A.pt i) c.tree:=by obtain⟨q,rfl⟩:=Qe.aE k;obtain⟨G,d,_⟩:=h.treeOf q;exact⟨G,d⟩
theorem Qcx(h:Qo A w F b p){i:Int}{c:Qx}(B:p.at i=some c)(u:Ps N c)(hN:N<549755813888):
  ZW 218 #[ptr (A.ad i)] w (ZU ((c.fit:Nat):Int)) λw'=>Qc Qb w w':=by
 obtain⟨G1,hl⟩:=h.drew.lim B;have U:=O (Qky hl (λr hr=>Nat.lt_of_le_of_lt (u.lim r hr) hN) c.total (by have:=u.total;have:=Yz;omega));obtain⟨G2,ht⟩:=h.tre B;have J:=O (λw'(B:Qc Qb w w')=>My (Jg.obj.aB ht B (Jl.none G2)));have HB:=O (h.cell B);have d0:=Ja (h.drew.cell B);unfold Qx.fit;dsimp only;generalize c.limit.fit c.total=own at U|-;cases q:c.leaf with
 |true=>
  have R:=O q;simp only[if_true];clear h B u hl ht q;apply WH func218;go_wp2_with fail;apply XB 2200000000;apply YA 0;clear d0;go_wp2_with fail;apply Zy U;intro w1 I;have z:=O I.aT;obtain⟨V,d,Z,K,c4,c5,c6,c7⟩:=Ja (z.o.blk HB.o (λh=>h));rw[R.o]at d;clear I;go_wp2_with fail;apply YI 0;exact WD z
 |false=>
  have R:=O q;simp only[Bool.false_eq_true,if_false];cases E:low c.tree with
  |none=>
   rw[E]at J;dsimp only[Option.getD_none,Option.isSome_none]at J|-;rw[show((Qq:Nat):Int)=9223372036854775808 from rfl];clear h B u hl ht q E;apply WH func218;go_wp2_with fail;apply XB 2200000000;apply YA 0;clear d0;go_wp2_with fail;apply Zy U;intro w1 I;have z:=O I.aT;obtain⟨V,d,Z,K,c4,c5,c6,c7⟩:=Ja (z.o.blk HB.o (λh=>h));rw[R.o]at d;clear I;go_wp2_with fail;apply YI 0;go_wp2_with fail;apply Z9 (J.o _ z.o) (λ_ k=>z.o.aA k);intro w2 C2;clear V d Z K c4 c5 c6 c7;exact WD C2
  |some s=>
   rw[E]at J;dsimp only[Option.getD_some,Option.isSome_some]at J|-;obtain⟨s1,s2⟩:=s;dsimp only at J|-;have HI:=O (λ(w:World)(g:Nat)(h:w.cell? ⟨g,0,none⟩=some (ZU s1))=>Qjf (c:=1) (own:=own) h);clear h B u hl ht q E;apply WH func218;go_wp2_with fail;apply XB 2200000000;apply YA 0;clear d0;go_wp2_with fail;apply Zy U;intro w1 I;have z:=O I.aT;obtain⟨V,d,Z,K,c4,c5,c6,c7⟩:=Ja (z.o.blk HB.o (λh=>h));rw[R.o]at d;clear I;go_wp2_with fail;apply YI 0;go_wp2_with fail;apply Z9 (J.o _ z.o) (λ_ k=>z.o.aA k);intro w2 C2;clear V d Z K c4 c5 c6 c7;go_wp2_with fail;apply Z9 (HI.o _ _ (Jf (Qh.new _ _ _))) (λ_ K=>(C2.o.alloc _).aA K);intro w3 C3;exact WD C3
theorem Qln(h:Qo A w F b p)(d:Qs dep N p):
  ZW 43 #[ptr b] w (ZU ((p.tick:Nat):Int)) λw'=>Qc Qb w w':=by
 have B:=O (Hw h 0);obtain⟨r,q,_⟩:=d.root;rw[Xz q]at B;obtain⟨G,E⟩:=h.tre q;have k:=O (My E);have I:=Ja (h.cell q);unfold Qe.tick;rw[q];dsimp only;cases c:low r.tree with
 |none=> rw[c]at k;dsimp only[Option.getD_none,Option.isSome_none]at k|-;rw[show((Qq:Nat):Int)=9223372036854775808 from rfl];clear h d q E c;apply WH func43;go_wp2_with fail;apply Zy B;rintro w1 rfl;go_wp2_with fail;apply ZQ k;intro w1 z;clear I;exact WD z
 |some s=> rw[c]at k;have s1:=s;dsimp only[Option.getD_some,Option.isSome_some]at k|-;clear h d q E c;apply WH func43;go_wp2_with fail;apply Zy B;rintro w1 rfl;go_wp2_with fail;apply ZQ k;intro w1 z;clear I;exact WD z
end
end
section
attribute [local irreducible] Kl J9
section
variable{A:Dz}{w:World}{F:Fp}{b:Nat}{p:Qe}{N:Nat}{dep:Int->Nat}
theorem Qcf{v:Nat}{l:List Xu}{e:Xu}(h:Xf v l=some e):e∈l:=List.mem_of_find?_eq_some h
theorem Qpf(p:Qe)(now n:Nat)(i:Int){c:Qx}(d:p.at i=some c):p.next now (n+1) i=if c.leaf then some i else match Xf now c.tree with
  |none=>none
  |some e=>p.next now n e.2.1:=by
 rw[Qe.next,d];rfl
theorem Qll(h:Qo A w F b p)(z:Qs dep N p)(now:Nat):
  ZW 55 #[ptr b,ZU now] w (.tuple #[ZI ((p.next now 10 0).getD 0),.bool (p.next now 10 0).isSome]) λw'=>Qc Qb w w':=by
 have HA:=O (Hw h 0);obtain⟨r,hr,_⟩:=z.root;obtain⟨Eu,hd⟩:=z.up;rw[Xz hr]at HA;have HO:=O z;have HH:=O h;have k:Hi (∃(id:Int)(c:Qx)(n:Nat),(0:Int)=id/\A.ad 0=A.ad id/\p.at id=some c/\n+dep id=9/\p.next now (n+1) id=p.next now 10 0/\Qc Qb w w):=O ⟨0,r,9,rfl,rfl,hr,by omega,rfl,Zg _ _⟩;generalize ae:p.next now 10 0=af at k|-;have HD:=O hd;clear h z hr ae hd;apply WH func55;go_wp2_with fail;apply Zy HA;rintro w1 rfl;go_wp2_with fail;go_loopw [6,7] (λi v wr=>∃(id:Int)(c:Qx)(n:Nat),i=ZI id/\v=ZP (A.ad id)/\p.at id=some c/\n+dep id=9/\p.next now (n+1) id=af/\Qc Qb w wr) (λi _ wr=>9-dep (intOf i));case atStart=> obtain⟨id,c,n,h1,h2,h3,h4,h5,h6⟩:=k.o;exact⟨id,c,n,by rw[<-h1],by rw[<-h2],h3,h4,h5,h6⟩
 case round=>
  obtain⟨id,c,n,rfl,rfl,K,hn,d,R⟩:=hrel;have J:=(Qo.obj A).aB HH.o R (Jl.none F);obtain⟨c0,c1,c2,c3,c4,c5,c6,c7⟩:=Ja (J.cell K);rw[Qpf p now n id K]at d;cases ab:c.leaf with
  |true=> rw[ab]at d c1;simp only[if_true]at d;subst d;have V:=O R;clear J R K;go_wp2;go_ret2;refine ⟨rfl,V.o⟩
  |false=>
   rw[ab]at d c1;simp only[Bool.false_eq_true,if_false]at d;obtain⟨G,ht⟩:=J.tre K;have U:=O (Qen ht now);cases q:Xf now c.tree with
   |none=> rw[q]at U d;dsimp only[Option.map_none,Option.getD_none,Option.isSome_none]at U d;subst d;have V:=O R;clear J R K ht q;go_wp2_with fail;apply ZF U (λ_ B=>V.o.aA B);intro w2 C2;clear c0 c1 c2 c3 c4 c5 c6 c7;go_wp2;go_ret2;refine ⟨rfl,C2.o⟩
   |some x=>
    rw[q]at U d;dsimp only[Zn,Option.getD_some,Option.isSome_some]at U d;obtain⟨Z,rfl⟩:=Qe.aE K;obtain⟨c',u,ac,ai⟩:=HO.o.tr c Z x (Qcf q);obtain⟨E,aa⟩:=Qe.aE u;have I:=HD.o c' E (by omega);rw[aa,ac]at I;have ag:Hi (∃(id:Int)(c:Qx)(n:Nat),Value.int .i64 x.2.1=ZI id/\(Value.pointer (some ⟨A.ad x.2.1,0,none⟩))=ZP (A.ad id)/\p.at id=some c/\n+dep id=9/\p.next now (n+1) id=af):=O ⟨x.2.1,c',n-1,rfl,rfl,u,by omega,by rw[show n-1+1=n by omega];exact d⟩;have LT:Hi (9-dep x.2.1<9-dep c.id):=O (by omega);have V:=O R;have hL:=λw'(B:Qc Qb wr w')=>((Qo.obj A).aB J B (Jl.none F)).look1 x.2.1;rw[Xz u]at hL;have HL:=O hL;have HB:=O J.blk;clear J R K ht q u Z E hL I d hn;go_wp2_with fail;apply Zy U;intro w2 B;have CC:=O B;have C2:=O (V.o.aA B);clear B c0 c1 c2 c3 c4 c5 c6 c7;go_wp2_with fail;apply XC 321111110 Qb w2;refine Xe (h:=?_);iterate 6 (apply YK λ_ hv=>Zt (Jf (hv.blk (CC.o.blk HB.o (λh=>h)) (λh=>h))) (HL.o _ (CC.o.aA hv)))
    refine Yb ?_;go_wp2_with fail;refine⟨(Zg _ _).drew,?_⟩;apply YI 0;go_wp2;obtain⟨ah,c2,n2,r1,r2,r3,r4,r5⟩:=ag.o;exact⟨⟨ah,c2,n2,r1,r2,r3,r4,r5,C2.o.drew⟩,LT.o⟩
end
section
variable{A:Dz}{w:World}{F:Fp}{b:Nat}{p:Qe}{N:Nat}{dep:Int->Nat}
theorem St{i:Int}{c q:Qx}(d:p.at i=some c)(k:p.at c.par=some q):p.note i=p.set {q with tree:=if p.aL i then Vf i (p.v i) c.fit q.tree else Xa i q.tree}:=by unfold Qe.note;rw[d];dsimp only;rw[k]
theorem Ke{G:Fp}{w w1 w2:World}(h:w.heap.size<=w1.heap.size):∀k,Qn G w1 w2 k->Qn G w w2 k:=λk c=>c.elim .inl (λc=>.inr ⟨Zp h c.1,c.2⟩)
theorem Mj(h:Qo A w F b p)(u:Qs dep N p)(hN:N<549755813888){i:Int}{c q:Qx}(hi:0<i)(V:p.at i=some c)(Z:p.at c.par=some q):
  ZW 162 #[ptr b,ZI i] w (.tuple #[]) λw'=>Qo A w' (Qn F w w') b (p.note i)/\Qc F w w':=by
 rw[St V Z];obtain⟨I,ae⟩:=Qe.aE Z;have k:=u.ok q I;have R:=h.look1 i;rw[Xz V]at R;have U:=h.drew.look1 c.par;rw[Xz Z]at U;have a0:=Jf h.blk;have ab:=Jf h.drew.blk;have c0:=Ja (h.drew.cell V);have q6:=Ja (h.drew.cell Z);obtain⟨G,ht,ac,z⟩:=h.treeOf I;rw[ae]at ht;have E:=O (Hx h.drew u i);have HV:=O (λw'(B:Qc Qb w w')=>Qnl ((Qo.obj A).aB h B (Jl.none F)) u i);have HF:=O (λw'(B:Qc Qb w w')=>Qcx ((Qo.obj A).aB h B (Jl.none F)) V (u.ok c (Qe.aE V).1) hN);have K:=O (λw'(B:Qc Qb w w')=>Qct (Jg.obj.aB ht B (Jl.none G)) (Nat.lt_of_le_of_lt k.tree (by omega)) i (p.v i) c.fit);have af:=O (λw'(B:Qc Qb w w')=>Tt (Jg.obj.aB ht B (Jl.none G)) (Nat.lt_of_le_of_lt k.tree (by omega)) i);have aa:Hi (∀w1 w2 t,Qc Qb w w1->Jg w2 (Qn G w1 w2) (A.pt c.par) t->Qc G w1 w2->Qo A w2 (Qn F w w2) b (p.set {q with tree:=t})/\Qc F w w2):=O (λw1 w2 t J h2 c2=>by
  have B:Qc G w w2:=J.none.aA c2;exact z w2 t (by rw[ae];exact Jg.obj.more h2 (Ke J.size) ((Jg.obj.bd ht).ext B)) B)
 rcases Bool.eq_false_or_eq_true (p.aL i)with d|d
 .rw[if_pos d];rw[d]at E;generalize p.v i=v at HV K|-;generalize c.fit=ft at HF K|-;clear h u V Z ht z d ac k I;apply WH func162;go_wp2_with fail;apply XB 2000000000000;apply YI 0;clear R U a0 ab c0 q6;go_wp2_with fail;apply ZF E (λ_ J=>J.aT);intro w1 C1;go_wp2_with fail;apply Z9 (HV.o _ C1.o) (λ_ c2=>C1.o.aA c2);intro w2 C2;go_wp2_with fail;apply Z9 (HF.o _ C2.o) (λ_ c3=>C2.o.aA c3);intro w3 C3;go_wp2_with fail;apply Z9 (K.o _ C3.o) (λ_ ⟨h4,c4⟩=>aa.o _ _ _ C3.o h4 c4);intro w4 FF;exact WD FF
 .rw[if_neg (by rw[d];decide)];rw[d]at E;clear h u V Z ht z d ac k I;apply WH func162;go_wp2_with fail;apply XB 2000000000000;apply YI 0;clear R U a0 ab c0 q6;go_wp2_with fail;apply ZF E (λ_ J=>J.aT);intro w1 C1;go_wp2_with fail;apply Z9 (af.o _ C1.o) (λ_ ⟨h4,c4⟩=>aa.o _ _ _ C1.o h4 c4);intro w4 FF;exact WD FF
end
def Eu:List Int->Int
 |[]=>0
 |i::_=>i
section
variable{A:Dz}{w:World}{F:Fp}{b:Nat}{p:Qe}{N:Nat}
theorem Lo(g:FuncId)(R:Array Value)(eg:∀af w,(callFunc g af).run prog w=.ok (.enter g af) w)(d:Qe->Int->Qe)(J:List Int->Qe->Prop)(mu:Int->Nat)
  (hJ:∀id rest p',J (id::rest) p'->0<id/\mu (Eu rest)<mu id/\J rest (d p' id)/\(∃c,p'.at id=some c)/\∃c',(d p' id).at id=some c'/\c'.par=Eu rest)
  (hS:∀id rest p' w',J (id::rest) p'->Qo A w' (Qn F w w') b p'->Qc F w w'->Cl g (#[ZI id,ptr (A.ad id)]++R) w' λe ak=>e=.returned (.tuple #[])/\Qo A ak (Qn (Qn F w w') w' ak) b (d p' id)/\Qc (Qn F w w') w' ak)
  (h:Qo A w F b p) (l:List Int) (hl:J l p) (i:Int) (hi:i=Eu l):
  ZW 155 #[ptr b,ZI i,.func (.func g) #[] R] w (.tuple #[]) λw'=>Qo A w' (Qn F w w') b (l.foldl d p)/\Qc F w w':=by
 have I:Hi (∃rest p',i=Eu rest/\J rest p'/\rest.foldl d p'=l.foldl d p/\Qo A w (Qn F w w) b p'/\Qc F w w):=O ⟨l,p,hi,hl,rfl,(Qo.obj A).more h (λk hk=>.inl hk) (((Qo.obj A).bd h).ext (Zg F w)),Zg _ _⟩;have HJ:=O hJ;have HS:=O hS;have al:=O ((Qo.obj A).bd h);generalize am:l.foldl d p=an at I|-;clear h hl hJ hS hi am;apply WH func155;go_wp2;refine wp_scope_jumps 0 (λa' wr=>∃rest p' u3 u4 u5 u6 u7 u8 u9 u10 u11 u12 u13 u14 u15 u16 u17 u18 u19 u20 u21 u22,a'={tmps:=#[ZP b,ZI (Eu rest),.func (.func g) #[] R,u3,u4,u5,u6,u7,u8,u9,u10,u11,u12,u13,u14,u15,u16,u17,u18,u19,u20,u21,u22],defers:=[]}/\J rest p'/\rest.foldl d p'=an/\Qo A wr (Qn F w wr) b p'/\Qc F w wr)
  (λa' _=>mu (intOf (a'.tmps.getD 1 undef))) rfl ?_ ?_
 .obtain⟨rest,p',rfl,hj,Z,E,U⟩:=I.o;cases rest with
  |nil=> dsimp only[List.foldl_nil]at Z;rw[show Eu []=0 from rfl];subst Z;have ag:=O (Zt E U);clear hj E U;go_wp2;go_step3;go_wp2;simp only[Exit.jump];refine WB rfl rfl ⟨rfl,ag.o⟩
  |cons id rest=>
   dsimp only[List.foldl_cons]at Z;rw[show Eu (id::rest)=id from rfl];obtain⟨ac,ab,aa,⟨c,V⟩,c',q,u⟩:=HJ.o id rest p' hj;have d1:decide (0<id)=true:=by simpa using ac
   have hL:=E.look1 id;rw[Xz V]at hL;have a0:=Jf E.blk;have HC:=O (HS.o id rest p' w hj E U);have CC:=O U;have ah:=O Z;have ai:=O aa;have ae:=O ab;have z:=O (Zt q u);obtain⟨nx,B⟩:=Zx (Eu rest);rw[<-B]at ae z;have aj:=O B;clear B;clear hj aa E V q U Z u ab;go_wp2;go_step3;go_wp2_with fail;apply Zy HC;rintro w2⟨h2,c2⟩;obtain⟨k1,k2⟩:=(Qo.obj A).two h2 al.o CC.o c2;obtain⟨d0,_,_,_,_,_,_,_⟩:=Ja (k1.cell z.o.1);rw[z.o.2]at d0;have K:=O (Zt k1 k2);clear h2 c2 k1 k2 hL a0;go_wp2;go_step3;exact⟨rfl,⟨rest,_,_,_,_,_,_,_,_,_,_,_,_,_,_,_,_,_,_,_,_,_,by rw[<-aj.o],ai.o,ah.o,K.o.1,K.o.2⟩⟩
 .rintro a' wr⟨rest,p',u3,u4,u5,u6,u7,u8,u9,u10,u11,u12,u13,u14,u15,u16,u17,u18,u19,u20,u21,u22,rfl,hj,Z,E,U⟩;cases rest with
  |nil=> dsimp only[List.foldl_nil]at Z;rw[show Eu []=0 from rfl];subst Z;have ag:=O (Zt E U);clear hj E U;go_wp2;simp only[Exit.jump];refine WB rfl rfl ⟨rfl,ag.o⟩
  |cons id rest=>
   dsimp only[List.foldl_cons]at Z;rw[show Eu (id::rest)=id from rfl];obtain⟨ac,ab,aa,⟨c,V⟩,c',q,u⟩:=HJ.o id rest p' hj;have d1:decide (0<id)=true:=by simpa using ac
   have hL:=E.look1 id;rw[Xz V]at hL;have a0:=Jf E.blk;have HC:=O (HS.o id rest p' wr hj E U);have CC:=O U;have ah:=O Z;have ai:=O aa;have ae:=O ab;have z:=O (Zt q u);obtain⟨nx,B⟩:=Zx (Eu rest);rw[<-B]at ae z;have aj:=O B;clear B;clear hj aa E V q U Z u ab;go_wp2_with fail;apply Zy HC;rintro w2⟨h2,c2⟩;obtain⟨k1,k2⟩:=(Qo.obj A).two h2 al.o CC.o c2;obtain⟨d0,_,_,_,_,_,_,_⟩:=Ja (k1.cell z.o.1);rw[z.o.2]at d0;have K:=O (Zt k1 k2);clear h2 c2 k1 k2 hL a0;go_wp2;go_step3;exact⟨rfl,⟨rest,_,_,_,_,_,_,_,_,_,_,_,_,_,_,_,_,_,_,_,_,_,by rw[<-aj.o],ai.o,ah.o,K.o.1,K.o.2⟩,ae.o⟩
end
end
section
variable{p:Qe}{N M:Nat}{dep:Int->Nat}
theorem Hq{x y:Qx}(h:p.at x.id=some y):(p.set x).at x.id=some x:=by
 unfold Qe.at Qe.set at*;induction p with
 |nil=>cases h
 |cons z p d=>
  rw[List.map_cons,List.find?_cons];rw[List.find?_cons]at h;by_cases c:z.id=x.id;·simp[c]
  .simp only[c,decide_false,if_false]at h|-;exact d h
theorem V5{x:Qx}{i:Int}(h:i≠x.id):(p.set x).at i=p.at i:=by
 unfold Qe.at Qe.set;induction p with
 |nil=>rfl
 |cons z p k=>
  rw[List.map_cons,List.find?_cons,List.find?_cons];by_cases c:z.id=x.id;·rw[if_pos c];have q:¬x.id=i:=λe=>h e.symm;have u:¬z.id=i:=λe=>h (by rw[<-e,c]);simp only[q,u,decide_false];exact k
  .rw[if_neg c];by_cases d:z.id=i;·simp[d]
   .simp only[d,decide_false];exact k
theorem V0{x y:Qx}(h:p.at x.id=some y)(i:Int):(p.set x).at i=if i=x.id then some x else p.at i:=by
 split;·rename_i e;rw[e];exact Hq h
 .rename_i e;exact V5 e
theorem Qns(x:Qx):(p.set x).map Qx.id=p.map Qx.id:=by
 unfold Qe.set;rw[List.map_map];refine List.map_congr_left λy _=>?_;simp only[Function.comp];split;·rename_i h;exact h.symm
 .rfl
theorem mem_set{x y:Qx}(h:y∈p.set x):y=x\/(y∈p/\y.id≠x.id):=by grind [Jc.set,Qe.set,Vm.id]
theorem Qs.set(h:Qs dep N p)(hm:N<=M){x y:Qx}(K:p.at x.id=some y)(hp:x.par=y.par)(hl:x.leaf=y.leaf)(hk:Ps M x)
  (ht:∀e∈x.tree,∃c,p.at e.2.1=some c/\c.par=x.id/\0<e.2.1):Qs dep M (p.set x):=by
 have Z:=(Qe.aE K).2;have look:∀{i c},p.at i=some c->∃c',(p.set x).at i=some c'/\c'.par=c.par/\c'.leaf=c.leaf:=λ{i c}d=>by
  rw[V0 K];by_cases e:i=x.id;·subst e;rw[K]at d;obtain rfl:=Zs d;exact⟨x,by rw[if_pos rfl],hp,hl⟩
  .exact⟨c,by rw[if_neg e];exact d,rfl,rfl⟩
 refine⟨by rw[Qns];exact h.nd,?_,⟨h.up.1,λc d h0=>?_⟩,λq I e he=>?_,λc d=>?_⟩;·obtain⟨r,hr,U⟩:=h.root;obtain⟨r',k,_,B⟩:=look hr;exact⟨r',k,B.trans U⟩
 .obtain⟨J,V,z⟩:∃J,J∈p/\J.id=c.id/\J.par=c.par:=by
   rcases mem_set d with rfl|⟨d,_⟩;·exact⟨y,(Qe.aE K).1,Z,hp.symm⟩
   .exact⟨c,d,rfl,rfl⟩
  have:=h.up.2 J V (by rw[z.1];exact h0);rw[z.1,z.2]at this;obtain⟨k,⟨q,I⟩,E⟩:=this;obtain⟨q',R,_⟩:=look I;exact⟨k,⟨q',R⟩,E⟩
 .rcases mem_set I with rfl|⟨I,_⟩;·obtain⟨c,d,k,B⟩:=ht e he;obtain⟨c',u,E,_⟩:=look d;exact⟨c',u,E.trans k,B⟩
  .obtain⟨c,d,k,B⟩:=h.tr q I e he;obtain⟨c',u,E,_⟩:=look d;exact⟨c',u,E.trans k,B⟩
 .rcases mem_set d with rfl|⟨d,_⟩;·exact hk
  .exact(h.ok c d).more hm
theorem Qs.more(h:Qs dep N p)(k:N<=M):Qs dep M p:=⟨h.nd,h.root,h.up,h.tr,λc d=>(h.ok c d).more k⟩
def Vy(p:Qe):List Int->Prop
 |[]=>True
 |id::rest=>0<id/\(∃c,p.at id=some c/\c.par=Eu rest)/\Vy p rest
def Jv(p p':Qe):Prop:=∀i,(p'.at i).map (λc=>(c.par,c.leaf,c.aJ))=(p.at i).map (λc=>(c.par,c.leaf,c.aJ))
theorem Jv.get{p p':Qe}(h:Jv p p'){i:Int}{c:Qx}(k:p.at i=some c):∃d,p'.at i=some d/\d.par=c.par/\d.leaf=c.leaf/\d.aJ=c.aJ:=by
 have:=h i;rw[k]at this;cases h':p'.at i with
 |none=>rw[h']at this;cases this
 |some d=> rw[h']at this;simp only[Zn,Option.some.injEq,Prod.mk.injEq]at this;exact⟨d,rfl,this⟩
theorem Jv.refl(p:Qe):Jv p p:=λ_=>rfl
theorem Jv.trans{p p' p'':Qe}(h:Jv p p')(h':Jv p' p''):Jv p p'':=λi=>(h' i).trans (h i)
theorem Jv.set{x y:Qx}(c:p.at x.id=some y)(k:x.par=y.par)(d:x.leaf=y.leaf)(q:x.aJ=y.aJ):Jv p (p.set x):=λi=>by
 rw[V0 c];by_cases e:i=x.id;·subst e;rw[if_pos rfl,c];simp[k,d,q]
 .rw[if_neg e]
theorem Vy.same{p p':Qe}(h:Jv p p'):∀{l:List Int},Vy p l->Vy p' l
 |[],_=>trivial
 |id::rest,⟨h1,⟨c,hc,hp⟩,h3⟩=>by obtain⟨c',d,e,_⟩:=h.get hc;exact⟨h1,⟨c',d,e.trans hp⟩,Vy.same h h3⟩
theorem Qs.pid(h:Qs dep N p){i:Int}{c q:Qx}(u:p.at i=some c)(E:0<i)(B:p.at c.par=some q):q.id≠i/\q.id=c.par:=by obtain⟨z,rfl⟩:=Qe.aE u;have d:=(Qe.aE B).2;have k:=(h.up.2 c z (by omega)).2.2.1;refine⟨λe=>?_,d⟩;rw[d]at e;rw[e]at k;omega
def Kw(N:Nat)(f:Jc):Prop:=(∀x∈f.all,x.total<=Xw/\x.run.l.length<=N/\x.v<=Qq)/\f.mark<=Qq
theorem reach_le(r:Xh)(y:Nat):r.reach y<=Qq:=by
 unfold Xh.reach Kn;split
 .split;·exact Nat.zero_le _
  .exact Zv _
 .split;·exact Zv _
  .exact Nat.min_le_left _ _
theorem Kw.more{f:Jc}(h:Kw N f)(d:N<=M):Kw M f:=⟨λx c=>⟨(h.1 x c).1,Zp (h.1 x c).2.1 d,(h.1 x c).2.2⟩,h.2⟩
theorem Qg2{f:Jc}{a x:Jh}(h:x∈(f.set a).all):x=a\/x∈f.all:=by
 obtain⟨z,c,rfl⟩:=Z3.1 h;split;·exact .inl rfl
 .exact .inr c
theorem Kw.set{f:Jc}{a:Jh}(h:Kw N f)(d:N<=M)(ha:a.total<=Xw/\a.run.l.length<=M/\a.v<=Qq):Kw M (f.set a):=⟨λx c=>(Qg2 c).elim (λe=>e▸ha) (λc=>(h.more d).1 x c),h.2⟩
theorem Kw.made{f:Jc}{a:Jh}{v:Nat}(h:Kw N f)(k:N<=M)(ha:a.total<=Xw/\a.run.l.length<=M)(c:v<=Qq):Kw M (f.made a v):=by have d:=h.set (a:={a with v:=v}) k ⟨ha.1,ha.2,c⟩;exact⟨d.1,Nat.max_le.2 ⟨h.2,c⟩⟩
theorem Qsu{f:Jc}(h:Kw N f){x:Jh}(d:x∈f.all):f.start x<=Qq:=by have k:=(h.1 x d).2.2;have c:=h.2;unfold Jc.start;have u:f.most<=Qq:=Qaq _ λz q=>(h.1 z (List.mem_filter.1 q).1).2.2;have B:f.least<=Qq:=Cg _;split<;>omega
theorem Kw.wake{f:Jc}(h:Kw N f)(i:Int):Kw (N+1) (f.wake i):=by grind [Kw,Ju.wake,Kg.wake,Jc.wake,Jy.at,Tr.at,Xh.at,Jc.made,Ps.more,Qs.more,Kw.more,Jc.aE,Kw.made,Gj,Qsu]
theorem Kw.sleep{f:Jc}(h:Kw N f)(i:Int):Kw N (f.sleep i):=by grind [Kw,Jc.sleep,Jy.at,Tr.at,Xh.at,Jc.set,Qe.set,Qs.set,Jc.aE]
theorem Kw.gain{f:Jc}(h:Kw N f)(i:Int)(g:Nat):Kw N (f.gain i g):=by
 unfold Jc.gain;cases k:f.at i with
 |none=>exact h
 |some m=>
  have c:=h.1 m (Jc.aE k).1;have d:m.total+min g (Xw-m.total)<=Xw:=by have:=c.1;omega
  dsimp only;split;·exact h.made (Zv _) ⟨d,c.2.1⟩ (reach_le _ _)
  .exact h.set (Zv _) ⟨d,c.2⟩
theorem Kw.add{f:Jc}(h:Kw N f)(i:Int)(c:Jy):Kw N (f.add i c):=by
 unfold Jc.add;cases d:f.at i with
 |some m=>exact h
 |none=>
  refine⟨λx d=>?_,h.2⟩;rcases Zl.1 d with d|d;·exact h.1 x d
  .obtain rfl:x=_:=by simpa using d
   exact⟨Nat.zero_le _,Nat.zero_le _,Nat.zero_le _⟩
theorem Kw.drop{f:Jc}(h:Kw N f)(i:Int):Kw N (f.drop i):=⟨λx c=>h.1 x (List.mem_filter.1 c).1,h.2⟩
theorem Ps.fam{c:Qx}(h:Ps N c):Kw N c.mem:=⟨h.mem,h.mark⟩
theorem Ps.withMem{c:Qx}(h:Ps N c){f:Jc}(k:N<=M)(d:Kw M f):Ps M {c with mem:=f}:=⟨h.total,(h.more k).lim,d.1,d.2,(h.more k).tree,h.aM⟩
theorem Py{i:Int}{c q:Qx}{f:Jc->Jc}(d:p.at i=some c)(k:p.at c.par=some q):p.fam i f=p.set {q with mem:=f q.mem}:=by unfold Qe.fam;rw[d];dsimp only;rw[k]
theorem Qs.fam(h:Qs dep N p)(I:N<=M){i:Int}{c q:Qx}{f:Jc->Jc}(B:p.at i=some c)(R:0<i)(z:p.at c.par=some q)(K:Kw M (f q.mem)):
  Qs dep M (p.fam i f)/\Jv p (p.fam i f)/\(p.fam i f).at i=some c/\(p.fam i f).at c.par=some {q with mem:=f q.mem}:=by
 rw[Py B z];obtain⟨E,k⟩:=h.pid B R z;have d:p.at ({q with mem:=f q.mem}:Qx).id=some q:=by show p.at q.id=_;rw[k];exact z
 have u:=(Qe.aE z).1;refine⟨h.set I d rfl rfl ((h.ok q u).withMem I K) (λe J=>h.tr q u e J),Jv.set d rfl rfl rfl,?_,?_⟩;·exact(V5 (x:={q with mem:=f q.mem}) (show i≠q.id from λe=>E e.symm)).trans B
 .rw[<-k];exact Hq d
theorem Qo4{l:Kg}{r:Xh}{now t:Nat}(h:l.wake now t=some r)(c:∀r,l=some r->r.l.length<=N):r.l.length<=N+1:=by
 unfold Kg.wake at h;cases l with
 |none=>cases h
 |some d=> obtain rfl:=Zs h;have:=c d rfl;rw[Gj];omega
theorem Qs.up1(h:Qs dep N p)(now:Nat){i:Int}{c q:Qx}(z:p.at i=some c)(V:0<i)(K:p.at c.par=some q):Qs dep (N+1) (p.up1 now i)/\Jv p (p.up1 now i):=by
 unfold Qe.up1;rw[z];dsimp only;split;·exact⟨h.more (Nat.le_succ _),Jv.refl _⟩
 .have J:=(Qe.aE K).1;have I:=(Qe.aE z).2;obtain⟨B,R,E,h4⟩:=h.fam (f:=λf=>f.wake i) (Nat.le_succ N) z V K ((h.ok q J).fam.wake i);have u:(p.fam i λf=>f.wake i).at ({c with limit:=c.limit.wake now c.total}:Qx).id=some c:=by show Qe.at _ c.id=_;rw[I];exact E
  have k:=h.ok c (Qe.aE z).1;have d:=B.ok c (Qe.aE E).1;refine⟨B.set (Zv _) u rfl rfl ⟨k.total,λr Z=>Qo4 Z k.lim,d.mem,d.mark,d.tree,k.aM⟩ (λe U=>B.tr c (Qe.aE E).1 e U),R.trans (Jv.set u rfl rfl rfl)⟩
theorem Qs.note(h:Qs dep N p){i:Int}{c q:Qx}(I:p.at i=some c)(J:0<i)(E:p.at c.par=some q):Qs dep (N+1) (p.note i)/\Jv p (p.note i):=by
 rw[St I E];obtain⟨U,z⟩:=h.pid I J E;have B:=(Qe.aE E).1;have d:=h.ok q B;have key:∀t:List Xu,t.length<=N+1->(∀e∈t,e.2.1=i\/e∈q.tree)->Qs dep (N+1) (p.set {q with tree:=t})/\Jv p (p.set {q with tree:=t}):=λt R V=>by
  have u:p.at ({q with tree:=t}:Qx).id=some q:=by show p.at q.id=_;rw[z];exact E
  refine⟨h.set (Nat.le_succ _) u rfl rfl ⟨d.total,(d.more (Nat.le_succ _)).lim,(d.more (Nat.le_succ _)).mem,d.mark,R,d.aM⟩ (λe k=>?_),Jv.set u rfl rfl rfl⟩;rcases V e k with k|k;·exact⟨c,by rw[k];exact I,z.symm,by rw[k];exact J⟩
  .exact h.tr q B e k
 have K:(Xa i q.tree).length<=q.tree.length:=List.length_filter_le _ _;split
 .refine key _ ?_ λe k=>?_;·have:=(En (p.v i,i,c.fit) (Xa i q.tree)).length_eq;unfold Vf;have Z:=d.tree;simp only[Zm]at this;omega
  .rcases Lb.1 k with rfl|k;·exact .inl rfl
   .exact .inr (List.mem_filter.1 k).1
 .exact key _ (by have:=d.tree;omega) λe k=>.inr (List.mem_filter.1 k).1
theorem Qs.aV(h:Qs dep N p)(g:Nat){i:Int}{c q:Qx}(z:p.at i=some c)(U:0<i)(V:p.at c.par=some q):Qs dep (N+1) (p.aV g i)/\Jv p (p.aV g i):=by
 unfold Qe.aV;rw[z];dsimp only;obtain⟨J,K⟩:=h.pid z U V;have u:=(Qe.aE z).2;have d:=h.ok c (Qe.aE z).1;have k:p.at ({c with total:=c.total+min g (Xw-c.total)}:Qx).id=some c:=by show p.at c.id=_;rw[u];exact z
 have R:=h.set (Nat.le_succ N) k rfl rfl ⟨(by have:=d.total;dsimp only;omega),(d.more (Nat.le_succ _)).lim,(d.more (Nat.le_succ _)).mem,d.mark,(d.more (Nat.le_succ _)).tree,d.aM⟩ (λe he=>h.tr c (Qe.aE z).1 e he);have Z:=Jv.set (p:=p) k rfl rfl rfl;have E:(p.set {c with total:=c.total+min g (Xw-c.total)}).at i=some {c with total:=c.total+min g (Xw-c.total)}:=by have:=Hq k;rw[<-u];exact this
 have B:(p.set {c with total:=c.total+min g (Xw-c.total)}).at c.par=some q:=by exact(V5 (x:={c with total:=c.total+min g (Xw-c.total)}) (show c.par≠c.id from λe=>J (by rw[K,e,u]))).trans V
 have I:=(R.ok q (Qe.aE B).1).fam.gain i g;obtain⟨k1,k2,_⟩:=R.fam (f:=λf=>f.gain i g) (Zv _) E U B I;exact⟨k1,Z.trans k2⟩
theorem Qs.aW(h:Qs dep N p)(sl:Bool){i:Int}{c q:Qx}(d:p.at i=some c)(k:0<i)(u:p.at c.par=some q):Qs dep (N+1) (p.aW sl i)/\Jv p (p.aW sl i):=by
 unfold Qe.aW;rw[d];dsimp only;split;·obtain⟨z,B,E,I⟩:=h.fam (f:=λf=>f.sleep i) (Zv _) d k u ((h.ok q (Qe.aE u).1).fam.sleep i);obtain⟨J,K⟩:=z.note E k I;exact⟨J,B.trans K⟩
 .exact h.note d k u
structure Y9(dep:Int->Nat)(N L:Nat)(p0:Qe)(rest:List Int)(p:Qe):Prop where
 len:rest.length<=L
 ok:Qs dep (N+(L-rest.length)) p
 path:Vy p rest
 same:Jv p0 p
theorem Y9.head{B:Qe}{L:Nat}{id:Int}{rest:List Int}(h:Y9 dep N L B (id::rest) p):0<id/\∃c q,p.at id=some c/\p.at c.par=some q/\c.par=Eu rest:=by obtain⟨d,⟨c,k,u⟩,_⟩:=h.path;obtain⟨q,z⟩:=h.ok.par k d;exact⟨d,c,q,k,z,u⟩
theorem Y9.next{K:Qe}{L:Nat}{id:Int}{rest:List Int}(h:Y9 dep N L K (id::rest) p){p':Qe}(d:Qs dep (N+(L-(id::rest).length)+1) p')(I:Jv p p'):
  0<id/\dep (Eu rest)<dep id/\Y9 dep N L K rest p'/\(∃c,p.at id=some c)/\∃k,p'.at id=some k/\k.par=Eu rest:=by
 obtain⟨R,c,q,u,hq,J⟩:=h.head;obtain⟨Z,B⟩:=Qe.aE u;have U:=(h.ok.up.2 c Z (by omega)).2.2.1;rw[J,B]at U;obtain⟨k,z,E,_⟩:=I.get u;have V:=h.len;simp only[Zm]at V d;refine⟨R,by omega,⟨by omega,?_,Vy.same I h.path.2.2,h.same.trans I⟩,⟨c,u⟩,k,z,E.trans J⟩;rw[show N+(L-rest.length)=N+(L-(rest.length+1))+1 by omega];exact d
end
section
attribute [local irreducible] Kl J9
section
variable{A:Dz}{w:World}{F:Fp}{b:Nat}{p:Qe}{N:Nat}{dep:Int->Nat}
theorem Qkx(now x:Nat)(w):ZW 176 #[.pointer none,ZU now,ZU x] w (.tuple #[]) λw'=>Qc Qb w w':=by have k:=O (F8 w);apply WH func176;go_wp2_with fail;apply ZQ k;intro w1 d;exact WD d
theorem Qhs{v:Value}{l:Kg}{G:Fp}(h:Do v l w G)(z:∀r,l=some r->r.l.length<549755813888)(now x:Nat)(d:now<18446744073709551616)(k:x<18446744073709551616):
  ZW 176 #[v,ZU now,ZU x] w (.tuple #[]) λw'=>Do v (l.wake now x) w' (Qn G w w')/\Qc G w w':=by
 rcases h with⟨rfl,rfl,u⟩|⟨q,rfl,h⟩;·apply Zz (Qkx now x w);intro w1 c;exact⟨rfl,.inl ⟨rfl,rfl,u.ext (c.none (F:=G))⟩,c.none⟩
 .apply Zz (Qkw h z now x d k);rintro w1⟨h',c⟩;exact⟨rfl,.inr ⟨q,rfl,h'⟩,c⟩
theorem Qo.famAt(h:Qo A w F b p){i:Int}{q:Qx}(R:p.at i=some q):
  ∃G:Fp,J0 w G (A.pf i) q.mem/\(∀k,G k->F k)/\∀w1 w2 f,Qc Qb w w1->J0 w2 (Qn G w1 w2) (A.pf i) f->Qc G w1 w2->Qo A w2 (Qn F w w2) b (p.set {q with mem:=f})/\Qc F w w2:=by
 obtain⟨K,z⟩:=Qe.aE R;obtain⟨G,c,E,I⟩:=h.famOf K;rw[z]at c;refine⟨G,c,E,λw1 w2 f d J B=>?_⟩;have u:Qc G w w2:=d.none.aA B;exact I w2 f (by rw[z];exact J0.obj.more J (Ke d.size) ((J0.obj.bd c).ext u)) u
theorem Qo.limAt(h:Qo A w F b p){i:Int}{q:Qx}(R:p.at i=some q):
  ∃G:Fp,Do (A.vl i) q.limit w G/\(∀k,G k->F k)/\∀w1 w2 f,Qc Qb w w1->Do (A.vl i) f w2 (Qn G w1 w2)->Qc G w1 w2->Qo A w2 (Qn F w w2) b (p.set {q with limit:=f})/\Qc F w w2:=by
 obtain⟨K,z⟩:=Qe.aE R;obtain⟨G,c,E,I⟩:=h.limOf K;rw[z]at c;refine⟨G,c,E,λw1 w2 f d J B=>?_⟩;have u:Qc G w w2:=d.none.aA B;exact I w2 f (by rw[z];exact(Do.good _ _).more J (Ke d.size) (((Do.good _ _).bd c).ext u)) u
theorem Qpm(h:Qo A w F b p)(k:Qs dep N p)(hN:N<549755813887){i:Int}{c q:Qx}(hi:0<i)(J:p.at i=some c)(V:p.at c.par=some q)(now:Nat)(af:now<18446744073709551616)
  {Bp Bn:Nat}(R:Qh w Bp #[ptr b] 95)(Z:Qh w Bn #[ZU now] 22)(ar:¬F Bp)(ao:¬F Bn):
  ZW 174 #[ZI i,ptr (A.ad i),ZP Bp,ZP Bn] w (.tuple #[]) λw'=>Qo A w' (Qn F w w') b (p.up1 now i)/\Qc F w w':=by
 have K:=O (Hx h k i);have a0:=Jf R;have an:=(Qo.obj A).bd h;obtain⟨c0,c1,I,c3,c4,c5,c6,c7⟩:=Ja (h.cell J);have ae:Hi (∀w',Qc Qb w w'->Qo A w' (Qn F w w') b p/\Qc F w w'):=O (λw' d=>(Qo.obj A).same h d);have B:∀w',Qc Qb w w'->p.up1 now i=p->Qo A w' (Qn F w w') b (p.up1 now i)/\Qc F w w':=λw' d e=>by rw[e];exact ae.o w' d
 rcases Bool.eq_false_or_eq_true (p.aL i)with z|z
 .have e:p.up1 now i=p:=by unfold Qe.up1;rw[J];simp[z]
  have ST:=O (λw'(d:Qc Qb w w')=>B w' d e);rw[z]at K;clear h k J V z R Z B e;apply WH func174;go_wp2_with fail;apply ZF K (λ_ d=>ST.o _ d);intro w1 ab;exact WD ab
 .rw[z]at K;cases E:c.aJ with
  |false=>
   have e:p.up1 now i=p:=by unfold Qe.up1;rw[J];simp[E]
   have ST:=O (λw'(d:Qc Qb w w')=>B w' d e);have HC:=O (h.cell J);have HS:=O E;clear h k J V z R Z B e E c0 c1 I c3 c4 c5 c6 c7;apply WH func174;go_wp2_with fail;apply Zy K;intro w1 d;have ab:=O (ST.o _ d);obtain⟨c0,c1,I,c3,c4,c5,c6,c7⟩:=Ja (d.blk HC.o (λh=>h));rw[HS.o]at I;clear d;exact WD ab
  |true=>
   obtain⟨k1,k2,k3,k4⟩:=k.fam (f:=λf=>f.wake i) (Nat.le_succ N) J hi V ((k.ok q (Qe.aE V).1).fam.wake i);have e:p.up1 now i=(p.fam i λf=>f.wake i).set {c with limit:=c.limit.wake now c.total}:=by unfold Qe.up1;rw[J];simp[E,z]
   rw[e];have e2:=Py (f:=λf=>f.wake i) J V;obtain⟨G,hF,ap,aa⟩:=h.famAt V;have u:=k.ok q (Qe.aE V).1;have ai:=O (λw'(d:Qc Qb w w')=>Qmw (J0.obj.aB hF d (Jl.none G)) (λx hx=>⟨(u.mem x hx).1,by have:=(u.mem x hx).2.1;omega,(u.mem x hx).2.2⟩) u.mark i);have ak:Hi (∀w1 w2,Qc Qb w w1->J0 w2 (Qn G w1 w2) (A.pf c.par) (q.mem.wake i)->Qc G w1 w2->Qo A w2 (Qn F w w2) b (p.fam i λf=>f.wake i)/\Qc F w w2):=O (λw1 w2 d hf I=>by rw[e2];exact aa w1 w2 _ d hf I);have U:=k.ok c (Qe.aE J).1;have aj:Hi (∀w2,Qo A w2 (Qn F w w2) b (p.fam i λf=>f.wake i)->Qc F w w2->ZW 176 #[A.vl i,ZU now,ZU c.total] w2.drew (.tuple #[]) λw'=>Qo A w' (Qn F w w') b ((p.fam i λf=>f.wake i).set {c with limit:=c.limit.wake now c.total})/\Qc F w w'):=O (by
    intro w2 h2 al;obtain⟨G2,hl,au,ac⟩:=h2.drew.limAt k3;apply Zz (Qhs hl (λr hr=>by have:=U.lim r hr;omega) now c.total af (by have:=U.total;have:=Yz;omega));rintro w3⟨h3,am⟩;obtain⟨m1,m2⟩:=ac _ w3 _ (Zg Qb _) h3 am;exact⟨rfl,(Qo.obj A).two (w1:=w2) m1 an al m2.aT⟩)
   have HL:=O (λw'(d:Qc Qb w w')=>((Qo.obj A).aB h d (Jl.none F)).look1 c.par);rw[Xz V]at HL;have HC:=O (h.cell J);have HQ:=O (h.cell V);have HB:=O h.blk;have ah:=O R;have ag:=O Z;have HS:=O E;have K3:=O k3;clear h k J V z R Z B e E c0 c1 I c3 c4 c5 c6 c7 k1 k2 k3 k4 e2 hF ap aa u U;apply WH func174;go_wp2_with fail;apply Zy K;intro w1 d;have C1:=O d;obtain⟨_,_,I,_,_,_,_,_⟩:=Ja (d.blk HC.o (λh=>h));rw[HS.o]at I;have cd:=d.drew;obtain⟨d0,_,_,_,_,_,_,_⟩:=Ja (cd.blk HC.o (λh=>h));obtain⟨_,_,_,_,_,q5,_,_⟩:=Ja (cd.blk HQ.o (λh=>h));have hL:=HL.o _ cd;have e0:=Jf (cd.blk HB.o (λh=>h));have e1:=Jf (cd.blk ah.o (λh=>h));clear d a0;go_wp2_with fail;apply XB 20000000000000;apply YA 0;clear d0 q5 hL e0 e1 I;go_wp2_with fail;apply Zz (ai.o _ cd);rintro w2⟨h2,I⟩;obtain⟨m1,m2⟩:=ak.o _ _ cd h2 I;have M:=O (Zt m1 m2);have aq:=O (aj.o w2 m1 m2);obtain⟨_,_,_,d3,d4,_,_,_⟩:=Ja (m1.drew.cell K3.o);have e2:=Jf (m2.blk ag.o ao).drew;clear h2 I m1 m2 cd;go_wp2_with fail;refine Jo ?_;go_wp2_with fail;apply XB 2000000000;apply YA 0;clear d3 d4 e2;go_wp2_with fail;apply ZD aq.o;intro w3 H3;go_wp2_with fail;refine Jo ?_;exact WD H3
theorem Qa5(h:Qo A w F b p)(k:Qs dep N p)(K:N<549755813888){i:Int}{c q:Qx}(R:0<i)(B:p.at i=some c)(E:p.at c.par=some q){u:Nat}{v:Value}(d:Qh w u #[ptr b] 95):
  ZW 177 #[ZI i,v,ZP u] w (.tuple #[]) λw'=>Qo A w' (Qn F w w') b (p.note i)/\Qc F w w':=by
 have J:=O (Mj h k K R B E);have U:=Jf d;clear h k B E d;apply WH func177;go_wp2_with fail;apply ZQ J;intro w1 I;exact WD I
theorem Qnj(d:Qs dep N p):∀(n:Nat)(i:Int),0<=i->dep i<n->(i=0\/∃c,p.at i=some c)->Vy p (p.path n i)/\Eu (p.path n i)=i/\(p.path n i).length<=dep i
 |0,i,_,h,_=>by omega
 |n+1,i,h0,h,hi=>by
  rw[Qe.path];by_cases E:i<1
  .have:i=0:=by omega
   subst this;rw[if_pos E];exact⟨trivial,rfl,Nat.zero_le _⟩
  .rw[if_neg E];rcases hi with rfl|⟨c,z⟩;·omega
   .rw[z];dsimp only;obtain⟨J,B⟩:=Qe.aE z;have u:=d.up.2 c J (by omega);rw[B]at u;obtain⟨K,⟨q,I⟩,V,_⟩:=u;have k:=d.pos I;obtain⟨R,U,Z⟩:=Qnj d n c.par k (by omega) (.inr ⟨q,I⟩);exact⟨⟨by omega,⟨c,z,U.symm⟩,R⟩,rfl,by simp only[Zm];omega⟩
end
section
variable{A:Dz}{w:World}{F:Fp}{b:Nat}{p:Qe}{N:Nat}{dep:Int->Nat}
theorem Y9.start{l:List Int}(c:Qs dep N p)(d:Vy p l):Y9 dep N l.length p l p:=⟨Zv _,by rw[Nat.sub_self];exact c,d,Jv.refl p⟩
theorem U0{d:Qe->Int->Qe}{L:Nat}{k:Qe}(c:∀id rest p,Y9 dep N L k (id::rest) p->Qs dep (N+(L-(id::rest).length)+1) (d p id)/\Jv p (d p id)):
  ∀(l:List Int)(p:Qe),Y9 dep N L k l p->Y9 dep N L k [] (l.foldl d p)
 |[],p,h=>h
 |id::rest,p,h=>by obtain⟨q,u⟩:=c id rest p h;exact U0 c rest _ (h.next q u).2.2.1
theorem De(d:Qs dep N p){i:Int}{c:Qx}(k:p.at i=some c):Vy p (p.path 9 i)/\Eu (p.path 9 i)=i/\(p.path 9 i).length<=8:=by
 have u:=d.pos k;have J:dep i<=8:=by
  obtain⟨E,q⟩:=Qe.aE k;by_cases h:i=0;·rw[h,d.up.1];omega
  .have:=(d.up.2 c E (by omega)).2.2.2;rwa[q]at this
 obtain⟨z,B,I⟩:=Qnj d 9 i u (by omega) (.inr ⟨c,k⟩);exact⟨z,B,by omega⟩
theorem Sl(now:Nat){L:Nat}{z:Qe}:∀id rest p,Y9 dep N L z (id::rest) p->Qs dep (N+(L-(id::rest).length)+1) (p.up1 now id)/\Jv p (p.up1 now id):=λid rest p h=>by obtain⟨d,c,q,k,u,_⟩:=h.head;exact h.ok.up1 now k d u
theorem T7{L:Nat}{z:Qe}:∀id rest p,Y9 dep N L z (id::rest) p->Qs dep (N+(L-(id::rest).length)+1) (p.note id)/\Jv p (p.note id):=λid rest p h=>by obtain⟨d,c,q,k,u,_⟩:=h.head;exact h.ok.note k d u
theorem Qs.wake(d:Qs dep N p)(i:Int)(now:Nat):Qs dep (N+16) (p.wake i now)/\Jv p (p.wake i now):=by
 unfold Qe.wake;cases z:p.at i with
 |none=>exact⟨d.more (by omega),Jv.refl _⟩
 |some c=>
  dsimp only;split;·exact⟨d.more (by omega),Jv.refl _⟩
  .obtain⟨u,_,B⟩:=De d z;have k:=U0 (Sl now) _ _ (Y9.start d u);have q:=U0 T7 _ _ (Y9.start (N:=N+(p.path 9 i).length) (by simpa using k.ok) (Vy.same k.same u));refine⟨q.ok.more (by simp;omega),k.same.trans q.same⟩
theorem Qlo(h:Qo A w F b p)(J:Qs dep N p)(hN:N<549755813000)(i:Int)(now:Nat)(ai:now<18446744073709551616):
  ZW 109 #[ptr b,ZI i,ZU now] w (.tuple #[]) λw'=>Qo A w' (Qn F w w') b (p.wake i now)/\Qc F w w':=by
 have aa:=(Qo.obj A).bd h;obtain⟨W,z⟩:=Zx ((w.alloc (.cells #[ZP b] 95)).alloc (.cells #[ZU now] 22));have C0:Hi (Qc Qb w W):=O (by rw[z];exact((Zg _ _).alloc _).alloc _);have B3:Hi (Qh W w.heap.size #[ptr b] 95):=O (by rw[z];exact(Qh.new _ _ _).alloc _);have B5:Hi (Qh W (w.heap.size+1) #[ZU now] 22):=O (by rw[z];exact Qh.new' _ _ (by simp));have hP:=(Qo.obj A).aB h C0.o (Jl.none F);have V:=O (Hw hP i);have u:¬F w.heap.size:=λhk=>by have:=aa _ hk;omega
 have I:¬F (w.heap.size+1):=λhk=>by have:=aa _ hk;omega
 have l3:=B3.o.lt;have l5:=B5.o.lt;have ag:Hi (∀w' p',Qo A w' (Qn F W w') b p'->Qc F W w'->Qo A w' (Qn F w w') b p'/\Qc F w w'):=O (λw' p' h' c'=>by
  have U:Qc F w w':=C0.o.none.aA c';exact⟨(Qo.obj A).more h' (Ke C0.o.size) (aa.ext U),U⟩)
 have B:Hi (Qo A W (Qn F w W) b p/\Qc F w W):=O ((Qo.obj A).same h C0.o);unfold Qe.wake;cases hc:p.at i with
 |none=> rw[Ep hc]at V;dsimp only;have Z:=Jf (z▸B3.o);clear h J hc hP u I l3 l5;apply WH func109;go_wp2_with fail;rw[<-z]at Z|-;clear z;apply Zy V;rintro w1 rfl;go_wp2;all_goals refine WA rfl rfl ⟨rfl,B.o⟩
 |some c=>
  rw[Xz hc]at V;have Z:=Jf (z▸B3.o);obtain⟨c0,c1,U,c3,c4,c5,c6,c7⟩:=Ja (hP.cell hc);by_cases k:i<1\/c.leaf=false\/c.aJ=false
  .have e:(if(decide (i<1)||!c.leaf||!c.aJ)=true then p else(p.path 9 i).foldl Qe.note ((p.path 9 i).foldl (Qe.up1 now) p))=p:=by rw[if_pos];rcases k with K|K|K<;>simp[K]
   dsimp only;rw[e];have fin:∀{d:Bool},decide (i<1)=d->(d=true\/c.leaf=false\/c.aJ=false)->ZW 109 #[ptr b,ZI i,ZU now] w (.tuple #[]) λw'=>Qo A w' (Qn F w w') b p/\Qc F w w':=by
    intro d hd k;have hx:(i<1)=(d=true):=by rw[<-hd];simp
    generalize c.leaf=lf at c1 k;generalize c.aJ=sh at U k;have q3:=z▸c1;clear h J hc hP u I l3 l5 e c0 c3 c4 c5 c6 c7;cases d with
    |true=>
     have Xg:i<1:=by simpa using hx
     apply WH func109;go_wp2_with fail;rw[<-z]at Z|-;clear z q3;apply Zy V;rintro w1 rfl;exact WD B
    |false=>
     have Xg:¬i<1:=by simpa using hx
     cases lf with
     |false=> apply WH func109;go_wp2_with fail;rw[<-z]at Z|-;clear z q3;apply Zy V;rintro w1 rfl;exact WD B
     |true=>
      obtain rfl:sh=false:=by simpa using k
      apply WH func109;go_wp2_with fail;rw[<-z]at Z|-;clear z q3;apply Zy V;rintro w1 rfl;exact WD B
   exact fin rfl (k.imp (λh=>by simpa using h) id)
  .have hi:0<i:=by omega
   have ae:c.leaf=true:=by cases h:c.leaf<;>simp_all
   have af:c.aJ=true:=by cases h:c.aJ<;>simp_all
   have Xg:¬i<1:=by omega
   rw[ae]at c1;rw[af]at U;have e:(if(decide (i<1)||!c.leaf||!c.aJ)=true then p else(p.path 9 i).foldl Qe.note ((p.path 9 i).foldl (Qe.up1 now) p))=(p.path 9 i).foldl Qe.note ((p.path 9 i).foldl (Qe.up1 now) p):=by rw[if_neg (by simp[ae,af,Xg])]
   dsimp only;rw[e];obtain⟨p1,p2,p3⟩:=De J hc;generalize p.path 9 i=l at p1 p2 p3|-;have g0:=Y9.start J p1;have g1:=U0 (Sl now) _ _ g0;have g2:Y9 dep (N+l.length) l.length (l.foldl (Qe.up1 now) p) l (l.foldl (Qe.up1 now) p):=Y9.start (by simpa using g1.ok) (Vy.same g1.same p1);have H1:=O (Lo 174 #[ZP w.heap.size,ZP (w.heap.size+1)] (enters_of func174 (by kernel_rfl) rfl) (λp id=>p.up1 now id) (Y9 dep N l.length p) dep
    (λid rest p' k=>k.next (Sl now id rest p' k).1 (Sl now id rest p' k).2)
    (λid rest p' w' k ab R=>by
     obtain⟨K,c',q,ac,hq,_⟩:=k.head;exact Qpm ab k.ok (by omega) K ac hq now ai (R.blk B3.o u) (R.blk B5.o I) (Qn.not u l3) (Qn.not I l5))
    hP l g0 i p2.symm)
   have H2:Hi (∀w1,Qo A w1 (Qn F W w1) b (l.foldl (λp id=>p.up1 now id) p)->Qc F W w1->ZW 155 #[ptr b,ZI i,.func (.func 177) #[] #[ZP w.heap.size]] w1 (.tuple #[]) λw'=>Qo A w' (Qn F W w') b (l.foldl Qe.note (l.foldl (Qe.up1 now) p))/\Qc F W w'):=O (by
    intro w1 K E;refine(Lo 177 #[ZP w.heap.size] (enters_of func177 (by kernel_rfl) rfl) Qe.note (Y9 dep (N+l.length) l.length (l.foldl (Qe.up1 now) p)) dep
     (λid rest p' k=>k.next (T7 id rest p' k).1 (T7 id rest p' k).2)
     (λid rest p' w' k ab R=>by
      obtain⟨ak,c',q,ac,hq,_⟩:=k.head;exact Qa5 ab k.ok (by omega) ak ac hq (R.blk (E.blk B3.o u) (Qn.not u l3)))
     K l g2 i p2.symm).mono ?_
    rintro e w2⟨rfl,h2,U⟩;obtain⟨m1,m2⟩:=(Qo.obj A).two h2 ((Qo.obj A).bd hP) E U;exact⟨rfl,m1,m2⟩)
   have aj:=O (Zt u I);clear h J hc hP u I l3 l5 e c0 c3 c4 c5 c6 c7 k p1 p2 p3 g0 g1 g2 ae af;apply WH func109;go_wp2_with fail;rw[<-z]at Z|-;clear z;apply Zy V;rintro w1 rfl;go_wp2_with fail;apply Zy H1;rintro w1⟨K,E⟩;have H3:=O (H2.o w1 K E);have a4:=Jf (E.blk B3.o aj.o.1);clear K E Z c1 U;go_wp2_with fail;apply ZF H3 (λ_ ⟨h2,ah⟩=>ag.o _ _ h2 ah);intro w2 FF;exact WD FF
end
end
section
attribute [local go_sem ↓] X8 Yd
attribute [local irreducible] Kl J9
section
variable{A:Dz}{w:World}{F:Fp}{b:Nat}{p:Qe}{N:Nat}{dep:Int->Nat}
theorem Qih(h:Qo A w F b p)(I:Qs dep N p)(hN:N<549755813887){i:Int}{c q:Qx}(hi:0<i)(Z:p.at i=some c)(hq:p.at c.par=some q)(g:Nat)(hg:g<18446744073709551616)
  {Bp Bg:Nat}(aa:Qh w Bp #[ptr b] 95)(R:Qh w Bg #[ZU g] 22)(ag:¬F Bp)(af:¬F Bg):
  ZW 156 #[ZI i,ptr (A.ad i),ZP Bg,ZP Bp] w (.tuple #[]) λw'=>Qo A w' (Qn F w w') b (p.aV g i)/\Qc F w w':=by
 have ae:=(Qo.obj A).bd h;obtain⟨V,z⟩:=Qe.aE Z;have K:=I.ok c V;obtain⟨ah,ai⟩:=I.pid Z hi hq;obtain⟨T,hT⟩:=Zx (c.total+min g (Xw-c.total));have ak:=K.total;have hC:=Yz;have e1:IntKind.u64.wrap (4611686018427387904-(c.total:Int))=((Xw-c.total:Nat):Int):=by rw[IntWalk.u64_in _ (by omega)];omega
 have e2:min (g:Int) ((Xw-c.total:Nat):Int)=((min g (Xw-c.total):Nat):Int):=by omega
 have e3:IntKind.u64.wrap ((c.total:Int)+((min g (Xw-c.total):Nat):Int))=(T:Int):=by rw[IntWalk.u64_in _ (by omega)];omega
 have d:=h.cell Z;obtain⟨W,hW⟩:=Zx ((w.setCell ⟨A.ad i,3,none⟩ (ZU T)).drew);have ab:p.at ({c with total:=T}:Qx).id=some c:=by show p.at c.id=_;rw[z];exact Z
 have J:Hi (Qo A W (Qn F w W) b (p.set {c with total:=T})/\Qc F w W):=O (by
  refine h.setC (c:=c) (c':={c with total:=T}) V rfl rfl rfl rfl ?_ ?_;·rw[hW,z];exact((Zg (λk=>k=A.ad i) w).setCell (a:=⟨A.ad i,3,none⟩) _ (.inl rfl)).drew
  .rw[hW,z];exact(d.set' 3 (ZU T) rfl).drew)
 have U:(p.set {c with total:=T}).at i=some {c with total:=T}:=by have:=Hq ab;rw[<-z];exact this
 have B:(p.set {c with total:=T}).at c.par=some q:=(V5 (x:={c with total:=T}) (show c.par≠c.id from λe=>ah (by rw[ai,e,z]))).trans hq;have e:p.aV g i=(p.set {c with total:=T}).set {q with mem:=q.mem.gain i g}:=by unfold Qe.aV;rw[Z];dsimp only;rw[<-hT];exact Py (c:={c with total:=T}) U B
 rw[e];have E:=I.ok q (Qe.aE hq).1;have HG:Hi (∀w1,Qc Qb W w1->ZW 157 #[ptr (A.pf c.par),ZI i,ZU g] w1 (.tuple #[]) λw'=>Qo A w' (Qn F w w') b ((p.set {c with total:=T}).set {q with mem:=q.mem.gain i g})/\Qc F w w'):=O (by
  intro w1 cc;obtain⟨G,hF,al,ac⟩:=J.o.1.famAt B;apply Zz (Qmu (J0.obj.aB hF cc (Jl.none G)) (λx hx=>⟨(E.mem x hx).1,by have:=(E.mem x hx).2.1;omega⟩) i g hg);rintro w2⟨hf,c2⟩;obtain⟨m1,m2⟩:=ac w1 w2 _ cc hf c2;exact⟨rfl,(Qo.obj A).two m1 ae J.o.2 m2⟩)
 have d3:=Ja d.drew;have z3:=d.frozen 3;have aj:=d.drew.frozen 3;have y3:=(Ja d).2.2.2.1;have b2:=Jf R.drew;have X0:Hi (Qh W Bp #[ptr b] 95/\Qh W Bg #[ZU g] 22/\Qh W (A.ad i) (Pn {c with total:=T} (A.vl i) (A.pf i) (A.pt i)) 147):=O ⟨J.o.2.blk aa ag,J.o.2.blk R af,J.o.1.cell U⟩;obtain⟨x0,x1,x2⟩:=X0.o;have g0:=Ja x2.drew;have g1:=Jf x0.drew;have g2:=Jf x1.drew;have g3:=J.o.1.drew.look1 c.par;rw[Xz B]at g3;have g4:=Jf J.o.1.drew.blk;have g5:=Ja (J.o.1.drew.cell B);generalize Xw-c.total=u at e1 e2 e3;generalize min g u=u2 at e2 e3;clear h I Z hq K d aa R E hT e x0 x1 x2 V ab B U;apply WH func156;go_wp2_with fail;apply XB 200000000000000;apply YI 0;rw[<-hW];clear hW d3 z3 aj y3 b2;go_wp2_with fail;apply XB 200000000000000;apply YA 0;clear g0 g1 g2 g3 g4 g5;go_wp2_with fail;apply ZD (HG.o _ (Zg _ _).drew);intro w2 H2;go_wp2_with fail;refine Jo ?_;exact WD H2
end
end
section
attribute [local irreducible] Kl J9
section
variable{A:Dz}{w:World}{F:Fp}{b:Nat}{p:Qe}{N:Nat}{dep:Int->Nat}
theorem Qij(h:Qo A w F b p)(k:Qs dep N p)(hN:N<549755813887){i:Int}{c q:Qx}(hi:0<i)(I:p.at i=some c)(K:p.at c.par=some q)(sl:Bool)
  {Bp Bs:Nat}(d:Qh w Bp #[ptr b] 95)(E:Qh w Bs #[.bool sl] 4)(ag:¬F Bp):
  ZW 159 #[ZI i,ptr (A.ad i),ZP Bs,ZP Bp] w (.tuple #[]) λw'=>Qo A w' (Qn F w w') b (p.aW sl i)/\Qc F w w':=by
 have ai:=(Qo.obj A).bd h;have y0:=Jf E;have y1:=Jf d;have aa:=Ja (h.cell I);obtain⟨_,c1,_,_,_,_,c6,_⟩:=aa;have ab:=O d;have R:∀r:Bool,(sl&&(c.leaf||decide (c.tree.length=0)))=r->p.aW sl i=Qe.note (if r then p.fam i (λf=>f.sleep i)else p) i:=λr hr=>by unfold Qe.aW;rw[I];dsimp only;rw[hr]
 have ac:=O (Mj h k (by omega) hi I K);obtain⟨k1,k2,k3,k4⟩:=k.fam (f:=λf=>f.sleep i) (Zv _) I hi K ((k.ok q (Qe.aE K).1).fam.sleep i);have J:=Py (f:=λf=>f.sleep i) I K;have af:Hi (∀w1,Qc Qb w w1->ZW 161 #[ptr (A.pf c.par),ZI i] w1 (.tuple #[]) λw'=>Qo A w' (Qn F w w') b (p.fam i λf=>f.sleep i)/\Qc F w w'):=O (by
  intro w1 cc;obtain⟨G,hF,aj,ah⟩:=h.famAt K;apply Zz (Qjh (J0.obj.aB hF cc (Jl.none G)) i);rintro w2⟨hf,B⟩;obtain⟨m1,m2⟩:=ah w1 w2 _ cc hf B;exact⟨rfl,J▸m1,m2⟩)
 have ae:Hi (∀w2,Qo A w2 (Qn F w w2) b (p.fam i λf=>f.sleep i)->Qc F w w2->ZW 162 #[ptr b,ZI i] w2 (.tuple #[]) λw'=>Qo A w' (Qn F w w') b ((p.fam i λf=>f.sleep i).note i)/\Qc F w w'):=O (by
  intro w2 Z B;apply Zz (Mj Z k1 (by omega) hi k3 k4);rintro w3⟨z,c3⟩;obtain⟨m1,m2⟩:=(Qo.obj A).two z ai B c3;exact⟨rfl,m1,m2⟩)
 have d0:=Ja (h.drew.cell I);have f5:=Ja (h.drew.cell K);have hL:=h.drew.look1 c.par;rw[Xz K]at hL;have y2:=Jf h.drew.blk;have y3:=Jf d.drew;obtain⟨G6,ht⟩:=h.tre I;have u:=O (Qn1 ht);generalize U:c.leaf=lf at c1 R;cases sl with
 |false=> rw[R false (by simp)];simp only[Bool.false_eq_true,if_false];clear h k I K d E k1 k2 k3 k4 J R ht d0 f5 hL y2 y3 U;apply WH func159;go_wp2_with fail;apply ZQ ac;intro w3 V;exact WD V
 |true=>
  cases lf with
  |true=>
   rw[R true (by simp)];simp only[if_true];clear h k I K d E k1 k2 k3 k4 J R ht U;apply WH func159;go_wp2_with fail;apply XB 20000000000000;apply YA 0;clear d0 f5 hL y2 y3 y1;go_wp2_with fail;apply Zz (af.o _ (Zg _ _).drew);rintro w2⟨Z,B⟩;have H2:=O (ae.o _ Z B);have y1:=Jf (B.blk ab.o ag);clear Z B;go_wp2_with fail;refine Jo ?_;go_wp2_with fail;apply ZQ H2;intro w3 V;exact WD V
  |false=>
   by_cases h0:c.tree.length=0
   .rw[R true (by simp[h0])];simp only[if_true];have e0:((c.tree.length:Nat):Int)=0:=by omega
    rw[e0]at u;clear h k I K d E k1 k2 k3 k4 J R ht U;apply WH func159;go_wp2_with fail;apply Zy u;rintro w1 rfl;go_wp2_with fail;apply XB 20000000000000;apply YA 0;clear d0 f5 hL y2 y3 y1;go_wp2_with fail;apply Zz (af.o _ (Zg _ _).drew);rintro w2⟨Z,B⟩;have H2:=O (ae.o _ Z B);have y1:=Jf (B.blk ab.o ag);clear Z B;go_wp2_with fail;refine Jo ?_;go_wp2_with fail;apply ZQ H2;intro w3 V;exact WD V
   .rw[R false (by simp[h0])];simp only[Bool.false_eq_true,if_false];have e0:(((c.tree.length:Nat):Int)==0)=false:=by rw[beq_eq_false_iff_ne];omega
    have e1:((c.tree.length:Nat):Int)≠0:=by omega
    generalize((c.tree.length:Nat):Int)=tl at u e0 e1;clear h k I K d E k1 k2 k3 k4 J R ht U d0 f5 hL y2 y3;apply WH func159;go_wp2_with fail;apply Zy u;rintro w1 rfl;go_wp2_with fail;apply ZQ ac;intro w3 V;exact WD V
theorem Lk(g:Nat){L:Nat}{z:Qe}:∀id rest p,Y9 dep N L z (id::rest) p->Qs dep (N+(L-(id::rest).length)+1) (p.aV g id)/\Jv p (p.aV g id):=λid rest p h=>by obtain⟨d,c,q,k,u,_⟩:=h.head;exact h.ok.aV g k d u
theorem Pz(d:Bool){L:Nat}{B:Qe}:∀id rest p,Y9 dep N L B (id::rest) p->Qs dep (N+(L-(id::rest).length)+1) (p.aW d id)/\Jv p (p.aW d id):=λid rest p h=>by obtain⟨k,c,q,u,z,_⟩:=h.head;exact h.ok.aW d u k z
theorem Qs.sent(k:Qs dep N p)(i:Int)(g:Nat)(d:Bool):Qs dep (N+16) (p.sent i g d)/\Jv p (p.sent i g d):=by
 unfold Qe.sent;cases B:p.at i with
 |none=>exact⟨k.more (by omega),Jv.refl _⟩
 |some c=>
  dsimp only;split;·exact⟨k.more (by omega),Jv.refl _⟩
  .obtain⟨z,_,E⟩:=De k B;have q:=U0 (Lk g) _ _ (Y9.start k z);have u:=U0 (Pz (!d&&((p.path 9 i).foldl (Qe.aV g) p).aL i)) _ _ (Y9.start (N:=N+(p.path 9 i).length) (by simpa using q.ok) (Vy.same q.same z));refine⟨u.ok.more (by simp;omega),q.same.trans u.same⟩
theorem Qlm(h:Qo A w F b p)(aa:Qs dep N p)(hN:N<549755813000)(i:Int)(g:Nat)(hg:g<18446744073709551616)(k:Bool):
  ZW 100 #[ptr b,ZI i,ZU g,.bool k] w (.tuple #[]) λw'=>Qo A w' (Qn F w w') b (p.sent i g k)/\Qc F w w':=by
 have aj:=(Qo.obj A).bd h;obtain⟨W,I⟩:=Zx ((w.alloc (.cells #[ZP b] 95)).alloc (.cells #[ZU g] 22));have C0:Hi (Qc Qb w W):=O (by rw[I];exact((Zg _ _).alloc _).alloc _);have B3:Hi (Qh W w.heap.size #[ptr b] 95):=O (by rw[I];exact(Qh.new _ _ _).alloc _);have B5:Hi (Qh W (w.heap.size+1) #[ZU g] 22):=O (by rw[I];exact Qh.new' _ _ (by simp));have hP:=(Qo.obj A).aB h C0.o (Jl.none F);have HA:=O (Hw hP i);have B:¬F w.heap.size:=λhk=>by have:=aj _ hk;omega
 have J:¬F (w.heap.size+1):=λhk=>by have:=aj _ hk;omega
 have l3:=B3.o.lt;have l5:=B5.o.lt;have ae:Hi (∀w' p',Qo A w' (Qn F W w') b p'->Qc F W w'->Qo A w' (Qn F w w') b p'/\Qc F w w'):=O (λw' p' h' c'=>by
  have c2:Qc F w w':=C0.o.none.aA c';exact⟨(Qo.obj A).more h' (Ke C0.o.size) (aj.ext c2),c2⟩)
 have R:Hi (Qo A W (Qn F w W) b p/\Qc F w W):=O ((Qo.obj A).same h C0.o);unfold Qe.sent;cases hc:p.at i with
 |none=> rw[Ep hc]at HA;dsimp only;have a3:=Jf (I▸B3.o);clear h aa hc hP B J l3 l5;apply WH func100;go_wp2_with fail;rw[<-I]at a3|-;clear I;apply Zy HA;rintro w1 rfl;go_wp2;all_goals refine WA rfl rfl ⟨rfl,R.o⟩
 |some c=>
  rw[Xz hc]at HA;have a3:=Jf (I▸B3.o);obtain⟨c0,c1,c2,c3,c4,c5,c6,c7⟩:=Ja (hP.cell hc);by_cases ac:i<1\/c.leaf=false
  .have e:(if(decide (i<1)||!c.leaf)=true then p else(p.path 9 i).foldl (Qe.aW (!k&&((p.path 9 i).foldl (Qe.aV g) p).aL i)) ((p.path 9 i).foldl (Qe.aV g) p))=p:=by rw[if_pos];rcases ac with E|E<;>simp[E]
   dsimp only;rw[e];have fin:∀{d:Bool},decide (i<1)=d->(d=true\/c.leaf=false)->ZW 100 #[ptr b,ZI i,ZU g,.bool k] w (.tuple #[]) λw'=>Qo A w' (Qn F w w') b p/\Qc F w w':=by
    intro d hd aq;have hx:(i<1)=(d=true):=by rw[<-hd];simp
    generalize c.leaf=lf at c1 aq;clear h aa hc hP B J l3 l5 e c0 c2 c3 c4 c5 c6 c7 ac;cases d with
    |true=>
     have Xg:i<1:=by simpa using hx
     apply WH func100;go_wp2_with fail;rw[<-I]at a3|-;clear I;apply Zy HA;rintro w1 rfl;exact WD R
    |false=>
     have Xg:¬i<1:=by simpa using hx
     obtain rfl:lf=false:=by simpa using aq
     apply WH func100;go_wp2_with fail;rw[<-I]at a3|-;clear I;apply Zy HA;rintro w1 rfl;exact WD R
   exact fin rfl (ac.imp (λh=>by simpa using h) id)
  .have hi:0<i:=by omega
   have am:c.leaf=true:=by cases h:c.leaf<;>simp_all
   have Xg:¬i<1:=by omega
   rw[am]at c1;have e:(if(decide (i<1)||!c.leaf)=true then p else(p.path 9 i).foldl (Qe.aW (!k&&((p.path 9 i).foldl (Qe.aV g) p).aL i)) ((p.path 9 i).foldl (Qe.aV g) p))=(p.path 9 i).foldl (Qe.aW (!k&&((p.path 9 i).foldl (Qe.aV g) p).aL i)) ((p.path 9 i).foldl (Qe.aV g) p):=by rw[if_neg (by simp[am,Xg])]
   dsimp only;rw[e];obtain⟨p1,p2,p3⟩:=De aa hc;generalize p.path 9 i=l at p1 p2 p3|-;have g0:=Y9.start aa p1;have g1:=U0 (Lk g) _ _ g0;have ai:Qs dep (N+l.length) (l.foldl (Qe.aV g) p):=by simpa using g1.ok
   have g2:Y9 dep (N+l.length) l.length (l.foldl (Qe.aV g) p) l (l.foldl (Qe.aV g) p):=Y9.start ai (Vy.same g1.same p1);have H1:=O (Lo 156 #[ZP (w.heap.size+1),ZP w.heap.size] (enters_of func156 (by kernel_rfl) rfl) (Qe.aV g) (Y9 dep N l.length p) dep
    (λid rest p' hg=>hg.next (Lk g id rest p' hg).1 (Lk g id rest p' hg).2)
    (λid rest p' w' Z ak V=>by
     obtain⟨E,c',q,al,hq,_⟩:=Z.head;exact Qih ak Z.ok (by omega) E al hq g hg (V.blk B3.o B) (V.blk B5.o J) (Qn.not B l3) (Qn.not J l5))
    hP l g0 i p2.symm)
   have ag:Hi (∀w1(F1:Fp),Qo A w1 F1 b (l.foldl (Qe.aV g) p)->ZW 158 #[ptr b,ZI i] w1 (.bool ((l.foldl (Qe.aV g) p).aL i)) λw'=>Qc Qb w1 w'):=O (λw1 F1 E=>Hx E ai i);have H2:Hi (∀(sl:Bool)w1 w2 Bs,Qo A w1 (Qn F W w1) b (l.foldl (Qe.aV g) p)->Qc F W w1->Qc Qb w1 w2->Qh w2 Bs #[.bool sl] 4->w1.heap.size<=Bs->ZW 155 #[ptr b,ZI i,.func (.func 159) #[] #[ZP Bs,ZP w.heap.size]] w2 (.tuple #[]) λw'=>Qo A w' (Qn F W w') b (l.foldl (Qe.aW sl) (l.foldl (Qe.aV g) p))/\Qc F W w'):=O (by
    intro sl w1 w2 Bs E z ca bs a0;have ay:=(Qo.obj A).bd E;have h4:=(Qo.obj A).aB E ca (Jl.none _);have nf:¬Qn F W w1 Bs:=λhk=>by have:=ay _ hk;omega
    have s3:=z.size;have s4:=ca.size;have ar:¬Qn F W w1 w.heap.size:=Qn.not B l3;refine(Lo 159 #[ZP Bs,ZP w.heap.size] (enters_of func159 (by kernel_rfl) rfl) (Qe.aW sl) (Y9 dep (N+l.length) l.length (l.foldl (Qe.aV g) p)) dep
     (λid rest p' hg=>hg.next (Pz sl id rest p' hg).1 (Pz sl id rest p' hg).2)
     (λid rest p' w' Z ak V=>by
      obtain⟨ax,c',q,al,hq,_⟩:=Z.head;exact Qij ak Z.ok (by omega) ax al hq sl (V.blk (ca.blk (z.blk B3.o B) (λh=>h)) ar) (V.blk bs nf) (Qn.not ar (by omega)))
     h4 l g2 i p2.symm).mono ?_
    rintro e w3⟨rfl,h5,c5⟩;have ap:Qc (Qn F W w1) w1 w3:=ca.none.aA c5;obtain⟨m1,m2⟩:=(Qo.obj A).two ((Qo.obj A).more h5 (Ke ca.size) (((Qo.obj A).bd E).ext ap)) ((Qo.obj A).bd hP) z ap;exact⟨rfl,m1,m2⟩)
   have av:=O (Zt B J);generalize(l.foldl (Qe.aV g) p)=az at H1 H2 ag|-;generalize az.aL i=aw at ag|-;clear h aa hc hP B J l3 l5 e c0 c2 c3 c4 c5 c6 c7 ac p1 p2 p3 g0 g1 g2 am ai;apply WH func100;go_wp2_with fail;rw[<-I]at a3|-;clear I;apply Zy HA;rintro w1 rfl;go_wp2_with fail;apply Zy H1;rintro w1⟨E,z⟩;have K:=O (Zt E z);have af:=O (z.blk B3.o av.o.1);have sz:=z.size;clear E z a3 c1;cases k with
   |true=> obtain⟨W2,ab⟩:=Zx (w1.alloc (.cells #[.bool false] 4));have H3:=O (H2.o (!true&&aw) w1 W2 w1.heap.size K.o.1 K.o.2 (by rw[ab];exact(Zg _ _).alloc _) (by rw[ab];exact Qh.new _ _ _) (Zv _));have a4:=Jf (show Qh (w1.alloc (.cells #[.bool false] 4)) _ _ _ from af.o.alloc _);go_wp2_with fail;rw[<-ab]at a4|-;clear ab;apply ZF H3 (λ_ ⟨h2,u⟩=>ae.o _ _ h2 u);intro w2 FF;exact WD FF
   |false=>
    have an:=O (ag.o w1 _ K.o.1);have a4:=Jf af.o;have au:=O (H2.o aw w1);go_wp2_with fail;apply Zy an;intro w2 u;obtain⟨W3,U⟩:=Zx (w2.alloc (.cells #[.bool aw] 4));have ao:Qh W3 w2.heap.size #[.bool aw] 4:=by rw[U];exact Qh.new _ _ _
    have ah:Qc Qb w1 W3:=by rw[U];exact u.alloc _
    have H3:=O (au.o W3 w2.heap.size K.o.1 K.o.2 ah ao u.size);have a5:=Jf (show Qh (w2.alloc (.cells #[.bool aw] 4)) w.heap.size _ _ from U▸ah.blk af.o (λh=>h));clear u ao ah a4;go_wp2_with fail;rw[<-U]at a5|-;clear U;apply ZF H3 (λ_ ⟨h2,u⟩=>ae.o _ _ h2 u);intro w3 FF;exact WD FF
end
def Fb(s:Yk):Value:=.agg #[.int .i64 s.id,.int .i64 s.par,.bool s.leaf,.int .u64 s.real.f,.int .u64 s.real.l,.int .u64 s.real.r,.int .u64 s.share.f,.int .u64 s.share.l,.int .u64 s.share.r,.int .u64 s.aN.f,.int .u64 s.aN.l,.int .u64 s.aN.r,.int .i64 s.pk,.int .i64 s.bt]
theorem Ns(s:Yk)(w):ZW 167 #[Fb s] w (.bool s.aJ) λw'=>Qc Qb w w':=by
 have I:=O (Xx.new w s);have u:=O ((Zg Qb w).alloc (.cells (Z4 s.leaf s) 29));have k:=O (λw=>Kz s.share w);have z:=O (λw=>K8 s.share w);unfold Yk.aJ;cases c:s.share.none with
 |true=> rw[c]at k;unfold Fb;clear c;apply WH func167;go_wp2_with fail;apply Z9 (k.o _) (λ_ d=>u.o.aA d);intro w1 q;exact WD q
 |false=> rw[c]at k;generalize decide s.share.May=r at z|-;unfold Fb;clear c;apply WH func167;go_wp2_with fail;apply Zz (k.o _);intro w1 d;have V:=(I.o.aB d).cells;have q:=O (u.o.aA d);clear d;go_wp2_with fail;apply Z9 (z.o _) (λ_ B=>q.o.aA B);intro w2 E;go_wp2;go_ret;exact⟨by simp,E.o⟩
section
variable{X:Type}{key:X->Int}{Is Is':World->Fp->Nat->X->Prop}{w w':World}{F:Fp}{m:Nat}{ad:Int->Nat}{l:List X}
theorem Yn.imp(h:Yn key Is w F m ad l)(u:∀x∈l,∀G,Is w G (ad (key x)) x->Is' w G (ad (key x)) x):Yn key Is' w F m ad l:=by obtain⟨G,d,k,q⟩:=h.ex;exact⟨h.map,h.bd,h.at_,G,λx c=>u x c _ (d x c),k,q⟩
end
section
variable{A:Dz}{w:World}{F:Fp}{b:Nat}{p:Qe}{N:Nat}{dep:Int->Nat}
def Dz.put(A:Dz)(i:Int)(c:Nat)(vb:Value)(pf pt:Nat):Dz:=⟨A.m,λj=>if j=i then c else A.ad j,λj=>if j=i then vb else A.vl j,λj=>if j=i then pf else A.pf j,λj=>if j=i then pt else A.pt j⟩
theorem Qgu{i:Int}{d k q:Nat}{u:Value}{c:Qx}(h:c.id≠i):Sy (A.put i d u k q) c=Sy A c:=by unfold Sy Dz.put;simp only[h,if_false]
theorem Qaa{w0 w1 w2 w3:World}(h:w1.heap.size<=w2.heap.size):Jl (Qn Qb w0 w1) (Qn Qb w2 w3):=λk a b=>by have:=((Qr k).1 a).2;have:=((Qr k).1 b).1;omega
theorem G5{w0 w1 w2 w3:World}(c:w0.heap.size<=w1.heap.size)(d:w2.heap.size<=w3.heap.size):∀k,Qn Qb w1 w2 k->Qn Qb w0 w3 k:=λk a=>by have:=(Qr k).1 a;exact(Qr k).2 ⟨by omega,by omega⟩
theorem Td(w0 w1):Bd (Qn Qb w0 w1) w1:=λk c=>((Qr k).1 c).2
theorem Qtf{w0 w1 w2 w3 w4}{x:Qx}{c:Nat}{d q:Nat}(Z:Qc Qb w0 w1)(U:Qc Qb w1 w2)(R:Qc Qb w2 w3)(E:Qc Qb w3 w4)
  (hl:Ho w1 (Qn Qb w0 w1) c x.limit)(hf:J0 w2 (Qn Qb w1 w2) d x.mem)(ht:Jg w3 (Qn Qb w2 w3) q x.tree)(V:Qh w4 w3.heap.size (Pn x (ptr c) d q) 147):
  Um (A.put x.id w3.heap.size (ptr c) d q) w4 (Qn Qb w0 w4) w3.heap.size x:=by
 have s1:=Z.size;have s2:=U.size;have s3:=R.size;have I:=E.size;have Xg:=V.lt;refine⟨by simp[Dz.put],?_⟩;have e1:(A.put x.id w3.heap.size (ptr c) d q).ad x.id=w3.heap.size:=by simp[Dz.put]
 have e2:(A.put x.id w3.heap.size (ptr c) d q).vl x.id=ptr c:=by simp[Dz.put]
 have e3:(A.put x.id w3.heap.size (ptr c) d q).pf x.id=d:=by simp[Dz.put]
 have e4:(A.put x.id w3.heap.size (ptr c) d q).pt x.id=q:=by simp[Dz.put]
 unfold Sy;rw[e1,e2,e3,e4];have h1:Do (ptr c) x.limit w4 (Qn Qb w0 w1):=.inr ⟨c,rfl,Ho.obj.aB hl ((U.aA R).aA E) (Jl.none _)⟩;have h2:J0 w4 (Qn Qb w1 w2) d x.mem:=J0.obj.aB hf (R.aA E) (Jl.none _);have h3:Jg w4 (Qn Qb w2 w3) q x.tree:=Jg.obj.aB ht E (Jl.none _);have K:Bd (Qn Qb w0 w4) w4:=Td _ _;have J:Bd (Qn Qb w0 w3) w4:=λk u=>Nat.lt_of_lt_of_le (Td _ _ k u) I;have z:Bd (Qn Qb w1 w3) w4:=λk u=>Nat.lt_of_lt_of_le (Td _ _ k u) I;have B:Bd (Qn Qb w2 w3) w4:=λk u=>Nat.lt_of_lt_of_le (Td _ _ k u) I;refine Q7 (G:=λk=>k=w3.heap.size) (H:=Qn Qb w0 w3) ⟨V,rfl,λk e=>e▸Xg⟩ ?_ (λk e u=>by have:=Td _ _ k u;omega) (λk e=>(Qr k).2 ⟨by omega,by omega⟩) (G5 (Zv _) I) K;refine Q7 (G:=Qn Qb w0 w1) (H:=Qn Qb w1 w3) h1 ?_ (Qaa (Zv _)) (G5 (Zv _) (by omega)) (G5 s1 (Zv _)) J;exact Q7 (G:=Qn Qb w1 w2) (H:=Qn Qb w2 w3) h2 (Y6 h3 B) (Qaa (Zv _)) (G5 (Zv _) s3) (G5 s2 (Zv _)) z
theorem Qo.newC(h:Qo A w F b p){x:Qx}{c:Nat}{E:Value}{z B:Nat}(hn:p.at x.id=none){w4}(U:Qc Qb w w4)(hx:Um (A.put x.id c E z B) w4 (Qn Qb w w4) c x):
  ∃d,(Instr.mapUpdate 163 (.map (some A.m)) (ZI x.id) (ptr c)).run prog w4=.ok () d/\Qo (A.put x.id c E z B) d (Qn F w d) b (p++[x])/\Qc F w d/\Qc (λk=>k=A.m) w4 d:=by
 have ac:=(Qo.obj A).bd h;obtain⟨l,hp,hs⟩:=h;obtain⟨G,q,hG,_,J⟩:=Xv 1 (Vh A b l) rfl hs;obtain⟨d,K,ae,R⟩:=X6 (P:=prog) (q.map.aB U (λh=>h)) underlying163 underlying3 x.id (ptr c);have aa:=(q.aB (Um.obj A) U (Jl.none G)).imp (Is':=Um (A.put x.id c E z B)) (λy hy G' af=>by
  have I:y.id≠x.id:=λe=>by have Z:=Qe.at_of (p:=l) q.nodup hy;rw[Qe.at_eq hp q.nodup]at hn;rw[e]at Z;have:Qe.at l x.id=none:=hn;rw[Z]at this;cases this
  refine⟨?_,?_⟩;·show A.ad y.id=(if y.id=x.id then c else A.ad y.id);rw[if_neg I]
  .rw[Qgu I];exact af.2)
 have ab:=aa.put (Um.obj _) hx (λk a b'=>by
  have Z:=((Qr k).1 a).1;have:=ac k (hG k b');omega) (by rw[<-Qe.at_eq hp q.nodup];exact hn) ae R
 have V:Qc G w d:=(U.none (F:=G)).aA (R.sub λk u=>u▸q.at_);have h5:=J d (λw G=>Yn Qx.id (Um (A.put x.id c E z B)) w G (A.put x.id c E z B).m (A.put x.id c E z B).ad (l++[x])) V
  (ab.more (λk u=>u.elim .inl (λu=>.inr ⟨((Qr k).1 u).1,Nat.lt_of_lt_of_le ((Qr k).1 u).2 R.size⟩)) (q.bd.ext V))
 exact⟨d,K,⟨l++[x],hp.append_right _,h5⟩,V.sub hG,R⟩
end
section
variable{A:Dz}{w:World}{F:Fp}{b:Nat}{p:Qe}{N:Nat}{dep:Int->Nat}
def Yr(w:World)(F:Fp)(b:Nat)(p:Qe):Prop:=∃A,Qo A w F b p
theorem Yr.obj:Hf Yr where
 bd:=λ⟨A,h⟩=>(Qo.obj A).bd h
 own:=λ⟨A,h⟩=>(Qo.obj A).own h
 aB:=λ⟨A,h⟩d k=>⟨A,(Qo.obj A).aB h d k⟩
 more:=λ⟨A,h⟩q c=>⟨A,(Qo.obj A).more h q c⟩
theorem Qo.ne(h:Qo A w F b p):b≠A.m:=by obtain⟨l,B,z,G,H,c,⟨_,u,_,q,_,_,k,_⟩,d,_⟩:=h;rintro rfl;exact d _ c.2.1 (k _ q.at_)
theorem Qo.mlt(h:Qo A w F b p):F A.m:=by obtain⟨l,I,E,G,H,u,⟨_,q,_,k,_,_,c,_⟩,z,B,d⟩:=h;exact d _ (c _ k.at_)
theorem Qe.set_set(p:Qe){x y:Qx}(h:x.id=y.id):(p.set x).set y=p.set y:=by
 unfold Qe.set;rw[List.map_map];refine List.map_congr_left λz _=>?_;simp only[Function.comp];by_cases c:z.id=x.id;·rw[if_pos c,if_pos h,if_pos (c.trans h)]
 .rw[if_neg c]
theorem Qep{x:Qx}{i:Int}{q:Qx}(h:p.at i=some q):Qe.at (p++[x]) i=some q:=by unfold Qe.at at*;rw[List.find?_append,h];rfl
def Y0(s:Yk):Qx:=⟨s.id,s.par,s.leaf,s.aJ,0,Ha s.aN,⟨[],0⟩,[],0⟩
theorem Qlr{s:Yk}{q:Qx}(u:1<=s.id)(d:p.at s.id=none)(k:p.at s.par=some q)(c:q.leaf=false):
  p.put s=Qe.set (p++[Y0 s]) {q with mem:=if s.aJ then q.mem.add s.id s.share else q.mem,aM:=q.aM+1}:=by
 unfold Qe.put;rw[k];dsimp only;rw[d,c];have:¬s.id<1:=by omega
 simp[this,Y0]
theorem Qpl(h:Qo A w F b p)(s:Yk)(h1:1<=s.id)(hn:p.at s.id=none){q:Qx}(hq:p.at s.par=some q)(hl:q.leaf=false)(ce:q.aM<=65536):
  ZW 103 #[ptr b,Fb s] w (.bool true) λw'=>Yr w' (Qn F w w') b (p.put s)/\Qc F w w':=by
 have K:=(Qo.obj A).bd h;obtain⟨W,hW⟩:=Zx (w.alloc (.cells (Z4 s.leaf s) 29));have S0:Hi (Xx W w.heap.size s):=O (by rw[hW];exact Xx.new w s);have C0:Hi (Qc Qb w W):=O (by rw[hW];exact(Zg _ _).alloc _);have hP:=(Qo.obj A).aB h C0.o (Jl.none F);have al:=O (Hw hP s.par);rw[Xz hq]at al;have am:=O (Hw hP s.id);rw[Ep hn]at am;obtain⟨q0,q1,q2,q3,q4,q5,q6,q7⟩:=Ja (hP.cell hq);rw[hl]at q1;obtain⟨a0,a1,a2,a3,a4,a5,a6,a7,a8,a9,bk,bl,bm,bo⟩:=(show Xx (w.alloc _) _ _ from hW▸S0.o).cells;have Xg:¬s.id<1:=by omega
 have ap:=O (λw=>Ns s w);have bf:=O (λw=>Qdj s.aN w);have bb:=O hP.blk;have bu:=O hP.ne;have ay:Hi (w.heap.size≠A.m):=O (λe=>by have:=K _ h.mlt;omega);obtain⟨az,I⟩:=Zx (p.put s);rw[<-I];rw[Qlr h1 hn hq hl]at I;have af:=O I;clear I;have bi:=O Qei;have ba:=O Bw;have bj:Hi (∀w0 w1 w2 w3 w4 vb pf pt,Qc Qb W w0->Qc Qb w0 w1->Qc Qb w1 w2->Qc Qb w2 w3->Ho w1 (Qn Qb w0 w1) vb (Ha s.aN)->J0 w2 (Qn Qb w1 w2) pf ⟨[],0⟩->Jg w3 (Qn Qb w2 w3) pt []->
   w4=w3.alloc (.cells #[ZI s.par,.bool s.leaf,.bool s.aJ,ZU 0,ptr vb,ptr pf,ptr pt,ZI 0] 147)->
   ∃w5 J,(Instr.mapUpdate 163 (.map (some A.m)) (ZI s.id) (ZP w3.heap.size)).run prog w4=.ok () w5/\Qo J w5 (Qn F W w5) b (p++[Y0 s])/\Qc F W w5/\J.ad s.par=A.ad s.par/\J.pf s.par=A.pf s.par):=O (by
  rintro w0 w1 w2 w3 w4 vb pf pt c0 c1 c2 c3 hL hF hT rfl;have c4:Qc Qb w3 (w3.alloc (.cells #[ZI s.par,.bool s.leaf,.bool s.aJ,ZU 0,ptr vb,ptr pf,ptr pt,ZI 0] 147)):=(Zg _ _).alloc _;have hx:=Qtf (A:=A) (x:=Y0 s) c1 c2 c3 c4 hL hF hT (Qh.new _ _ _);have cW:Qc Qb W (w3.alloc (.cells #[ZI s.par,.bool s.leaf,.bool s.aJ,ZU 0,ptr vb,ptr pf,ptr pt,ZI 0] 147)):=(((c0.aA c1).aA c2).aA c3).aA c4;have bz:=(Um.obj _).more hx (G5 c0.size (Zv _)) (Td _ _);obtain⟨w5,r1,r2,r3,r4⟩:=hP.newC (x:=Y0 s) hn cW bz;have aw:s.par≠s.id:=λe=>by rw[e]at hq;rw[hq]at hn;cases hn
  exact⟨w5,_,r1,r2,r3,by simp[Dz.put,Y0,aw],by simp[Dz.put,Y0,aw]⟩)
 have R:Qe.at (p++[Y0 s]) s.par=some q:=Qep hq;unfold Fb ptr at*;clear h hP hl;apply WH func103;go_wp2_with fail;rw[<-hW]at a0 a1 a2 a3 a4 a5 a6 a7 a8 a9 bk bl bm bo|-;clear hW;apply Zy al;rintro w1 rfl;go_wp2_with fail;apply Zy am;rintro w1 rfl;go_wp2_with fail;apply YC [100,101,102,103,104,105,106,107,108,109,10,112,113,211,214,215,216,17,218,319] (λk=>k=A.m) W;iterate 3 (refine Qy (h:=?_);try simp only[Act.put,Za,Zc,Zb])
 iterate 7 (apply YK λwv hv=>Zt (Jf (hv.blk bb.o bu.o)) ((show Xx wv w.heap.size s from (hv.blk S0.o ay.o)).cells))
 have b0:=(show Xx W.drew w.heap.size s from S0.o.aB (Zg _ _).drew).cells;refine Xe (h:=?_);clear b0;iterate 2 (apply YK λwv hv=>(show Xx wv w.heap.size s from (hv.blk S0.o ay.o)).cells)
 refine Yb ?_;go_wp2_with fail;apply Z9 (ap.o _) (λ_ c0=>c0.aT);intro w0 D0;go_wp2_with fail;refine⟨D0.o.none,?_⟩;refine Yb ?_;go_wp2_with fail;refine(bf.o _).mono ?_;rintro e w1⟨vb,rfl,hL,c1⟩;have E1:=O c1;have D1:=O (D0.o.aA c1);have be:=O hL;clear c1 hL;go_wp2_with fail;refine⟨D1.o.none,?_⟩;refine Yb ?_;go_wp2_with fail;refine(bi.o _).mono ?_;rintro e w2⟨pf,rfl,hF,c2⟩;have E2:=O c2;have D2:=O (D1.o.aA c2);have bc:=O hF;clear c2 hF;go_wp2_with fail;refine⟨D2.o.none,?_⟩;refine Yb ?_;go_wp2_with fail;refine(ba.o _).mono ?_;rintro e w3⟨pt,rfl,hT,c3⟩;have E3:=O c3;have D3:=O (D2.o.aA c3);have bh:=O hT;have NN:=O (bj.o w0 w1 w2 w3 _ vb pf pt D0.o E1.o E2.o E3.o be.o bc.o bh.o rfl);clear c3 hT;go_wp2_with fail;refine⟨D3.o.none,?_⟩;apply YA 0;go_wp2_with fail;refine⟨D3.o.none.alloc _,?_⟩;obtain⟨w5,J,bw,aq,au,ar,ax⟩:=NN.o;have bg:=O aq;have an:=O au;have u:=O (Zt ar ax);clear aq au ar ax;apply YI 0;clear bw;have S5:=O (an.o.blk S0.o (λhk=>by have:=K _ hk;omega));have b0:=(show Xx w5 w.heap.size s from S5.o).cells;go_wp2_with fail;apply Zz (ap.o _);intro w6 c6;have d:=(Qo.obj J).same bg.o c6;obtain⟨d,ae⟩:=(Qo.obj J).two d.1 (K.later C0.o) an.o d.2;have ag:Hi (∀V P' q',Qo J V (Qn F W V) b P'->Qc F W V->P'.at s.par=some q'->q'.aM=q.aM->∀w8,w8=V.setCell ⟨A.ad s.par,7,none⟩ (ZI ((q.aM:Int)+1))->Yr w8 (Qn F w w8) b (P'.set {q' with aM:=q.aM+1})/\Qc F w w8):=O (by
  rintro V P' q' h7 bp U hu w8 rfl;obtain⟨bv,av⟩:=Qe.aE U;have E:=h7.cell U;have e0:J.ad q'.id=A.ad s.par:=by rw[av];exact u.o.1
  obtain⟨k1,k2⟩:=h7.setC (c:=q') (c':={q' with aM:=q.aM+1}) bv rfl rfl rfl rfl
   (by rw[e0];exact(Zg (λk=>k=A.ad s.par) V).setCell (a:=⟨A.ad s.par,7,none⟩) (ZI ((q.aM:Int)+1)) (.inl rfl))
   (by rw[av,u.o.1];rw[u.o.1]at E;exact E.set' 7 (ZI ((q.aM:Int)+1)) rfl)
  obtain⟨m1,m2⟩:=(Qo.obj J).two k1 (K.later C0.o) bp k2;have c8:Qc F w (V.setCell ⟨A.ad s.par,7,none⟩ (ZI ((q.aM:Int)+1))):=C0.o.none.aA m2;exact⟨⟨J,(Qo.obj J).more m1 (Ke C0.o.size) (K.ext c8)⟩,c8⟩)
 have ew:IntKind.i64.wrap ((q.aM:Int)+1)=(q.aM:Int)+1:=by rw[IntWalk.i64_in _ (by omega)]
 rcases Bool.eq_false_or_eq_true s.aJ with B|B
 .have z:=d.drew.cell R;rw[u.o.1,u.o.2]at z;have e5:=Ja z;have ah:s.share.May:=by unfold Yk.aJ at B;simp only[Zw,decide_eq_true_eq]at B;exact B.2
  have bd:Hi (Cl 169 #[ptr (A.pf s.par),ZI s.id,cV s.share] w6.drew λe w'=>(∃r,e=.returned (.bool r))/\Qo J w' (Qn F W w') b ((p++[Y0 s]).set {q with mem:=q.mem.add s.id s.share})/\Qc F W w'):=O (by
   obtain⟨G,hF,_,ai⟩:=d.drew.famAt R;rw[u.o.2]at hF ai;refine(Qeh hF s.id s.share ah).mono ?_;rintro e V⟨hr,hf,c7⟩;obtain⟨m1,m2⟩:=ai _ V _ (Zg Qb _) hf c7;obtain⟨n1,n2⟩:=(Qo.obj J).two (w1:=w6) m1 (K.later C0.o) ae m2.aT;exact⟨hr,n1,n2⟩)
  have ak:=(Qe.aE R).2;have U:((p++[Y0 s]).set {q with mem:=q.mem.add s.id s.share}).at s.par=some {q with mem:=q.mem.add s.id s.share}:=by have:=Hq (p:=p++[Y0 s]) (x:={q with mem:=q.mem.add s.id s.share}) (y:=q) (by show Qe.at _ q.id=_;rw[ak];exact R);rw[<-ak];exact this
  have ao:=O U;have SS:=O (Qe.set_set (p++[Y0 s]) (x:={q with mem:=q.mem.add s.id s.share}) (y:={q with mem:=q.mem.add s.id s.share,aM:=q.aM+1}) rfl);have aj:Hi (az=((p++[Y0 s]).set {q with mem:=q.mem.add s.id s.share}).set {q with mem:=q.mem.add s.id s.share,aM:=q.aM+1}):=O (by rw[af.o,if_pos B];exact SS.o.symm);have g0:=(show Xx w6.drew w.heap.size s from c6.drew.blk S5.o (λh=>h)).cells;unfold ptr cV at*;clear d ae z ah ak U b0 c6;rw[B];go_wp2_with fail;apply XB 200000000;apply YA 0;clear g0 e5;go_wp2_with fail;apply Zo bd;rintro e V⟨⟨r,rfl⟩,h7,c7⟩;have E:=h7.cell ao.o;rw[u.o.1]at E;have e7:=Ja E;have z7:=E.frozen 7;have FF:=O (ag.o V _ _ h7 c7 ao.o rfl _ rfl);clear h7 c7 E;go_wp2_with fail;refine Jo ?_;go_wp2_with fail;go_ret;exact⟨rfl,by rw[aj.o];exact FF.o⟩
 .have z:=d.cell R;rw[u.o.1]at z;have e7:=Ja z;have z7:=z.frozen 7;have FF:=O (ag.o w6 _ q d ae R rfl _ rfl);have aj:Hi (az=(p++[Y0 s]).set {q with aM:=q.aM+1}):=O (by rw[af.o,if_neg (by rw[B];decide)]);rw[B];clear d ae c6 z b0;go_wp2_with fail;go_ret;exact⟨rfl,by rw[aj.o];exact FF.o⟩
end
section
variable{A:Dz}{w:World}{F:Fp}{b:Nat}{p:Qe}{N:Nat}{dep:Int->Nat}
theorem Qo.delC(h:Qo A w F b p)(i:Int)(I ty:TypeId):
  ∃w',(Builtin.delete_ #[163,I] ty #[.map (some A.m),ZI i]).run prog w=.ok (.tuple #[]) w'/\Qo A w' (Qn F w w') b (p.filter λx=>!decide (x.id=i))/\Qc F w w':=by
 obtain⟨l,R,U⟩:=h;obtain⟨G,u,K,_,d⟩:=Xv 1 (Vh A b l) rfl U;obtain⟨w',q,E,c⟩:=Di (P:=prog) u.map underlying163 underlying3 I ty i;have z:Qc G w w':=c.sub λk B=>B▸u.at_;have J:Yn Qx.id (Um A) w' (Qn G w w') A.m A.ad (Kp Qx.id i l):=(u.del (Um.obj A) i E c).more (λk B=>.inl B) (u.bd.ext z);exact⟨w',q,⟨Kp Qx.id i l,R.filter _,d w' (λw G=>Yn Qx.id (Um A) w G A.m A.ad (Kp Qx.id i l)) z J⟩,z.sub K⟩
theorem drop_eq{i:Int}{c q:Qx}(d:1<=i)(k:p.at i=some c)(z:c.aM=0)(ha:p.aL i=false)(u:p.at c.par=some q):
  p.drop i=(p.set {q with mem:=q.mem.drop i,aM:=q.aM-1}).filter λx=>!decide (x.id=i):=by unfold Qe.drop at*;simp_all;omega
theorem Qlj(h:Qo A w F b p)(I:Qs dep N p){i:Int}{c q:Qx}(h1:1<=i)(hc:p.at i=some c)(hu:c.aM=0)(ha:p.aL i=false)(E:p.at c.par=some q)(an:1<=q.aM):
  ZW 122 #[ptr b,ZI i] w (.bool true) λw'=>Qo A w' (Qn F w w') b (p.drop i)/\Qc F w w':=by
 have aa:=(Qo.obj A).bd h;have HA:=O (Hw h i);rw[Xz hc]at HA;have U:=O (Hx h I i);rw[ha]at U;have ae:=(I.ok q (Qe.aE E).1).aM;obtain⟨ak,d⟩:=Zx (p.drop i);rw[<-d];rw[drop_eq h1 hc hu ha E]at d;have V:=O d;obtain⟨_,c1,_,_,_,_,_,c7⟩:=Ja (h.cell hc);rw[hu]at c7;have Xg:¬i<1:=by omega
 have J:=(Qe.aE E).2;have ew:IntKind.i64.wrap ((q.aM:Int)-1)=((q.aM-1:Nat):Int):=by rw[IntWalk.i64_in _ (by omega)];omega
 have ag:Hi (∀w1,Qc Qb w w1->Cl 182 #[ptr (A.pf c.par),ZI i] w1 λe w'=>(∃r,e=.returned (.bool r))/\Qo A w' (Qn F w w') b (p.set {q with mem:=q.mem.drop i})/\Qc F w w'):=O (by
  intro w1 cc;obtain⟨G,hF,am,ac⟩:=h.famAt E;apply Zz (Qb3 (J0.obj.aB hF cc (Jl.none G)) i);rintro w2⟨hf,c2⟩;obtain⟨m1,m2⟩:=ac w1 w2 _ cc hf c2;exact⟨⟨_,rfl⟩,m1,m2⟩)
 have B:(p.set {q with mem:=q.mem.drop i}).at c.par=some {q with mem:=q.mem.drop i}:=by have:=Hq (p:=p) (x:={q with mem:=q.mem.drop i}) (y:=q) (by show p.at q.id=_;rw[J];exact E);rw[<-J];exact this
 have SS:=O (Qe.set_set p (x:={q with mem:=q.mem.drop i}) (y:={q with mem:=q.mem.drop i,aM:=q.aM-1}) rfl);have Z:Hi (∀w2,Qo A w2 (Qn F w w2) b (p.set {q with mem:=q.mem.drop i})->Qc F w w2->∀w3,w3=w2.setCell ⟨A.ad c.par,7,none⟩ (ZI ((q.aM-1:Nat):Int))->
   w3.cell? ⟨b,0,none⟩=some (.map (some A.m))/\∃K,(Builtin.delete_ #[163,3] 0 #[.map (some A.m),ZI i]).run prog w3=.ok (.tuple #[]) K/\Qo A K (Qn F w K) b ak/\Qc F w K):=O (by
  rintro w2 R ai w3 rfl;obtain⟨aj,ab⟩:=Qe.aE B;have z:=R.cell B;have e0:A.ad ({q with mem:=q.mem.drop i}:Qx).id=A.ad c.par:=by rw[ab]
  obtain⟨k1,k2⟩:=R.setC (c:={q with mem:=q.mem.drop i}) (c':={q with mem:=q.mem.drop i,aM:=q.aM-1}) aj rfl rfl rfl rfl
   (by rw[e0];exact(Zg (λk=>k=A.ad c.par) w2).setCell (a:=⟨A.ad c.par,7,none⟩) (ZI ((q.aM-1:Nat):Int)) (.inl rfl))
   (by rw[ab];exact z.set' 7 (ZI ((q.aM-1:Nat):Int)) rfl)
  obtain⟨m1,m2⟩:=(Qo.obj A).two k1 aa ai k2;refine⟨Jf m1.blk,?_⟩;obtain⟨K,af,h4,c4⟩:=m1.delC i 3 0;obtain⟨n1,n2⟩:=(Qo.obj A).two h4 aa m2 c4;refine⟨K,af,?_,n2⟩;rw[V.o,<-SS.o];exact n1)
 have ah:=O B;have HC:=O (h.cell hc);have HQ:=O (h.cell E);have HL:=O (λw'(cc:Qc Qb w w')=>((Qo.obj A).aB h cc (Jl.none F)).look1 c.par);rw[Xz E]at HL;have HB:=O h.blk;clear h I hc E hu ha d ae J B;apply WH func122;go_wp2_with fail;apply Zy HA;rintro w1 rfl;go_wp2_with fail;apply Zy U;intro w1 u;have C1:=O u;have d0:=Ja (u.drew.blk HC.o (λh=>h));have q5:=Ja (u.drew.blk HQ.o (λh=>h));have hL:=HL.o _ u.drew;have y0:=Jf (u.drew.blk HB.o (λh=>h));clear u c1 c7;go_wp2_with fail;apply XB 2000000000;apply YI 0;go_wp2_with fail;refine(ag.o _ C1.o.drew).mono ?_;rintro e w2⟨⟨r,rfl⟩,R,c2⟩;have z:=R.cell ah.o;have e7:=Ja z;have z7:=z.frozen 7;obtain⟨t0,K,al,h4,c4⟩:=Z.o w2 R c2 _ rfl;have H4:=O (Zt h4 c4);clear R c2 z h4 c4 d0 q5 hL y0;exact WD H4
end
section
variable{A:Dz}{w:World}{F:Fp}{b:Nat}{p:Qe}{N:Nat}{dep:Int->Nat}
def Dz.lim(A:Dz)(i:Int)(vb:Value):Dz:=⟨A.m,A.ad,λj=>if j=i then vb else A.vl j,A.pf,A.pt⟩
theorem Qq7{i:Int}{d:Value}{c:Qx}(h:c.id≠i):Sy (A.lim i d) c=Sy A c:=by unfold Sy Dz.lim;simp only[h,if_false]
theorem Qo.renewed(h:Qo A w F b p){c c':Qx}(hc:c∈p)(I:c'.id=c.id)(hm:c'.mem=c.mem)(ht:c'.tree=c.tree){w0 w1 w2}{E:Nat}(ab:Qc Qb w w0)(c1:Qc Qb w0 w1)(hl:Ho w1 (Qn Qb w0 w1) E c'.limit)
  (c2:Qc (λk=>k=A.ad c.id) w1 w2) (hb:Qh w2 (A.ad c.id) (Pn c' (ptr E) (A.pf c.id) (A.pt c.id)) 147):Qo (A.lim c.id (ptr E)) w2 (Qn F w w2) b (p.set c')/\Qc F w w2:=by
 have ao:=(Qo.obj A).bd h;obtain⟨l,hp,hs⟩:=h;obtain⟨H,R,h2,_,h3⟩:=Xv 1 (Vh A b l) rfl hs;have ai:c∈l:=hp.mem_iff.2 hc;obtain⟨G,k1,k2,k3⟩:=R.ex;have ae:=(k1 c ai).2;obtain⟨ah,G0,R0,g0,ak,d0,s0,s1⟩:=ae;obtain⟨_,G1,R1,g1,al,d1,s2,s3⟩:=ak;obtain⟨_,G2,R2,g2,am,d2,s4,s5⟩:=al;obtain⟨_,G3,R3,g3,_,d3,s6,_⟩:=am;have cc:Qc (G c.id) w w2:=(ab.none.aA c1.none).aA (c2.sub λk d=>d▸s0 _ g0.2.1);have cH:Qc H w w2:=cc.sub λk d=>(k2 _ k d).1;have u:Bd (G c.id) w:=ah;have cA:Qc Qb w w1:=ab.aA c1;have z1:=c1.size;have z2:=c2.size;have z0:=ab.size;have V:∀k,G2 k->k≠A.ad c.id:=λk d e=>d0 (A.ad c.id) g0.2.1 (s3 _ (s4 _ (e▸d)));have Z:∀k,G3 k->k≠A.ad c.id:=λk d e=>d0 (A.ad c.id) g0.2.1 (s3 _ (s5 _ (s6 _ (e▸d))));have z:∀k,G2 k->G c.id k:=λk d=>s1 _ (s3 _ (s4 _ d));have q:∀k,G3 k->G c.id k:=λk d=>s1 _ (s3 _ (s5 _ (s6 _ d)));have ag:A.ad c.id<w.heap.size:=u _ (s0 _ g0.2.1);have f2:J0 w2 G2 (A.pf c.id) c'.mem:=by rw[hm];exact J0.obj.aB (J0.obj.aB g2 cA (Jl.none _)) c2 (λk d e=>V k d e)
 have f3:Jg w2 G3 (A.pt c.id) c'.tree:=by rw[ht];exact Jg.obj.aB (Jg.obj.aB g3 cA (Jl.none _)) c2 (λk d e=>Z k d e)
 have f1:Do (ptr E) c'.limit w2 (Qn Qb w0 w1):=.inr ⟨E,rfl,Ho.obj.aB hl c2 (λk d e=>by have:=((Qr k).1 d).1;omega)⟩;have ac:Bd (Qn (G c.id) w w2) w2:=u.ext cc;have hX:Um (A.lim c.id (ptr E)) w2 (Qn (G c.id) w w2) (A.ad c.id) c':=by
  refine⟨by rw[I];rfl,?_⟩;have e2:(A.lim c.id (ptr E)).vl c'.id=ptr E:=by simp[Dz.lim,I]
  unfold Sy;rw[e2];show Oh [Tv (A.ad c'.id) (Pn c' (ptr E) (A.pf c'.id) (A.pt c'.id)) 147,Do (ptr E) c'.limit,λw F=>J0 w F (A.pf c'.id) c'.mem,λw F=>Jg w F (A.pt c'.id) c'.tree] w2 _;rw[I];have aa:∀{U:Fp},(∀k,U k->Qn (G c.id) w w2 k)->Bd U w2:=λhU=>ac.sub hU;have u1:∀k,Qn Qb w0 w1 k->Qn (G c.id) w w2 k:=λk d=>.inr ⟨by have:=((Qr k).1 d).1;omega,by have:=((Qr k).1 d).2;omega⟩;refine Q7 (G:=λk=>k=A.ad c.id) (H:=λk=>Qn Qb w0 w1 k\/G2 k\/G3 k) ⟨hb,rfl,λk e=>e▸hb.lt⟩ ?_ ?_ (λk e=>e▸ .inl (s0 _ g0.2.1)) ?_ ac
  .refine Q7 (G:=Qn Qb w0 w1) (H:=λk=>G2 k\/G3 k) f1 ?_ ?_ (λk d=>.inl d) (λk d=>.inr d) (aa λk d=>d.elim (u1 k) (λd=>d.elim (λd=>.inl (z k d)) (λd=>.inl (q k d))));·refine Q7 (G:=G2) (H:=G3) f2 (Y6 f3 (aa λk d=>.inl (q k d))) (λk a b=>d2 k a (s6 _ b)) (λk d=>.inl d) (λk d=>.inr d) (aa λk d=>d.elim (λd=>.inl (z k d)) (λd=>.inl (q k d)))
   .intro k d J;have:=((Qr k).1 d).1;rcases J with J|J;·have:=u k (z k J);omega
    .have:=u k (q k J);omega
  .rintro k rfl d;rcases d with d|d|d;·have:=((Qr _).1 d).1;omega
   .exact V _ d rfl
   .exact Z _ d rfl
  .intro k d;rcases d with d|d|d;·exact u1 k d
   .exact .inl (z k d)
   .exact .inl (q k d)
 have an:=R.map.lt;have hC:Yn Qx.id (Um (A.lim c.id (ptr E))) w2 (Qn H w w2) A.m A.ad (Lg Qx.id c' l):=by
  refine⟨?_,R.bd.ext cH,.inl R.at_,λi=>if i=c.id then Qn (G c.id) w w2 else G i,?_,?_,?_⟩;·rw[Qcy];exact R.map.aB cc λB=>(k2 _ _ B).2 rfl
  .intro y hy;rcases Qao (x:=c) R.nodup hy with rfl|⟨hy,aj⟩;·dsimp only;rw[I,if_pos rfl];exact hX
   .dsimp only;have K:y.id≠c.id:=by rw[<-I];exact aj
    rw[if_neg K];have af:=(Um.obj A).aB (k1 y hy) cc (λk a b=>K (k3 _ _ k a b));exact⟨af.1,by rw[Qq7 K];exact af.2⟩
  .intro i k B;try dsimp only at B
   split at B
   .rcases B with B|B;·exact⟨.inl (k2 _ k B).1,(k2 _ k B).2⟩
    .exact⟨.inr B,by omega⟩
   .exact⟨.inl (k2 i k B).1,(k2 i k B).2⟩
  .intro i j k a b;try dsimp only at a b
   split at a<;>split at b;·rename_i e1 e2;rw[e1,e2]
   .rename_i e1 e2;rcases a with a|a;·rw[e1];exact k3 _ _ k a b
    .have:=R.bd k (k2 j k b).1;omega
   .rename_i e1 e2;rcases b with b|b;·rw[e2];exact k3 _ _ k a b
    .have:=R.bd k (k2 i k a).1;omega
   .exact k3 _ _ k a b
 have e3:=h3 w2 (λw G=>Yn Qx.id (Um (A.lim c.id (ptr E))) w G A.m A.ad (Lg Qx.id c' l)) cH hC;exact⟨⟨Lg Qx.id c' l,hp.map _,e3⟩,cH.sub h2⟩
theorem map_set{i:Int}{c:Qx}{g:Qx->Qx}(z:(p.map Qx.id).Nodup)(q:p.at i=some c)(u:(g c).id=c.id):(p.map λx=>if x.id=i then g x else x)=p.set (g c):=by
 obtain⟨E,d⟩:=Qe.aE q;unfold Qe.set;refine List.map_congr_left λx B=>?_;rw[u,d];by_cases e:x.id=i;·rw[if_pos e,if_pos e];have k:=Qe.at_of z B;rw[e,q]at k;rw[Zs k]
 .rw[if_neg e,if_neg e]
theorem Qso{x y:Qx}(h:x.id≠y.id):(p.set x).set y=(p.set y).set x:=by
 unfold Qe.set;rw[List.map_map,List.map_map];refine List.map_congr_left λz _=>?_;simp only[Function.comp];by_cases c:z.id=x.id;·rw[if_pos c,if_neg h,if_neg (λe=>h (c.symm.trans e)),if_pos c]
 .rw[if_neg c];by_cases d:z.id=y.id;·rw[if_pos d,if_neg (λe=>h e.symm)]
  .rw[if_neg d,if_neg c]
def Uk(c:Qx)(s:Yk):Qx:={c with aJ:=s.aJ,total:=0,limit:=Ha s.aN}
theorem Qbf{s:Yk}{c q:Qx}(u:Qs dep N p)(J:1<=s.id)(d:p.at s.id=some c)(ha:p.aL s.id=false)(E:p.at c.par=some q):
  p.aK s=if s.aJ then((p.set {q with mem:=q.mem.drop s.id}).set (Uk c s)).set {q with mem:=(q.mem.drop s.id).add s.id s.share}else(p.set {q with mem:=q.mem.drop s.id}).set (Uk c s):=by
 obtain⟨k,I⟩:=u.pid d (by omega) E;have B:=(Qe.aE d).2;have key:∀f:Jc->Jc,((p.fam s.id f).map λx=>if x.id=s.id then{x with aJ:=s.aJ,total:=0,limit:=Ha s.aN}else x)=(p.set {q with mem:=f q.mem}).set (Uk c s):=λf=>by rw[Py d E];have z:(p.set {q with mem:=f q.mem}).at s.id=some c:=(V5 (x:={q with mem:=f q.mem}) (show s.id≠q.id from λe=>k e.symm)).trans d;exact map_set (g:=λx=>{x with aJ:=s.aJ,total:=0,limit:=Ha s.aN}) (by rw[Qns];exact u.nd) z rfl
 have e:p.aK s=((p.fam s.id λf=>if s.aJ then(f.drop s.id).add s.id s.share else f.drop s.id).map λx=>if x.id=s.id then{x with aJ:=s.aJ,total:=0,limit:=Ha s.aN}else x):=by
  unfold Qe.aK;rw[d];dsimp only;rw[ha];have:¬s.id<1:=by omega
  simp[this]
 rw[e,key];cases K:s.aJ with
 |false=>simp
 |true=> simp only[if_true];rw[<-Qso (p:=p.set {q with mem:=q.mem.drop s.id}) (x:={q with mem:=(q.mem.drop s.id).add s.id s.share}) (y:=Uk c s) (show q.id≠c.id from by rw[B];exact k)];rw[Qe.set_set p (x:={q with mem:=q.mem.drop s.id}) (y:={q with mem:=(q.mem.drop s.id).add s.id s.share}) rfl]
end
section
variable{A:Dz}{w:World}{F:Fp}{b:Nat}{p:Qe}{N:Nat}{dep:Int->Nat}
theorem Qii(h:Qo A w F b p)(ac:Qs dep N p)(s:Yk){c q:Qx}(h1:1<=s.id)(hc:p.at s.id=some c)(ha:p.aL s.id=false)(hq:p.at c.par=some q):
  ZW 120 #[ptr b,Fb s] w (.bool true) λw'=>Yr w' (Qn F w w') b (p.aK s)/\Qc F w w':=by
 have al:=(Qo.obj A).bd h;obtain⟨W,hW⟩:=Zx (w.alloc (.cells (Z4 s.leaf s) 29));have S0:Hi (Xx W w.heap.size s):=O (by rw[hW];exact Xx.new w s);have C0:Hi (Qc Qb w W):=O (by rw[hW];exact(Zg _ _).alloc _);have hP:=(Qo.obj A).aB h C0.o (Jl.none F);have av:=(Qo.obj A).bd hP;have HA:=O (Hw hP s.id);rw[Xz hc]at HA;have an:=O (Hx hP ac s.id);rw[ha]at an;obtain⟨a0,a1,a2,a3,a4,a5,a6,a7,a8,a9,ap,aq,ar,au⟩:=(show Xx (w.alloc _) _ _ from hW▸S0.o).cells;have Xg:¬s.id<1:=by omega
 have bj:=O (λw=>Ns s w);have bh:=O (λw=>Qdj s.aN w);obtain⟨bp,E⟩:=Zx (p.aK s);rw[<-E];rw[Qbf ac h1 hc ha hq]at E;have ah:=O E;obtain⟨am,ae⟩:=ac.pid hc (by omega) hq;obtain⟨ax,I⟩:=Qe.aE hc;have bg:Hi (∀w1,Qc Qb W w1->Cl 182 #[ptr (A.pf c.par),ZI s.id] w1 λe w'=>(∃r,e=.returned (.bool r))/\Qo A w' (Qn F W w') b (p.set {q with mem:=q.mem.drop s.id})/\Qc F W w'):=O (by
  intro w1 cc;obtain⟨G,hF,bo,R⟩:=hP.famAt hq;apply Zz (Qb3 (J0.obj.aB hF cc (Jl.none G)) s.id);rintro w2⟨hf,c2⟩;obtain⟨m1,m2⟩:=R w1 w2 _ cc hf c2;exact⟨⟨_,rfl⟩,m1,m2⟩)
 have ab:(p.set {q with mem:=q.mem.drop s.id}).at s.id=some c:=(V5 (x:={q with mem:=q.mem.drop s.id}) (show s.id≠q.id from λe=>am e.symm)).trans hc;have ba:(p.set {q with mem:=q.mem.drop s.id}).at c.par=some {q with mem:=q.mem.drop s.id}:=by have:=Hq (p:=p) (x:={q with mem:=q.mem.drop s.id}) (y:=q) (by show p.at q.id=_;rw[ae];exact hq);rw[<-ae];exact this
 have bb:((p.set {q with mem:=q.mem.drop s.id}).set (Uk c s)).at c.par=some {q with mem:=q.mem.drop s.id}:=(V5 (x:=Uk c s) (show c.par≠c.id from λe=>am (by rw[ae,e,I]))).trans ba;have ai:F (A.ad s.id):=by obtain⟨G,g1,g2,_⟩:=hP.part ax 0 rfl;rw[<-I];exact g2 _ g1.2.1
 have bm:Hi (w.heap.size≠A.ad s.id):=O (λe=>by have:=al _ ai;omega);have nF:¬F w.heap.size:=λhk=>by have:=al _ hk;omega
 have NF:=O nF;have bk:Hi (∀w2 w3 w4 u,Qo A w2 (Qn F W w2) b (p.set {q with mem:=q.mem.drop s.id})->Qc F W w2->Qc Qb w2 w3->Qc Qb w3 w4->Ho w4 (Qn Qb w3 w4) u (Ha s.aN)->∀d,d=((w4.setCell ⟨A.ad s.id,2,none⟩ (.bool s.aJ)).setCell ⟨A.ad s.id,3,none⟩ (ZU 0)).setCell ⟨A.ad s.id,4,none⟩ (ptr u)->
   Qo (A.lim s.id (ptr u)) d (Qn F W d) b ((p.set {q with mem:=q.mem.drop s.id}).set (Uk c s))/\Qc F W d):=O (by
  rintro w2 w3 w4 u h2 bl c3 c4 hL d rfl;have K:=c4.blk (c3.blk (h2.cell ab) (λh=>h)) (λh=>h);have ay:=(Qe.aE ab).1;have r:=h2.renewed (c:=c) (c':=Uk c s) ay rfl rfl rfl c3 c4 hL (w2:=((w4.setCell ⟨A.ad s.id,2,none⟩ (.bool s.aJ)).setCell ⟨A.ad s.id,3,none⟩ (ZU 0)).setCell ⟨A.ad s.id,4,none⟩ (ptr u))
   (by rw[I];exact(((Zg (λk=>k=A.ad s.id) w4).setCell (a:=⟨A.ad s.id,2,none⟩) _ (.inl rfl)).setCell (a:=⟨A.ad s.id,3,none⟩) _ (.inl rfl)).setCell (a:=⟨A.ad s.id,4,none⟩) _ (.inl rfl))
   (by rw[I];exact((K.set' 2 (.bool s.aJ) rfl).set' 3 (ZU 0) rfl).set' 4 (ptr u) rfl)
  rw[I]at r;obtain⟨r1,r2⟩:=r;exact(Qo.obj _).two r1 av bl r2)
 have ag:Hi (∀A' w' p',Qo A' w' (Qn F W w') b p'->Qc F W w'->Yr w' (Qn F w w') b p'/\Qc F w w'):=O (λA' w' p' h' c'=>by
  have c2:Qc F w w':=C0.o.none.aA c';exact⟨⟨A',(Qo.obj A').more h' (Ke C0.o.size) (al.ext c2)⟩,c2⟩)
 have HC:=O (hP.cell hc);have HQ:=O (hP.cell hq);have HL:=O (λw'(cc:Qc Qb W w')=>((Qo.obj A).aB hP cc (Jl.none F)).look1 c.par);rw[Xz hq]at HL;have HB:=O hP.blk;have bd:=O ab;have bi:=O bb;have bc:=O av;have bf:Hi (s.aJ=true->∀d u,Qo (A.lim s.id (ptr u)) d (Qn F W d) b ((p.set {q with mem:=q.mem.drop s.id}).set (Uk c s))->Qc F W d->Cl 169 #[ptr (A.pf c.par),ZI s.id,cV s.share] d λe w'=>(∃r,e=.returned (.bool r))/\Qo (A.lim s.id (ptr u)) w' (Qn F W w') b (((p.set {q with mem:=q.mem.drop s.id}).set (Uk c s)).set {q with mem:=(q.mem.drop s.id).add s.id s.share})/\Qc F W w'):=O (by
  intro hs d u h5 c5;have az:s.share.May:=by unfold Yk.aJ at hs;simp only[Zw,decide_eq_true_eq]at hs;exact hs.2
  obtain⟨G,hF,_,R⟩:=h5.famAt bi.o;refine(Qeh hF s.id s.share az).mono ?_;rintro e w7⟨hr,hf,c7⟩;obtain⟨m1,m2⟩:=R _ w7 _ (Zg Qb _) hf c7;obtain⟨n1,n2⟩:=(Qo.obj _).two m1 bc.o c5 m2;exact⟨hr,n1,n2⟩)
 unfold Fb ptr cV at*;clear h hP ac hc hq ha E ae I ax ab ba bb am nF ai;apply WH func120;go_wp2_with fail;rw[<-hW]at a0 a1 a2 a3 a4 a5 a6 a7 a8 a9 ap aq ar au|-;clear hW;apply Zy HA;rintro w1 rfl;go_wp2_with fail;apply Zy an;intro w1 z;have C1:=O z;have d0:=Ja (z.drew.blk HC.o (λh=>h));have q5:=Ja (z.drew.blk HQ.o (λh=>h));have hL:=HL.o _ z.drew;have y0:=Jf (z.drew.blk HB.o (λh=>h));have z0:=(show Xx w1.drew w.heap.size s from z.drew.blk S0.o (λh=>h)).cells;clear z a0 a1 a2 a3 a4 a5 a6 a7 a8 a9 ap aq ar au;go_wp2_with fail;apply XB 2000000000000;apply YI 0;go_wp2_with fail;refine(bg.o _ C1.o.drew).mono ?_;rintro e w2⟨⟨r,rfl⟩,h2,c2⟩;have H2:=O (Zt h2 c2);have S2:=O (c2.blk S0.o NF.o);have ao:=O (h2.cell bd.o);clear h2 c2 d0 q5 hL y0 z0;have z0:=(show Xx w2.drew w.heap.size s from(Zg Qb w2).drew.blk S2.o (λh=>h)).cells;go_wp2_with fail;apply YC [100,101,102,3,105,106,204,207,8,9,210,11,12,213,14,15,316] (λk=>k=A.ad s.id) w2;iterate 3 (refine Qy (h:=?_);try simp only[Act.put,Za,Zc,Zb])
 refine Xe (h:=?_);(refine Qy (h:=?_);try simp only[Act.put,Za,Zc,Zb]);clear z0;iterate 1 (apply YK λwv hv=>(show Xx wv w.heap.size s from (hv.blk S2.o bm.o)).cells)
 refine Yb ?_;go_wp2_with fail;apply Z9 (bj.o _) (λ_ c3=>c3.aT);intro w3 D3;go_wp2_with fail;refine⟨D3.o.none,?_⟩;refine Yb ?_;go_wp2_with fail;refine(bh.o _).mono ?_;rintro e w4⟨u,rfl,aw,c4⟩;have D4:=O c4;have R5:=O (bk.o w2 w3 w4 u H2.o.1 H2.o.2 D3.o c4 aw _ rfl);have K:=c4.blk (D3.o.blk ao.o (λh=>h)) (λh=>h);have B4:=O K;have aj:=O (D3.o.aA c4);have z2:=K.frozen 2;have y2:=(Ja K).2.2.1;clear c4 aw;go_wp2_with fail;refine⟨aj.o.none,?_⟩;apply YA 0;go_wp2_with fail;refine⟨(aj.o.none (F:=λk=>k=A.ad s.id)).setCell (a:=⟨A.ad s.id,2,none⟩) _ (.inl rfl),?_⟩;have b5:=B4.o.set' 2 (.bool s.aJ) rfl;have z3:=b5.frozen 3;have y3:=(Ja b5).2.2.2.1;apply YA 0;go_wp2_with fail;refine⟨((aj.o.none (F:=λk=>k=A.ad s.id)).setCell (a:=⟨A.ad s.id,2,none⟩) _ (.inl rfl)).setCell (a:=⟨A.ad s.id,3,none⟩) _ (.inl rfl),?_⟩;have b6:=b5.set' 3 (ZU 0) rfl;have z4:=b6.frozen 4;have y4:=(Ja b6).2.2.2.2.1;apply YI 0;clear z2 y2 b5 z3 y3 b6 z4 y4;obtain⟨d,af⟩:=Zx (((w4.setCell ⟨A.ad s.id,2,none⟩ (.bool s.aJ)).setCell ⟨A.ad s.id,3,none⟩ (ZU 0)).setCell ⟨A.ad s.id,4,none⟩ (ZP u));have Q5:Hi (Qo (A.lim s.id (ZP u)) d (Qn F W d) b ((p.set {q with mem:=q.mem.drop s.id}).set (Uk c s))/\Qc F W d):=O (by rw[af];exact R5.o);have e2:d.cell? ⟨A.ad s.id,2,none⟩=some (.bool s.aJ):=by rw[af];exact(Ja (((B4.o.set' 2 (.bool s.aJ) rfl).set' 3 (ZU 0) rfl).set' 4 (ZP u) rfl)).2.2.1
 have S5:=O (Q5.o.2.blk S0.o NF.o);rw[<-af];clear af;rcases Bool.eq_false_or_eq_true s.aJ with J|J;·rw[J]at e2;have B:=ah.o;rw[if_pos J]at B;have ak:=O B;clear B;have be:=O (bf.o J d u Q5.o.1 Q5.o.2);have z0:=(show Xx d w.heap.size s from S5.o).cells;go_wp2_with fail;apply Zo be;rintro e w7⟨⟨r,rfl⟩,h7,c7⟩;have FF:=O (ag.o _ _ _ h7 c7);clear h7 c7;go_wp2;go_ret;exact⟨rfl,by rw[ak.o];exact FF.o⟩
 .rw[J]at e2;have B:=ah.o;rw[if_neg (by rw[J];decide)]at B;have ak:=O B;clear B;have FF:=O (ag.o _ _ _ Q5.o.1 Q5.o.2);go_wp2;go_ret;exact⟨rfl,by rw[ak.o];exact FF.o⟩
end
section
variable{A:Dz}{w:World}{F:Fp}{b:Nat}{p:Qe}{N:Nat}{dep:Int->Nat}
theorem Qkv(w):ZW 126 #[.pointer none] w (.pointer none) λw'=>Qc Qb w w':=by apply WH func126;go_wp2;go_ret;exact⟨rfl,Zg _ _⟩
theorem Qhr{v:Value}{l:Kg}{G:Fp}(h:Do v l w G)(k:∀r,l=some r->r.l.length<549755813888):
  Cl 126 #[v] w λe w'=>∃d,e=.returned d/\Do d l w' (Qn Qb w w')/\Qc Qb w w':=by
 rcases h with⟨rfl,rfl,u⟩|⟨q,rfl,h⟩;·apply Zz (Qkv w);intro w1 c;exact⟨_,rfl,.inl ⟨rfl,rfl,Td _ _⟩,c⟩
 .refine(Qku h k).mono ?_;rintro e w1⟨b',rfl,h',c⟩;exact⟨_,rfl,.inr ⟨b',rfl,h'⟩,c⟩
theorem Qq8{w0 w1 w2 w3 E B:World}{x:Qx}{z:Value}{d q:Nat}(c1:Qc Qb w1 w2)(V:Qc Qb w2 w3)(R:Qc Qb w3 E)(aa:w0.heap.size<w1.heap.size)(K:Qc (λk=>k=w0.heap.size) E B)
  (hl:Do z x.limit w2 (Qn Qb w1 w2)) (hf:J0 w3 (Qn Qb w2 w3) d x.mem) (ht:Jg E (Qn Qb w3 E) q x.tree) (Z:Qh B w0.heap.size (Pn x z d q) 147):
  Um (A.put x.id w0.heap.size z d q) B (Qn Qb w0 B) w0.heap.size x:=by
 have s1:=c1.size;have s2:=V.size;have s3:=R.size;have s5:=K.size;have Xg:=Z.lt;refine⟨by simp[Dz.put],?_⟩;have e1:(A.put x.id w0.heap.size z d q).ad x.id=w0.heap.size:=by simp[Dz.put]
 have e2:(A.put x.id w0.heap.size z d q).vl x.id=z:=by simp[Dz.put]
 have e3:(A.put x.id w0.heap.size z d q).pf x.id=d:=by simp[Dz.put]
 have e4:(A.put x.id w0.heap.size z d q).pt x.id=q:=by simp[Dz.put]
 unfold Sy;rw[e1,e2,e3,e4];have J:∀{u v:World},w1.heap.size<=u.heap.size->Jl (Qn Qb u v) (λk=>k=w0.heap.size):=λh k c e=>by have:=((Qr k).1 c).1;omega
 have h1:Do z x.limit B (Qn Qb w1 w2):=(Do.good _ _).aB ((Do.good _ _).aB hl (V.aA R) (Jl.none _)) K (J (Zv _));have h2:J0 B (Qn Qb w2 w3) d x.mem:=J0.obj.aB (J0.obj.aB hf R (Jl.none _)) K (J s1);have h3:Jg B (Qn Qb w3 E) q x.tree:=Jg.obj.aB ht K (J (by omega));have I:∀{U:Fp},(∀k,U k->k<B.heap.size)->Bd U B:=λh=>h;refine Q7 (G:=λk=>k=w0.heap.size) (H:=Qn Qb w1 E) ⟨Z,rfl,λk e=>e▸Xg⟩ ?_ (λk e c=>by have:=((Qr k).1 c).1;omega) (λk e=>(Qr k).2 ⟨by omega,by omega⟩) (G5 (by omega) s5) (Td _ _);refine Q7 (G:=Qn Qb w1 w2) (H:=Qn Qb w2 E) h1 ?_ (Qaa (Zv _)) (G5 (Zv _) (by omega)) (G5 s1 (Zv _)) (I λk c=>by have:=((Qr k).1 c).2;omega);exact Q7 (G:=Qn Qb w2 w3) (H:=Qn Qb w3 E) h2 (Y6 h3 (I λk c=>by have:=((Qr k).1 c).2;omega)) (Qaa (Zv _)) (G5 (Zv _) s3) (G5 s2 (Zv _)) (I λk c=>by have:=((Qr k).1 c).2;omega)
structure Qf9(A:Dz)(w:World)(l:List Qx)(b' m' r:Nat)(wr:World)(lm dn:List Qx):Prop where
 it:Kj wr A.m r (Xy Qx.id A.ad l) (Xy Qx.id A.ad lm)
 sub:lm.Sublist l
 perm:(dn++lm).Perm l
 chg:Qc Qb w wr
 blk:Qh wr b' #[.map (some m')] 165
 co:∃(A':Dz)(G:Fp),A'.m=m'/\Yn Qx.id (Um A') wr G m' A'.ad dn/\∀k,G k->w.heap.size<=k/\k≠r/\k≠b'
 nb:w.heap.size<=b'/\w.heap.size<=r/\b'≠r/\w.heap.size<=m'/\m'≠r/\m'≠b'
theorem Wj(m:Nat)(w):(binOp .eql 163 (.map (some m)) (.map none)).run prog w=.ok (.bool false) w:=by kernel_rfl
attribute [local go_sem] Wj
theorem Qf9.step{l:List Qx}{b' m' r:Nat}{wr}{lm U:List Qx}(h:Qf9 A w l b' m' r wr lm U)(J:(l.map Qx.id).Nodup){x:Qx}(hx:x∈lm){w2 w3 w4 w5 w6 w7}
  (u:Kj w2 A.m r (Xy Qx.id A.ad l) (Vu x.id (Xy Qx.id A.ad lm))) (q:Qc (λk=>k=r) wr w2) (ah:w3=w2.alloc (.cells (Pn x (A.vl x.id) (A.pf x.id) (A.pt x.id)) 147))
  (c4:Qc Qb w3 w4) (c5:Qc Qb w4 w5) (c6:Qc Qb w5 w6) {vb:Value} {pf pt:Nat} (hl:Do vb x.limit w4 (Qn Qb w3 w4)) (hf:J0 w5 (Qn Qb w4 w5) pf x.mem) (ht:Jg w6 (Qn Qb w5 w6) pt x.tree)
  (ai:w7=((w6.setCell ⟨w2.heap.size,4,none⟩ vb).setCell ⟨w2.heap.size,5,none⟩ (ptr pf)).setCell ⟨w2.heap.size,6,none⟩ (ptr pt)) (ay:A.m<w.heap.size):
  Qh w7 b' #[.map (some m')] 165/\∃K,(Instr.mapUpdate 163 (.map (some m')) (ZI x.id) (ZP w2.heap.size)).run prog w7=.ok () K/\
   Qf9 A w l b' m' r K (Kp Qx.id x.id lm) (U++[x])/\Dq K r<Dq wr r:=by
 obtain⟨B,G',ak,al,aa⟩:=h.co;obtain⟨n1,n2,n3,n4,n5,n6⟩:=h.nb;have ae:=J.sublist (h.sub.map Qx.id);have s1:=h.chg.size;have s2:=q.size;have aj:Qc Qb w2 w3:=by rw[ah];exact(Zg _ _).alloc _
 have ab:Qh w3 w2.heap.size (Pn x (A.vl x.id) (A.pf x.id) (A.pt x.id)) 147:=by rw[ah];exact Qh.new _ _ _
 have ac:=ab.lt;have s4:=c4.size;have s5:=c5.size;have s6:=c6.size;have ax:r<w2.heap.size:=by obtain⟨o2,h2,_⟩:=u.walk;exact(Z2.1 h2).1
 have an:=c6.blk (c5.blk (c4.blk ab (λh=>h)) (λh=>h)) (λh=>h);have R:Qc (λk=>k=w2.heap.size) w6 w7:=by rw[ai];exact(((Zg (λk=>k=w2.heap.size) w6).setCell (a:=⟨w2.heap.size,4,none⟩) _ (.inl rfl)).setCell (a:=⟨w2.heap.size,5,none⟩) _ (.inl rfl)).setCell (a:=⟨w2.heap.size,6,none⟩) _ (.inl rfl)
 have ao:Qh w7 w2.heap.size (Pn x vb pf pt) 147:=by rw[ai];exact((an.set' 4 vb rfl).set' 5 (ptr pf) rfl).set' 6 (ptr pt) rfl
 have hX:=Qq8 (A:=B) c4 c5 c6 ac R hl hf ht ao;have d:Qc Qb w2 w7:=(((aj.aA c4).aA c5).aA c6).trans R (λk e=>.inr (by rw[e];exact Zv _));have s7:=d.size;have c:=q.blk h.blk (by omega);have aw:=c.lt;have V:=al.aB (Um.obj B) q (λk I e=>(aa k I).2.1 e);have Z:=(V.aB (Um.obj B) d (Jl.none G')).imp (Is':=Um (B.put x.id w2.heap.size vb pf pt)) (λy hy G2 au=>by
  have af:y.id≠x.id:=λe=>by have hn:=((h.perm.map Qx.id).nodup_iff).2 J;rw[List.map_append,List.nodup_append]at hn;exact hn.2.2 _ (Z3.2 ⟨y,hy,rfl⟩) _ (Z3.2 ⟨x,hx,rfl⟩) e
  refine⟨?_,?_⟩;·show B.ad y.id=(if y.id=x.id then w2.heap.size else B.ad y.id);rw[if_neg af]
  .rw[Qgu af];exact au.2)
 obtain⟨K,ar,ap,c8⟩:=X6 (P:=prog) Z.map underlying163 underlying3 x.id (ZP w2.heap.size);have aq:Hn Qx.id x.id U=none:=by
  cases ha:Hn Qx.id x.id U with
  |none=>rfl
  |some y=> obtain⟨hy,av⟩:=Y3 ha;have hn:=((h.perm.map Qx.id).nodup_iff).2 J;rw[List.map_append,List.nodup_append]at hn;exact(hn.2.2 _ (Z3.2 ⟨y,hy,rfl⟩) _ (Z3.2 ⟨x,hx,rfl⟩) av).elim
 have am:=Z.put (Um.obj _) hX (λk a b2=>by
  have h1:=((Qr k).1 a).1;have:=V.bd k b2;omega) aq ap c8
 have E:Qc (λk=>k=m') w2 K:=(d.none).aA c8;have z:Kj K A.m r (Xy Qx.id A.ad l) (Vu x.id (Xy Qx.id A.ad lm)):=u.aB E (by omega) (by omega);have ag:=O8 (key:=Qx.id) ae hx;refine⟨d.blk c (λh=>h),K,ar,⟨?_,List.filter_sublist.trans h.sub,?_,?_,E.blk c (by omega),⟨B.put x.id w2.heap.size vb pf pt,_,ak,am,?_⟩,h.nb⟩,?_⟩;·rw[<-Hr];exact z
 .refine List.Perm.trans ?_ h.perm;rw[List.append_assoc];exact List.Perm.append_left U ag.symm
 .exact(h.chg.trans q (λk e=>.inr (by rw[e];omega))).trans E (λk e=>.inr (by rw[e];omega))
 .intro k I;rcases I with I|I;·exact aa k I
  .rcases(Qr k).1 I with⟨h1,_⟩;omega
 .rw[z.left_eq,h.it.left_eq,Hr];have:=ag.length_eq;simp only[Xy,List.length_map,Zm]at*;omega
end
end
end Go.Proofs.YtigcnnkagkbflaaGreat
