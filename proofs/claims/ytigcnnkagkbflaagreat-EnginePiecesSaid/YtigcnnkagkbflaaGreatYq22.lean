/- A part of the proof: no condition. -/
import Derived.Test.YtigcnnkagkbflaaGreatYq21
import Derived.OwnWalk
namespace Go.Proofs.YtigcnnkagkbflaaGreat
set_option linter.unusedVariables false
set_option maxRecDepth 100000
set_option maxHeartbeats 4000000
open Go.RowKit
open Go.Proofs.Tryz
attribute [local go_sem] Qp
attribute [local irreducible] Kl J9 Xo
section
variable{A:Tb}{w w1 w2:World}{F:Fp}{b a:Nat}{s:Qf}{N:Nat}{l:Qw}
theorem Qlq{p:Jr}(c:s.tree.at p.cls=none):s.aQ p=81:=by unfold Qf.aQ;rw[c]
theorem Qil{p:Jr}{c:Vm}(d:s.tree.at p.cls=some c)(k:c.sp.leaf=false):s.aQ p=162:=by unfold Qf.aQ;rw[d];simp[k]
theorem Qlp{p:Jr}{c:Vm}(u:s.tree.at p.cls=some c)(d:c.sp.leaf=true)(z:s.leaf p.cls=some l)(E:s.most<65536):s.aQ p=if Eo p.len s.most≠0 then Eo p.len s.most else D8 l.pk l.bt l.q p:=by
 unfold Qf.aQ;rw[u];simp only[d,z];rw[if_neg (by simp)];split;·rfl
 .rename_i k;have q:¬(p.len<1\/65535<p.len):=by
   unfold Eo at k;intro B;apply k;split;·decide
   .rw[if_pos (by omega)];decide
  unfold D8;rw[if_neg q]
theorem Qbn(h:Qt w F b s)(ok:Xp N s)(hN:N<549755813000)(p:Jr)(now:Nat)(aj:now<18446744073709551616):
  ZW 60 #[ptr b,.agg (ZL p),ZU now] w (ZI (s.aQ p)) λw'=>Qt w' (Qn F w w') b (s.push p now)/\Qc F w w':=by
 obtain⟨A,h⟩:=h;have ag:=(Qi.obj A).bd h;obtain⟨W,hW⟩:=Zx (w.alloc (.cells (ZL p) 31));have S0:Hi (Qh W w.heap.size (ZL p) 31):=O (by rw[hW];exact Qh.new _ _ _);have C0:Hi (Qc Qb w W):=O (by rw[hW];exact(Zg _ _).alloc _);have hP:=(Qi.obj A).aB h C0.o (Jl.none F);have HN:=O (Ku hP ok.most.1);have NF:Hi (¬F w.heap.size):=O (λhk=>by have:=ag _ hk;omega);have ai:Bd F W:=ag.later C0.o;have bp:Hi (w.heap.size<W.heap.size):=O (Qh.lt S0.o);have ah:=O (λw'(c:Qc Qb W w')=>(Qi.obj A).aB hP c (Jl.none F));have K:Hi (∀w' t,Qt w' (Qn F W w') b t->Qc F W w'->Qt w' (Qn F w w') b t/\Qc F w w'):=O (λw' t z h2=>by
  have cc:Qc F w w':=C0.o.none.aA h2;exact⟨Qt.obj.more z (Ke C0.o.size) (ag.ext cc),cc⟩)
 have R:Hi (∀w',Qc Qb W w'->s.aQ p≠0->Qt w' (Qn F w w') b (s.push p now)/\Qc F w w'):=O (λw' cc e=>by
  rw[Qnm e];obtain⟨p1,p2⟩:=Qt.obj.same ⟨A,hP⟩ cc;exact K.o w' _ p1 p2)
 have HG:Hi (∀w',Qc Qb W w'->ZW 23 #[ptr A.tb,ZI p.cls] w' (.tuple #[.agg (Es (s.tree.get p.cls).sp),.bool (s.tree.at p.cls).isSome]) λbo=>Qc Qb w' bo):=O (λw' cc=>by
  obtain⟨G,hT,_⟩:=(ah.o w' cc).treeOf;exact Ob hT p.cls)
 have az:=O (λw'=>Rn p s.most w');have EM:Hi (Cp p s.most=Eo p.len s.most):=O (rfl);have HA:=O hP.blk;obtain⟨is,au⟩:=Zx ((s.tree.at p.cls).isSome);rw[<-au]at HG;have ax:=O au;clear au;obtain⟨gs,ar⟩:=Zx ((s.tree.get p.cls).sp);rw[<-ar]at HG;have be:=O ar;clear ar;have OK:=O ok;have HP:=O hP;have I:=O ai;have an:=O hN;have aa:=O aj;clear h ag ok hP ai hN aj;apply WH func60;go_wp2_with fail;rw[<-hW];clear hW;apply Zy HN;rintro w1 rfl;go_wp2_with fail;go_cut [7,8] (λs7 s8 wz=>(∃r,s7=ZP r/\Qh wz r (Es gs) 29)/\s8=.bool is/\Qc Qb W wz)
 case first=>
  refine Ui (.lookp 0 (.lookp 1 (.lookp 2 (.lookp 3 (.lookp 4 (.lookp 5 (.fork 6 (.lookp 7 (.lookp 8 (.lookp 9 (.walk 10 (.walk 11 (.walk 12 .nil)))))) 10 (.walk 6 (.look 7 (.look 8 (.lookp 9 (.walk 11 (.walk 12 .nil))))))))))))) (λwv=>Qc (Qb) (W) wv) Zq (by kernel_rfl) (λ_ _ _ _ _ h=>h) Z0 ?_;simp only[O0,Zf,Ze,Zd];iterate 3 (first|refine Vd (h:=?_)|refine Xi (h:=?_);try simp only[Act.put,Za,Zc,Zb])
  iterate 1 (apply YL λ_ hv=>Ym (hv.blk HA.o (λh=>h)))
  iterate 1 (first|refine Vd (h:=?_)|refine Xi (h:=?_);try simp only[Act.put,Za,Zc,Zb])
  iterate 1 (apply YL λ_ hv=>(X9 (hv.blk S0.o (λh=>h))))
  refine Gn ?_ ?_
  .go_wp2_with fail;apply Z9 (HG.o _ (Zg Qb W).drew) (λ_ c2=>(Zg Qb W).drew.aA c2);intro w2 C2;go_wp2_with fail;refine⟨C2.o,?_⟩;iterate 3 (first|refine Vd (h:=?_)|refine Xi (h:=?_);try simp only[Act.put,Za,Zc,Zb])
   refine Xt ?_;go_wp2_with fail;refine⟨C2.o.alloc _,?_⟩;obtain⟨W3,s3,ac,C3⟩:=Q0 (P:=prog) (vs:=Es gs) (Qh.new w2 Z5 29) rfl (Hl _);have D3:Hi (Qc Qb W W3):=O ((C2.o.alloc _).trans C3 (λk e=>.inr (by have:=C2.o.size;omega)));have al:=O ac;clear ac C3;refine Xt ?_;go_wp2_with fail;refine⟨D3.o,?_⟩;refine Xt ?_;go_wp2_with fail;refine⟨D3.o,?_⟩;refine U9 ?_;clear s3;go_wp2_with fail;go_meet;exact⟨⟨_,rfl,al.o⟩,rfl,D3.o⟩
  .go_wp2_with fail;refine⟨((Zg Qb W).drew.alloc _),?_⟩;have CA:=O ((Zg Qb W).drew.alloc (.cells Z5 29));have BA:Hi (Qh (W.drew.alloc (.cells Z5 29)) W.heap.size Z5 29):=O (Qh.new W.drew _ _);refine Xt ?_;go_wp2_with fail;refine(HG.o _ CA.o).mono ?_;rintro e w2⟨rfl,c2⟩;obtain⟨W3,s3,ac,C3⟩:=Q0 (P:=prog) (vs:=Es gs) (c2.blk BA.o (λh=>h)) rfl (Hl _);have C2:=O (CA.o.aA c2);have D3:Hi (Qc Qb W W3):=O (C2.o.trans C3 (λk e=>.inr (by omega)));have al:=O ac;clear ac C3 c2;go_wp2_with fail;refine⟨C2.o,?_⟩;iterate 3 (first|refine Vd (h:=?_)|refine Xi (h:=?_);try simp only[Act.put,Za,Zc,Zb])
   refine Xt ?_;go_wp2_with fail;refine⟨D3.o,?_⟩;refine Xt ?_;go_wp2_with fail;refine⟨D3.o,?_⟩;refine U9 ?_;clear s3;go_wp2_with fail;go_meet;exact⟨⟨_,rfl,al.o⟩,rfl,D3.o⟩
 case rest=>
  obtain⟨⟨r,rfl,hR⟩,rfl,cW⟩:=hcut;obtain⟨V,hV⟩:=Zx wc;rw[<-hV]at cW hR|-;clear hV;have CV:=O cW;clear cW;cases is with
  |false=>
   have E:=O (show s.aQ p=81 by
    have z:=ax.o;cases hc:s.tree.at p.cls with
    |none=>exact Qlq hc
    |some x=>rw[hc]at z;cases z)
   have u:=O (R.o V CV.o (by rw[E.o];decide));clear hR;go_wp2_with fail;go_ret;exact⟨by rw[E.o];rfl,u.o⟩
  |true=>
   obtain⟨c,hc,bm⟩:∃c,s.tree.at p.cls=some c/\gs=c.sp:=by
    have z:=ax.o;cases hc:s.tree.at p.cls with
    |none=>rw[hc]at z;cases z
    |some x=>exact⟨x,rfl,by rw[be.o,Qda _ hc]⟩
   subst bm;obtain⟨y0,y1,y2,_⟩:=(show Xx V r c.sp from hR).cells;cases B:c.sp.leaf with
   |false=> have E:Hi (s.aQ p=162):=O (Qil hc B);have u:=O (R.o V CV.o (by rw[E.o];decide));rw[B]at y2;clear hR hc B y0 y1;go_wp2_with fail;go_ret;exact⟨by rw[E.o];rfl,u.o⟩
   |true=>
    obtain⟨l,hl⟩:=OK.o.lv _ _ hc B;have E:=O (Qlp hc B hl OK.o.most.2);rw[B]at y2;clear hR hc B y0 y1;go_wp2_with fail;clear y2;have a0:=Ym (CV.o.drew.blk HA.o (λh=>h));have U:=X9 (CV.o.drew.blk S0.o (λh=>h));apply XB 2200000;apply YA 0;clear a0 U;go_wp2_with fail;apply Zz (az.o _);intro w4 c4;rw[EM.o];have C4:=O (CV.o.drew.aA c4);clear c4;go_wp2_with fail;apply YI 0;by_cases h0:Eo p.len s.most=0
    .have E1:=O (show s.aQ p=D8 l.pk l.bt l.q p by rw[E.o,if_neg (by rw[h0];decide)]);rw[h0];clear h0;go_wp2_with fail;obtain⟨qb,dv,ba,⟨Gd,bl⟩,ae⟩:=HP.o.qPush hl p;have bj:=O ae;have bg:=O ba;have HL:=O hl;have lk:=(ah.o _ C4.o.drew).look1 p.cls;rw[G7 hl]at lk;have a0:=Ym (C4.o.drew.blk HA.o (λh=>h));have U:=X9 (C4.o.drew.blk S0.o (λh=>h));clear ba bl ae hl;apply XB 20000000;apply YA 0;clear a0 U lk;go_wp2_with fail;refine Jo ?_;go_wp2_with fail;have y0:=Q4 (C4.o.drew.drew.blk bg.o (λh=>h));have U:=X9 (C4.o.drew.drew.blk S0.o (λh=>h));apply XB 2200000;apply YA 0;clear y0 U;go_wp2_with fail;apply Zz (bj.o _ C4.o.drew.drew);rintro w5⟨bd,ak⟩;have bh:=O bd;have a6:=O ak;clear bd ak;go_wp2_with fail;apply YI 0;by_cases z:D8 l.pk l.bt l.q p=0
     .have E0:=O (E1.o.trans z);have PS:=O (Ct (now:=now) E0.o HL.o);obtain⟨c5,h5,a8,rq,bb⟩:=a6.o z;have H5:=O h5;have C5:=O c5;have af:=O a8;have J:=O (Qin bb);obtain⟨n1,av⟩:=Zx ((l.q++[p]).length);rw[<-av]at J;have a5:=O av;rw[z];have y0:=Q4 af.o;clear z h5 c5 a8 bb av;by_cases hq:l.q=[]
      .have hz:n1=1:=by rw[a5.o,hq];rfl
       subst hz;rw[show((1:Nat):Int)=1 from rfl]at J;have a7:=O (PS.o.trans (if_neg (by simpa using hq)));clear hq;go_wp2_with fail;apply Zy J;rintro w6 rfl;have am:Hi (l.id=p.cls):=O ((Y3 (show Hn Qw.id p.cls s.aI=some l from HL.o)).2);have ay:Hi ((s.aR {l with q:=l.q++[p]}).leaf p.cls=some {l with q:=l.q++[p]}):=O (Oz HL.o am.o);cases hd:l.debt with
       |none=>
        have aq:dv=.pointer none:=H5.o.noDebt ay.o af.o hd;have ab:=O (show s.owe {l with q:=l.q++[p]} (λd=>d.wake now p.len)=s.aR {l with q:=l.q++[p]} by unfold Qf.owe;dsimp only;rw[hd]);subst aq;clear hd;go_wp2_with fail;clear y0;have a0:=Ym H5.o.drew.blk;have U:=X9 (Qc.blk C5.o.drew S0.o NF.o);have ao:=O (H5.o.pickWake (dep:=Xk s.tree) OK.o.pick an.o p.cls now aa.o);apply XB 20000000;apply YA 0;clear a0 U;go_wp2_with fail;apply Zz (ao.o _ (Zg Qb w5).drew);rintro w9⟨h9,c9⟩;obtain⟨n1,n2⟩:=(Qi.obj A).two h9 I.o C5.o c9;have u:=O (K.o w9 (s.push p now) (by rw[a7.o,ab.o];exact⟨A,n1⟩) n2);clear h9 c9 n1 n2;go_wp2_with fail;refine Jo ?_;go_wp2;go_ret;exact⟨by rw[E0.o];rfl,u.o⟩
       |some d=>
        obtain⟨dg,dn,_⟩:=(OK.o.at HL.o).1.debt d hd;obtain⟨q,aq,bc⟩:=H5.o.wakeDebt ay.o af.o (d:=d) hd (by have:=an.o;omega) dg now aa.o p.len;have ab:=O (show s.owe {l with q:=l.q++[p]} (λd=>d.wake now p.len)={s.aR {l with q:=l.q++[p],debt:=some (d.wake now p.len)}with row:=Hj s.row p.cls (d.wake now p.len)} by unfold Qf.owe;dsimp only;rw[hd,am.o]);have bk:=O bc;subst aq;clear hd bc dg dn;go_wp2_with fail;clear y0;have y0:=Q4 af.o.drew;have U:=X9 (Qc.blk C5.o.drew S0.o NF.o);apply XB 20000000;apply YA 0;clear y0 U;go_wp2_with fail;apply Zz (bk.o _ (Zg Qb w5).drew);rintro w7⟨h7,c7,a9⟩;obtain⟨m1,m2⟩:=(Qi.obj A).two h7 I.o C5.o c7;have H7:=O (show Qi A w7 (Qn F W w7) b (s.aR {l with q:=l.q++[p],debt:=some (d.wake now p.len)}) by
         rw[<-Rz (s:=s) (l1:={l with q:=l.q++[p]}) (l2:={l with q:=l.q++[p],debt:=some (d.wake now p.len)}) rfl];exact m1)
        have C7:=O m2;have aw:=O a9;have bf:Hi ((s.aR {l with q:=l.q++[p],debt:=some (d.wake now p.len)}).leaf p.cls=some {l with q:=l.q++[p],debt:=some (d.wake now p.len)}):=O (Oz HL.o am.o);have bi:=O (H7.o.noteDebt bf.o aw.o rfl (HP.o.row_len OK.o));clear h7 c7 a9 m1 m2;go_wp2_with fail;refine Jo ?_;go_wp2_with fail;have a0:=Ym H7.o.drew.blk;have y0:=Q4 aw.o.drew;have U:=X9 (Qc.blk C7.o.drew S0.o NF.o);apply XB 20000000000;apply YA 0;clear a0 y0 U;go_wp2_with fail;apply Zz (bi.o _ (Zg Qb w7).drew);rintro w8⟨h8,c8⟩;obtain⟨m1,m2⟩:=(Qi.obj A).two h8 I.o C7.o c8;have H8:=O m1;have C8:=O m2;clear h8 c8 m1 m2;go_wp2_with fail;refine Jo ?_;go_wp2_with fail;have a0:=Ym H8.o.drew.blk;have U:=X9 (Qc.blk C8.o.drew S0.o NF.o);have ao:=O (H8.o.pickWake (dep:=Xk s.tree) OK.o.pick an.o p.cls now aa.o);apply XB 20000000;apply YA 0;clear a0 U;go_wp2_with fail;apply Zz (ao.o _ (Zg Qb w8).drew);rintro w9⟨h9,c9⟩;obtain⟨n1,n2⟩:=(Qi.obj A).two h9 I.o C8.o c9;have u:=O (K.o w9 (s.push p now) (by rw[a7.o,ab.o];exact⟨A,n1⟩) n2);clear h9 c9 n1 n2;go_wp2_with fail;refine Jo ?_;go_wp2;go_ret;exact⟨by rw[E0.o];rfl,u.o⟩
      .have hd:decide ((1:Int)<(n1:Int))=true:=by have:=a5.o;have h0:l.q.length≠0:=λe=>hq (List.eq_nil_of_length_eq_zero e);simp at this|-;omega
       have bq:decide (1<n1)=true:=by simp at hd|-;omega
       have u:=O (K.o w5 (s.push p now) (by rw[PS.o,if_pos hq];exact⟨A,H5.o⟩) C5.o);clear hq;go_wp2_with fail;apply Zy J;rintro w6 rfl;go_wp2_with fail;go_ret;exact⟨by rw[E0.o];rfl,u.o⟩
     .have u:=O (R.o w5 (C4.o.drew.drew.aA (bh.o z)) (by rw[E1.o];exact z));have hd:decide (D8 l.pk l.bt l.q p=0)=false:=by simpa using z
      have ap:(D8 l.pk l.bt l.q p==0)=false:=by simpa using z
      generalize D8 l.pk l.bt l.q p=er at hd ap E1|-;clear z;go_wp2_with fail;go_ret;exact⟨by rw[E1.o];rfl,u.o⟩
    .have E1:=O (show s.aQ p=Eo p.len s.most by rw[E.o,if_pos h0]);have u:=O (R.o w4 C4.o (by rw[E1.o];exact h0));have hd:decide (Eo p.len s.most=0)=false:=by simpa using h0
     have ap:(Eo p.len s.most==0)=false:=by simpa using h0
     generalize Eo p.len s.most=er at hd ap E1|-;clear h0;go_wp2_with fail;go_ret;exact⟨by rw[E1.o];rfl,u.o⟩
end
def Pm(l:List Jr):Jr:=l.headD Jr.zero
def Qhg(l:List Jr):Bool:=!l.isEmpty
theorem Qse{w}{b r d c:Nat}{l:List Jr}(h:Jz w b r d c l):
  ZW 96 #[ZP b] w (.tuple #[.agg #[ZU (Pm l).id,ZI (Pm l).cls,ZI (Pm l).len,ZU (Pm l).at_],.bool (Qhg l)]) λw'=>Qc Qb w w':=by
 cases l with
 |nil=>exact Qa9 h
 |cons p l=>exact Qba h
theorem Qpr{w}{b r q c:Nat}{l:List Jr}(h:Jz w b r q c l):
  Cl 95 #[ZP b] w λe w'=>e=.returned (.tuple #[.agg #[ZU (Pm l).id,ZI (Pm l).cls,ZI (Pm l).len,ZU (Pm l).at_],.bool (Qhg l)])/\
   Jz w' b r q c l.tail/\Qc (λk=>k=b) w w':=by
 cases l with
 |nil=>exact(Qps h).mono λe w'⟨u,d⟩=>⟨u,h.aB d (λh=>h) (λh=>h),d.mono λ_ h=>h.elim⟩
 |cons p l=>exact Qpt h
def pkA(p:Jr):Array Value:=(ZL p)
theorem Qt5(p:Jr):∀v∈(pkA p).toList,v.oneCell'=true:=by intro v c;simp only[pkA,Zu,List.not_mem_nil,or_false]at c;rcases c with rfl|rfl|rfl|rfl<;>rfl
def chA(p:Jr)(rule c:Nat):Array Value:=#[ZU p.id,ZI p.cls,ZI p.len,ZU p.at_,.int .u8 rule,ZU c]
theorem Iy(p:Jr)(r d:Nat):∀v∈(chA p r d).toList,v.oneCell'=true:=by intro v c;simp only[chA,Zu,List.not_mem_nil,or_false]at c;rcases c with rfl|rfl|rfl|rfl|rfl|rfl<;>rfl
section
variable{A:Tb}{w w1 w2:World}{F:Fp}{b a:Nat}{s:Qf}{N:Nat}{l:Qw}
theorem Qtl(l:List Jr):Qhg l=decide (l≠[]):=by cases l<;>simp[Qhg]
theorem Qi.qPop(h:Qi A w F b s){i:Int}(hl:s.leaf i=some l):∃c z,Qh w (A.ad i) #[ptr c,z] 107/\
  ∀w1,Qc Qb w w1->Cl 95 #[ptr c] w1 λe w2=>e=.returned (.tuple #[.agg (pkA (Pm l.q)),.bool (Qhg l.q)])/\
   Qc F w w2/\Qi A w2 (Qn F w w2) b (s.aR {l with q:=l.q.tail})/\Qh w2 (A.ad i) #[ptr c,z] 107/\∃r,Jz w2 c r l.pk l.bt l.q.tail:=by
 obtain⟨c,z,U,⟨G,I,u⟩,_⟩:=h.openLeaf hl;refine⟨c,z,U,λw1 B=>?_⟩;obtain⟨r,V,K,R,g3⟩:=(Lm c l.pk l.bt l.q).aB I B (Jl.none _);apply Zz (Qpr V);rintro w2⟨d,J⟩;have E:Qc G w w2:=(B.none (F:=G)).aA (J.sub λk Z=>by rcases Z with rfl;assumption);obtain⟨m1,m2,m3⟩:=u w2 l.q.tail ⟨r,d,.inl K,.inl R,((Lm c l.pk l.bt l.q).bd I).ext E⟩ E;exact⟨rfl,m2,m1,m3,r,d⟩
theorem Qi.serveDebt(h:Qi A w F b s){i:Int}(hl:s.leaf i=some l){K:Nat}{I:Value}(V:Qh w (A.ad i) #[ptr K,I] 107){d:Ju}(Z:l.debt=some d)(hn:d.run.l.length<549755813888)(hg:d.got<=Xw)(rule:Nat)(B u:Int):
  ∃q,I=ptr q/\(∀w1,Qc Qb w w1->ZW 97 #[ptr q] w1 (ZU (d.dueAt:Nat)) λw2=>w1=w2)/\
   ∀w1,Qc Qb w w1->ZW 98 #[ptr q,.int .u8 rule,ZI B,ZI u] w1 (.tuple #[]) λw2=>Qi A w2 (Qn F w w2) b (s.aR {l with debt:=some (d.serve rule B u)})/\Qc F w w2/\Qh w2 (A.ad i) #[ptr K,I] 107:=by
 obtain⟨q,hq,_⟩:=h.debtStep hl V Z;have key:∀w1,Qc Qb w w1->∃G:Fp,Ye w1 G q d/\∀w' U,Ye w' (Qn G w1 w') q U->Qc G w1 w'->Qi A w' (Qn F w1 w') b (s.aR {l with debt:=some U})/\Qc F w1 w'/\Qh w' (A.ad i) #[ptr K,I] 107:=by intro w1 z;have h1:=(Qi.obj A).aB h z (Jl.none F);obtain⟨q',c,G,E,k⟩:=h1.debtStep hl (z.blk V (λh=>h)) Z;rw[hq]at c;injection c with c;injection c with c;injection c with c _;subst c;exact⟨G,E,k⟩
 refine⟨q,hq,λw1 z=>?_,λw1 z=>?_⟩;·obtain⟨G,E,_⟩:=key w1 z;exact Cb E
 .obtain⟨G,E,k⟩:=key w1 z;apply Zz (Qgw E hn hg rule B u);rintro w2⟨J,c2⟩;obtain⟨m1,m2,m3⟩:=k w2 _ J c2;have R:Qc F w w2:=z.none.aA m2;exact⟨rfl,(Qi.obj A).more m1 (Ke z.size) (((Qi.obj A).bd h).ext R),R,m3⟩
theorem Qi.pickSent(h:Qi A w F b s){dep:Int->Nat}(V:Qs dep N s.pick)(J:N<549755813000)(i:Int)(g:Nat)(K:g<18446744073709551616)(c:Bool):
  ∀w1,Qc Qb w w1->ZW 100 #[ptr A.pb,ZI i,ZU g,.bool c] w1 (.tuple #[]) λw2=>Qi A w2 (Qn F w w2) b {s with pick:=s.pick.sent i g c}/\Qc F w w2:=by
 intro w1 k;have E:=(Qi.obj A).aB h k (Jl.none F);obtain⟨H,⟨z,I⟩,_,d⟩:=E.pickOf;apply Zz (Qlm I V J i g K c);rintro w2⟨q,B⟩;obtain⟨R,U⟩:=d w2 _ ⟨z,q⟩ B;have u:Qc F w w2:=k.none.aA U;exact⟨rfl,(Qi.obj A).more R (Ke k.size) (((Qi.obj A).bd h).ext u),u⟩
end
section
variable{A:Tb}{w w1 w2:World}{F:Fp}{b a:Nat}{s:Qf}{N:Nat}{l:Qw}
theorem Lv{d:Func}{p:Tmp}{ty:TypeId}(h:d.results=#[.cell p ty])(c:Array Value)(P:Program)(w):
  (results d c).run P w=((asAddr (c.getD p undef)).run P w).andThen λa k=>(loadVar ty a).run P k:=by
 simp only[results,h];simp[Sem.run_bind,Result.andThen]
theorem Qme(h:Qt w F b s)(ok:Xp N s)(hN:N<549755813000){id:Int}{l:Qw}(hl:s.leaf id=some l)(rule:Nat)(ay:rule<256):
  ZW 56 #[ptr b,ZI id,.int .u8 rule] w (.agg (chA (s.aX id rule).p (s.aX id rule).rule (s.aX id rule).due)) λw'=>Qt w' (Qn F w w') b (s.take id rule)/\Qc F w w':=by
 obtain⟨A,h⟩:=h;have a7:=(Qi.obj A).bd h;obtain⟨W,hW⟩:=Zx (w.alloc (.cells ZK 70));have S0:Hi (Qh W w.heap.size ZK 70):=O (by rw[hW];exact Qh.new _ _ _);have C0:Hi (Qc Qb w W):=O (by rw[hW];exact(Zg _ _).alloc _);have hP:=(Qi.obj A).aB h C0.o (Jl.none F);have NF:Hi (¬F w.heap.size):=O (λu=>by have:=a7 _ u;omega);have a9:Bd F W:=a7.later C0.o;have bm:Hi (w.heap.size<W.heap.size):=O (Qh.lt S0.o);obtain⟨qb,dv,bz,bb⟩:=hP.qPop hl;obtain⟨y0,y1⟩:=Q4 bz;have bw:=O bb;have lk:=hP.look1 id;rw[G7 hl]at lk;obtain⟨a0,a1,a2,a3,a4⟩:=Ym hP.blk;have HP:=O hP;have OK:=O ok;have HL:=O hl;have am:=O a9;have b3:=O a7;have ao:=O hN;have HR:=O ay;clear h a7 ok hP a9 hN ay bb hl bz;apply WH func56;rw[hW]at a0 a1 a2 a3 a4 y0 y1 lk;go_wp2_with fail;rw[<-hW];rw[<-hW]at a0 a1 a2 a3 a4 y0 y1 lk;clear hW;apply Zz (bw.o W (Zg _ _));rintro w2⟨c2,h2,bo,rq,b0⟩;obtain⟨W3,s3,a6,C3⟩:=Q0 (P:=prog) (vs:=pkA (Pm l.q)) (Qh.new w2 #[ZU 0,ZI 0,ZI 0,ZU 0] 31) rfl (Qt5 _);obtain⟨c,bq⟩:=Zx (Pm l.q);rw[<-bq]at s3 a6|-;have ac:=O bq;clear bq;have b2:Hi (Qc Qb w2 W3):=O (((Zg Qb w2).alloc _).trans C3 (λk e=>.inr (by omega)));have p0:=X9 (show Qh W3 w2.heap.size (ZL c) 31 from a6);obtain⟨W4,aw⟩:=Zx (W3.alloc (.cells #[ZU c.id,ZI c.cls,ZI c.len,ZU c.at_,.int .u8 rule,ZU (0:Int)] 70));have bv:Hi (Qh W4 W3.heap.size #[ZU c.id,ZI c.cls,ZI c.len,ZU c.at_,.int .u8 rule,ZU (0:Int)] 70):=O (by rw[aw];exact Qh.new _ _ _);have bs:Hi (Qc Qb W3 W4):=O (by rw[aw];exact(Zg _ _).alloc _);have CV:=O (b2.o.aA bs.o);have HH:=O (Qse (b0.aB CV.o (λh=>h) (λh=>h)));obtain⟨nx,br⟩:=Zx (Pm l.q.tail);rw[<-br]at HH;have b4:=O br;have H2:=O h2;have C2:=O c2;have bt:=O bo;have bu:=O a6;obtain⟨z0,U⟩:=Q4 (CV.o.blk bo (λh=>h));rw[aw]at z0 U;clear h2 c2 bo a6 b0 C3 a0 a1 a2 a3 a4 y0 y1 lk br;go_wp2_with fail;rw[<-aw];clear aw z0 U s3 p0;apply Zy HH;intro w5 c5;obtain⟨W6,I⟩:=Zx (w5.alloc (.cells (ZL nx) 31));have be:Hi (Qc Qb W4 W6):=O (by rw[I];exact c5.alloc _);have CN:=O (CV.o.aA be.o);have a5:Hi (Qh W6 w5.heap.size (ZL nx) 31):=O (by rw[I];exact Qh.new _ _ _);have ai:=O (be.o.blk bv.o (λh=>h));have T8:Hi (Qh W6 w2.heap.size (ZL c) 31):=O ((bs.o.aA be.o).blk bu.o (λh=>h));have T6:=O ((C2.o.aA (CN.o.none (F:=F))).blk S0.o NF.o);have B:=O (CN.o.blk bt.o (λh=>h));have H6:=O ((Qi.obj A).aB H2.o CN.o (Jl.none _));have bc:=O ((am.o.ext C2.o).later CN.o);have bg:Hi ((s.aR {l with q:=l.q.tail}).leaf id=some {l with q:=l.q.tail}):=O (Oz HL.o (Y3 (show Hn Qw.id id s.aI=some l from HL.o)).2);have bi:Hi (l.id=id):=O ((Y3 (show Hn Qw.id id s.aI=some l from HL.o)).2);have SZ:Hi (W.heap.size<=w2.heap.size/\w2.heap.size<W3.heap.size/\W3.heap.size<w5.heap.size/\w5.heap.size<W6.heap.size):=O (⟨C2.o.size,bu.o.lt,Nat.lt_of_lt_of_le bv.o.lt c5.size,a5.o.lt⟩);clear c5;have ak:Hi (∀V w7 w8 t,Qc Qb w2 V->Qi A w7 (Qn (Qn F W w2) V w7) b t->Qc (Qn F W w2) V w7->Qc (λk=>k=w.heap.size) w7 w8->Qt w8 (Qn F w w8) b t/\Qc F w w8):=O (λV w7 w8 t cV h1 h2 h3=>by
  have U:=C0.o.size;have z2:=C2.o.size;have z3:=cV.size;have z4:=h2.size;have z5:=h3.size;have z6:=bm.o;have c1:Qc F w V:=((C0.o.none (F:=F)).aA C2.o).aA cV.none;have c2:Qc F w w7:=c1.trans h2 (λk u=>u.elim .inl (λu=>.inr (by omega)));have c3:Qc F w w8:=c2.trans h3 (λk e=>.inr (by omega));have h4:=(Qi.obj A).aB h1 h3 (λk u e=>by
   subst e;rcases u with(u|u)|u;·exact NF.o u
   .omega
   .omega)
  refine⟨⟨A,(Qi.obj A).more h4 (λk u=>?_) (b3.o.ext c3)⟩,c3⟩;rcases u with(u|u)|u;·exact .inl u
  .exact .inr (by omega)
  .exact .inr (by omega))
 have bl:=O (Fd (rule:=rule) HL.o);have bj:=O (Qtl l.q.tail);have b8:Hi (∀V t,Qc Qb w2 V->Qi A V (Qn F W w2) b t->Qi A V (Qn (Qn F W w2) V V) b t):=O (λV t _ h=>(Qi.obj A).more h (λk u=>.inl u) (λk u=>u.elim ((Qi.obj A).bd h k) (λu=>u.2)));have J:=O (show 0<=c.len/\c.len<=65535 by
  rw[ac.o];have hg:=(OK.o.at HL.o).1.good;cases hq:l.q with
  |nil=>exact⟨by decide,by decide⟩
  |cons x t=>
   have:=(hg x (by rw[hq];simp)).1;exact⟨by have:=this.1;show 0<=x.len;omega,this.2⟩)
 have N8:Hi (¬Qn F W w2 w2.heap.size):=O (λu=>u.elim (λu=>by have:=am.o _ u;have:=C2.o.size;omega) (λu=>by omega));have az:Hi (¬Qn F W w2 W3.heap.size):=O (λu=>u.elim (λu=>by have:=am.o _ u;have:=SZ.o;omega) (λu=>by have:=SZ.o;omega));have N6:Hi (¬Qn F W w2 w.heap.size):=O (λu=>u.elim NF.o (λu=>by have:=bm.o;omega));cases hd:l.debt with
 |none=>
  have bp:dv=.pointer none:=H6.o.noDebt bg.o B.o hd;subst bp;obtain⟨z0,U⟩:=Q4 B.o;rw[I]at z0 U;have R:=O (show s.aX id rule=⟨c,rule,0⟩ by unfold Qf.aX;rw[HL.o,ac.o];dsimp only;rw[hd];rfl);have ag:=O (show s.owe {l with q:=l.q.tail} (λd=>d.serve rule (l.q.headD Jr.zero).len (l.q.tail.headD Jr.zero).len)=s.aR {l with q:=l.q.tail} by unfold Qf.owe;dsimp only;rw[hd]);clear hd;go_wp2_with fail;rw[<-I];clear I z0 U;have CR:=O (Zg (Qn F W w2) W6);have a0:=Ym H6.o.drew.blk;have g0:=X9 (Qc.blk CR.o.drew T8.o N8.o);have q1:=J.o.1;have q2:=J.o.2;have ab:=O (H6.o.pickSent (dep:=Xk s.tree) OK.o.pick ao.o id (c.len*256).toNat (by omega) (Qhg l.q.tail));rw[show(((c.len*256).toNat:Nat):Int)=c.len*256 from by omega]at ab;apply XB 20000000000;apply YA 0;clear a0 g0;go_wp2_with fail;apply Zz (ab.o _ (Zg Qb W6).drew);rintro w9⟨h9,c9⟩;have m1:=h9;have m2:=c9;have H9:=O m1;have Z:=O m2;clear h9 c9 m1 m2 q1 q2;go_wp2_with fail;refine Jo ?_;have t0:=Lf (Z.o.blk ai.o az.o);have u0:=Lf (Z.o.blk T6.o N6.o);have fz:=(Z.o.blk T6.o N6.o).frozen;have aa:=O (ak.o W6 w9 ((((((w9.setCell ⟨w.heap.size,0,none⟩ (ZU c.id)).setCell ⟨w.heap.size,1,none⟩ (ZI c.cls)).setCell ⟨w.heap.size,2,none⟩ (ZI c.len)).setCell ⟨w.heap.size,3,none⟩ (ZU c.at_)).setCell ⟨w.heap.size,4,none⟩ (.int .u8 rule)).setCell ⟨w.heap.size,5,none⟩ (ZU (0:Int))) _ CN.o H9.o Z.o (by
   refine(((((((Zg (λk=>k=w.heap.size) w9).setCell _ (.inl rfl)).setCell _ (.inl rfl)).setCell _ (.inl rfl)).setCell _ (.inl rfl)).setCell _ (.inl rfl)).setCell _ (.inl rfl))))
  have TB:Hi (Qh ((((((w9.setCell ⟨w.heap.size,0,none⟩ (ZU c.id)).setCell ⟨w.heap.size,1,none⟩ (ZI c.cls)).setCell ⟨w.heap.size,2,none⟩ (ZI c.len)).setCell ⟨w.heap.size,3,none⟩ (ZU c.at_)).setCell ⟨w.heap.size,4,none⟩ (.int .u8 rule)).setCell ⟨w.heap.size,5,none⟩ (ZU (0:Int))) w.heap.size #[ZU c.id,ZI c.cls,ZI c.len,ZU c.at_,.int .u8 rule,ZU (0:Int)] 70):=O (((((((Z.o.blk T6.o N6.o).set 0 _).set 1 _).set 2 _).set 3 _).set 4 _).set 5 _);go_wp2_with fail;clear t0 u0 fz;obtain⟨b1,z⟩:=Zx ((((((w9.setCell ⟨w.heap.size,0,none⟩ (ZU c.id)).setCell ⟨w.heap.size,1,none⟩ (ZI c.cls)).setCell ⟨w.heap.size,2,none⟩ (ZI c.len)).setCell ⟨w.heap.size,3,none⟩ (ZU c.at_)).setCell ⟨w.heap.size,4,none⟩ (.int .u8 rule)).setCell ⟨w.heap.size,5,none⟩ (ZU (0:Int)));rw[<-z]at TB aa|-;clear z;have r0:=Lf TB.o;refine bodyPost_ret (v:=.agg #[ZU c.id,ZI c.cls,ZI c.len,ZU c.at_,.int .u8 rule,ZU (0:Int)]) (by rw[Lv (p:=6) (ty:=70) (by kernel_rfl)];go_simp;try rfl) rfl ?_;rw[R.o];refine⟨rfl,?_⟩;rw[bl.o,ag.o,<-bj.o];have e:=ac.o;subst e;exact aa.o
 |some d=>
  obtain⟨dg,dn,_⟩:=(OK.o.at HL.o).1.debt d hd;obtain⟨q,bp,ba,E⟩:=H6.o.serveDebt bg.o B.o (d:=d) hd (by have:=ao.o;omega) dg rule c.len nx.len;have a8:=O ba;have R:=O (show s.aX id rule=⟨c,rule,if rule=1 then d.dueAt else 0⟩ by unfold Qf.aX;rw[HL.o,ac.o];dsimp only;rw[hd];rfl);have ag:=O (show s.owe {l with q:=l.q.tail} (λd=>d.serve rule (l.q.headD Jr.zero).len (l.q.tail.headD Jr.zero).len)={s.aR {l with q:=l.q.tail,debt:=some (d.serve rule c.len nx.len)}with row:=Hj s.row id (d.serve rule c.len nx.len)} by rw[ac.o,b4.o];unfold Qf.owe;dsimp only;rw[hd,bi.o];rfl);subst bp;have bf:=O (Zt hd (Zt dg dn));clear ba hd dg dn;obtain⟨z0,U⟩:=Q4 B.o;rw[I]at z0 U;by_cases ax:rule=1
  .have b5:decide ((rule:Int)=1)=true:=by simp;omega
   have b6:((rule:Int)==1)=true:=by simp;omega
   have b7:=O ax;have aq:=O (R.o.trans (by rw[if_pos ax]));clear ax E;go_wp2_with fail;rw[<-I];clear I z0 U;apply Zz (a8.o W6 (Zg _ _));rintro w7 rfl;have v0:=Lf ai.o;have fz:=ai.o.frozen;go_wp2_with fail;clear v0 fz;have NA:Hi (¬A.ad id=W3.heap.size):=O (λe=>by have:=bt.o.lt;have:=SZ.o;omega);have N5:Hi (¬w5.heap.size=W3.heap.size):=O (λe=>by have:=SZ.o;omega);have N2:Hi (¬w2.heap.size=W3.heap.size):=O (λe=>by have:=SZ.o;omega);have NW:Hi (¬w.heap.size=W3.heap.size):=O (λe=>by have:=SZ.o;have:=bm.o;omega);have CS:Hi (Qc (λk=>k=W3.heap.size) W6 (W6.setCell ⟨W3.heap.size,5,none⟩ (ZU d.dueAt))):=O ((Zg _ W6).setCell _ (.inl rfl));have ah:Hi (Qh (W6.setCell ⟨W3.heap.size,5,none⟩ (ZU d.dueAt)) W3.heap.size #[ZU c.id,ZI c.cls,ZI c.len,ZU c.at_,.int .u8 rule,ZU d.dueAt] 70):=O (ai.o.set 5 _);obtain⟨V,hV⟩:=Zx (W6.setCell ⟨W3.heap.size,5,none⟩ (ZU d.dueAt));rw[<-hV]at CS ah|-;clear hV;have ae:=O (CS.o.blk T6.o NW.o);have au:=O (CS.o.blk T8.o N2.o);have ar:=O (CS.o.blk a5.o N5.o);have K:=CS.o.blk B.o NA.o;have aj:=O (bc.o.later CS.o);have bd:=O (CN.o.trans CS.o (λk e=>.inr (by have:=SZ.o;omega)));have HV:=O ((Qi.obj A).aB H6.o CS.o (λk u e=>az.o (e▸u)));obtain⟨q',af,_,E⟩:=HV.o.serveDebt bg.o K (d:=d) bf.o.1 (by have:=ao.o;have:=bf.o.2.2;omega) bf.o.2.1 rule c.len nx.len;injection af with af;injection af with af;injection af with af _;subst af;have R:=aq;have an:=O K;have ap:=O E;have bh:Hi ((s.aR {l with q:=l.q.tail,debt:=some (d.serve rule c.len nx.len)}).leaf id=some {l with q:=l.q.tail,debt:=some (d.serve rule c.len nx.len)}):=O (Oz HL.o bi.o);clear K E;have z0:=Q4 an.o.drew;have g0:=X9 au.o.drew;have k0:=X9 ar.o.drew;apply XB 2000000000;apply YA 0;clear z0 g0 k0;go_wp2_with fail;apply Zz (ap.o _ (Zg Qb V).drew);rintro w7⟨h7,c7,av⟩;have H7:=O (show Qi A w7 (Qn (Qn F W w2) V w7) b (s.aR {l with q:=l.q.tail,debt:=some (d.serve rule c.len nx.len)}) by
    rw[<-Rz (s:=s) (l1:={l with q:=l.q.tail}) (l2:={l with q:=l.q.tail,debt:=some (d.serve rule c.len nx.len)}) rfl];exact h7)
   have C7:=O c7;have al:=O av;have bk:=O (H7.o.noteDebt bh.o al.o rfl (HP.o.row_len OK.o));clear h7 c7 av;go_wp2_with fail;refine Jo ?_;go_wp2_with fail;have a0:=Ym H7.o.drew.blk;have z0:=Q4 al.o.drew;apply XB 2000000000;apply YA 0;clear a0 z0;go_wp2_with fail;apply Zz (bk.o _ (Zg Qb w7).drew);rintro w8⟨h8,c8⟩;obtain⟨m1,m2⟩:=(Qi.obj A).two h8 aj.o C7.o c8;have H8:=O m1;have C8:=O m2;clear h8 c8 m1 m2;go_wp2_with fail;refine Jo ?_;go_wp2_with fail;have a0:=Ym H8.o.drew.blk;have g0:=X9 (Qc.blk C8.o.drew au.o N8.o);have q1:=J.o.1;have q2:=J.o.2;have ab:=O (H8.o.pickSent (dep:=Xk s.tree) OK.o.pick ao.o id (c.len*256).toNat (by omega) (Qhg l.q.tail));rw[show(((c.len*256).toNat:Nat):Int)=c.len*256 from by omega]at ab;apply XB 20000000000;apply YA 0;clear a0 g0;go_wp2_with fail;apply Zz (ab.o _ (Zg Qb w8).drew);rintro w9⟨h9,c9⟩;obtain⟨m1,m2⟩:=(Qi.obj A).two h9 aj.o C8.o c9;have H9:=O m1;have Z:=O m2;clear h9 c9 m1 m2 q1 q2;go_wp2_with fail;refine Jo ?_;have t0:=Lf (Z.o.blk ah.o az.o);have u0:=Lf (Z.o.blk ae.o N6.o);have fz:=(Z.o.blk ae.o N6.o).frozen;have aa:=O (ak.o V w9 ((((((w9.setCell ⟨w.heap.size,0,none⟩ (ZU c.id)).setCell ⟨w.heap.size,1,none⟩ (ZI c.cls)).setCell ⟨w.heap.size,2,none⟩ (ZI c.len)).setCell ⟨w.heap.size,3,none⟩ (ZU c.at_)).setCell ⟨w.heap.size,4,none⟩ (.int .u8 rule)).setCell ⟨w.heap.size,5,none⟩ (ZU d.dueAt)) _ bd.o H9.o Z.o (by
    refine(((((((Zg (λk=>k=w.heap.size) w9).setCell _ (.inl rfl)).setCell _ (.inl rfl)).setCell _ (.inl rfl)).setCell _ (.inl rfl)).setCell _ (.inl rfl)).setCell _ (.inl rfl))))
   have TB:Hi (Qh ((((((w9.setCell ⟨w.heap.size,0,none⟩ (ZU c.id)).setCell ⟨w.heap.size,1,none⟩ (ZI c.cls)).setCell ⟨w.heap.size,2,none⟩ (ZI c.len)).setCell ⟨w.heap.size,3,none⟩ (ZU c.at_)).setCell ⟨w.heap.size,4,none⟩ (.int .u8 rule)).setCell ⟨w.heap.size,5,none⟩ (ZU d.dueAt)) w.heap.size #[ZU c.id,ZI c.cls,ZI c.len,ZU c.at_,.int .u8 rule,ZU d.dueAt] 70):=O (((((((Z.o.blk ae.o N6.o).set 0 _).set 1 _).set 2 _).set 3 _).set 4 _).set 5 _);go_wp2_with fail;clear t0 u0 fz;obtain⟨b1,z⟩:=Zx ((((((w9.setCell ⟨w.heap.size,0,none⟩ (ZU c.id)).setCell ⟨w.heap.size,1,none⟩ (ZI c.cls)).setCell ⟨w.heap.size,2,none⟩ (ZI c.len)).setCell ⟨w.heap.size,3,none⟩ (ZU c.at_)).setCell ⟨w.heap.size,4,none⟩ (.int .u8 rule)).setCell ⟨w.heap.size,5,none⟩ (ZU d.dueAt));rw[<-z]at TB aa|-;clear z;have r0:=Lf TB.o;refine bodyPost_ret (v:=.agg #[ZU c.id,ZI c.cls,ZI c.len,ZU c.at_,.int .u8 rule,ZU d.dueAt]) (by rw[Lv (p:=6) (ty:=70) (by kernel_rfl)];go_simp;try rfl) rfl ?_;rw[R.o];refine⟨rfl,?_⟩;rw[bl.o,ag.o,<-bj.o];have e:=ac.o;subst e;exact aa.o
  .have b5:decide ((rule:Int)=1)=false:=by simp;omega
   have b6:((rule:Int)==1)=false:=by simp;omega
   have aq:=O (R.o.trans (by rw[if_neg ax]));clear ax;go_wp2_with fail;rw[<-I];clear I z0 R;have R:=aq;obtain⟨V,hV⟩:=Zx W6;rw[<-hV]at T6 T8 ai a5 H6 bc B CN E a8|-;clear hV;have K:=B.o;have ae:=T6;have au:=T8;have ah:=ai;have ar:=a5;have aj:=bc;have bd:=CN;have an:=O K;have ap:=O E;have bh:Hi ((s.aR {l with q:=l.q.tail,debt:=some (d.serve rule c.len nx.len)}).leaf id=some {l with q:=l.q.tail,debt:=some (d.serve rule c.len nx.len)}):=O (Oz HL.o bi.o);clear K E;have z0:=Q4 an.o.drew;have g0:=X9 au.o.drew;have k0:=X9 ar.o.drew;apply XB 2000000000;apply YA 0;clear z0 g0 k0;go_wp2_with fail;apply Zz (ap.o _ (Zg Qb V).drew);rintro w7⟨h7,c7,av⟩;have H7:=O (show Qi A w7 (Qn (Qn F W w2) V w7) b (s.aR {l with q:=l.q.tail,debt:=some (d.serve rule c.len nx.len)}) by
    rw[<-Rz (s:=s) (l1:={l with q:=l.q.tail}) (l2:={l with q:=l.q.tail,debt:=some (d.serve rule c.len nx.len)}) rfl];exact h7)
   have C7:=O c7;have al:=O av;have bk:=O (H7.o.noteDebt bh.o al.o rfl (HP.o.row_len OK.o));clear h7 c7 av;go_wp2_with fail;refine Jo ?_;go_wp2_with fail;have a0:=Ym H7.o.drew.blk;have z0:=Q4 al.o.drew;apply XB 2000000000;apply YA 0;clear a0 z0;go_wp2_with fail;apply Zz (bk.o _ (Zg Qb w7).drew);rintro w8⟨h8,c8⟩;obtain⟨m1,m2⟩:=(Qi.obj A).two h8 aj.o C7.o c8;have H8:=O m1;have C8:=O m2;clear h8 c8 m1 m2;go_wp2_with fail;refine Jo ?_;go_wp2_with fail;have a0:=Ym H8.o.drew.blk;have g0:=X9 (Qc.blk C8.o.drew au.o N8.o);have q1:=J.o.1;have q2:=J.o.2;have ab:=O (H8.o.pickSent (dep:=Xk s.tree) OK.o.pick ao.o id (c.len*256).toNat (by omega) (Qhg l.q.tail));rw[show(((c.len*256).toNat:Nat):Int)=c.len*256 from by omega]at ab;apply XB 20000000000;apply YA 0;clear a0 g0;go_wp2_with fail;apply Zz (ab.o _ (Zg Qb w8).drew);rintro w9⟨h9,c9⟩;obtain⟨m1,m2⟩:=(Qi.obj A).two h9 aj.o C8.o c9;have H9:=O m1;have Z:=O m2;clear h9 c9 m1 m2 q1 q2;go_wp2_with fail;refine Jo ?_;have t0:=Lf (Z.o.blk ah.o az.o);have u0:=Lf (Z.o.blk ae.o N6.o);have fz:=(Z.o.blk ae.o N6.o).frozen;have aa:=O (ak.o V w9 ((((((w9.setCell ⟨w.heap.size,0,none⟩ (ZU c.id)).setCell ⟨w.heap.size,1,none⟩ (ZI c.cls)).setCell ⟨w.heap.size,2,none⟩ (ZI c.len)).setCell ⟨w.heap.size,3,none⟩ (ZU c.at_)).setCell ⟨w.heap.size,4,none⟩ (.int .u8 rule)).setCell ⟨w.heap.size,5,none⟩ (ZU (0:Int))) _ bd.o H9.o Z.o (by
    refine(((((((Zg (λk=>k=w.heap.size) w9).setCell _ (.inl rfl)).setCell _ (.inl rfl)).setCell _ (.inl rfl)).setCell _ (.inl rfl)).setCell _ (.inl rfl)).setCell _ (.inl rfl))))
   have TB:Hi (Qh ((((((w9.setCell ⟨w.heap.size,0,none⟩ (ZU c.id)).setCell ⟨w.heap.size,1,none⟩ (ZI c.cls)).setCell ⟨w.heap.size,2,none⟩ (ZI c.len)).setCell ⟨w.heap.size,3,none⟩ (ZU c.at_)).setCell ⟨w.heap.size,4,none⟩ (.int .u8 rule)).setCell ⟨w.heap.size,5,none⟩ (ZU (0:Int))) w.heap.size #[ZU c.id,ZI c.cls,ZI c.len,ZU c.at_,.int .u8 rule,ZU (0:Int)] 70):=O (((((((Z.o.blk ae.o N6.o).set 0 _).set 1 _).set 2 _).set 3 _).set 4 _).set 5 _);go_wp2_with fail;clear t0 u0 fz;obtain⟨b1,z⟩:=Zx ((((((w9.setCell ⟨w.heap.size,0,none⟩ (ZU c.id)).setCell ⟨w.heap.size,1,none⟩ (ZI c.cls)).setCell ⟨w.heap.size,2,none⟩ (ZI c.len)).setCell ⟨w.heap.size,3,none⟩ (ZU c.at_)).setCell ⟨w.heap.size,4,none⟩ (.int .u8 rule)).setCell ⟨w.heap.size,5,none⟩ (ZU (0:Int)));rw[<-z]at TB aa|-;clear z;have r0:=Lf TB.o;refine bodyPost_ret (v:=.agg #[ZU c.id,ZI c.cls,ZI c.len,ZU c.at_,.int .u8 rule,ZU (0:Int)]) (by rw[Lv (p:=6) (ty:=70) (by kernel_rfl)];go_simp;try rfl) rfl ?_;rw[R.o];refine⟨rfl,?_⟩;rw[bl.o,ag.o,<-bj.o];have e:=ac.o;subst e;exact aa.o
end
section
variable{A:Tb}{w w1 w2:World}{F:Fp}{b a:Nat}{s:Qf}{N:Nat}{l:Qw}
theorem Qcl(h:Qi A w F b s){q u:Nat}(c:Qh w q #[ptr b] 48)(now:Nat)(d:Qh w u #[ZU now] 22):
  ZW 52 #[ZP q,ZP u] w (.tuple #[ZI ((Jt now s.row).getD (0,0)).2,.bool (Jt now s.row).isSome]) λw'=>Qc Qb w w':=by
 have k:Hi (ZW 53 #[ptr A.rb,ZU now] w.drew (.tuple #[ZI ((Jt now s.row).getD (0,0)).2,.bool (Jt now s.row).isSome]) λw'=>Qc Qb w.drew w'):=O (by
  obtain⟨G,U,_⟩:=h.drew.rowOf;exact Qka U now)
 have E:=Ym h.drew.blk;have V:=Jf c.drew;have Z:=Jf d.drew;generalize((Jt now s.row).getD (0,0)).2=id at k|-;generalize(Jt now s.row).isSome=ok at k|-;clear h c d;apply WH func52;go_wp2_with fail;apply XB 2200200000;apply YA 0;clear E V Z;go_wp2_with fail;apply Zy k;intro w1 z;have B:Hi (Qc Qb w w1):=O ((Zg Qb w).drew.aA z);clear z;go_wp2_with fail;apply YA 0;go_wp2_with fail;apply YI 0;exact WD B
theorem Qbm(h:Qi A w F b s)(B:Xp N s){q u:Nat}(c:Qh w q #[ptr b] 48)(now:Nat)(d:Qh w u #[ZU now] 22):
  ZW 54 #[ZP q,ZP u] w (.tuple #[ZI ((s.pick.next now 10 0).getD 0),.bool (s.pick.next now 10 0).isSome]) λw'=>Qc Qb w w':=by
 have k:Hi (ZW 55 #[ptr A.pb,ZU now] w.drew (.tuple #[ZI ((s.pick.next now 10 0).getD 0),.bool (s.pick.next now 10 0).isSome]) λw'=>Qc Qb w.drew w'):=O (by
  obtain⟨G,⟨AP,V⟩,_⟩:=h.drew.pickOf;exact Qll V B.pick now)
 have I:=Ym h.drew.blk;have Z:=Jf c.drew;have x1:=Jf d.drew;generalize(s.pick.next now 10 0).getD 0=id at k|-;generalize(s.pick.next now 10 0).isSome=kk at k|-;clear h c d B;apply WH func54;go_wp2_with fail;apply XB 2200200000;apply YA 0;clear I Z x1;go_wp2_with fail;apply Zy k;intro w1 z;have E:Hi (Qc Qb w w1):=O ((Zg Qb w).drew.aA z);clear z;go_wp2_with fail;apply YA 0;go_wp2_with fail;apply YI 0;exact WD E
end
section
def Bq:Option ChM->Array Value
 |none=>chA Jr.zero 0 0
 |some c=>chA c.p c.rule c.due
theorem Qv3(v1 v2:Value)(w):(Instr.index 118 (.agg #[.nilFunc,v1,v2]) (ZI 0)).run prog w=.ok .nilFunc w:=by kernel_rfl
theorem Qv4(v1 v2:Value)(w):(Instr.index 118 (.agg #[.nilFunc,v1,v2]) (ZI 1)).run prog w=.ok v1 w:=by kernel_rfl
theorem Qv5(v1 v2:Value)(w):(Instr.index 118 (.agg #[.nilFunc,v1,v2]) (ZI 2)).run prog w=.ok v2 w:=by kernel_rfl
theorem Qv0(w):(binOp .eql 117 .nilFunc .nilFunc).run prog w=.ok (.bool true) w:=by kernel_rfl
theorem Qv1(c:Array Value)(w):(binOp .eql 117 (.func (.func (52)) #[] c) .nilFunc).run prog w=.ok (.bool false) w:=by kernel_rfl
theorem Qv2(c:Array Value)(w):(binOp .eql 117 (.func (.func (54)) #[] c) .nilFunc).run prog w=.ok (.bool false) w:=by kernel_rfl
attribute [local go_sem] Qv3 Qv4 Qv5
attribute [local go_sem ↓] Qv0 Qv1 Qv2
section
variable{A:Tb}{w w1 w2:World}{F:Fp}{b a:Nat}{s:Qf}{N:Nat}{l:Qw}
theorem Qpd{now:Nat}(c:Jt now s.row=none)(d:s.pick.next now 10 0=none):s.next now=(none,s):=by unfold Qf.next Qf.who;rw[c,d];rfl
theorem Qr6{now:Nat}{x:Nat×Int}(c:Jt now s.row=some x):s.who now=some (x.2,1)/\s.next now=(some (s.aX x.2 1),s.take x.2 1):=by
 have e:s.who now=some (x.2,1):=by unfold Qf.who;rw[c]
 exact⟨e,by unfold Qf.next;rw[e]⟩
theorem Qpe{now:Nat}{i:Int}(c:Jt now s.row=none)(d:s.pick.next now 10 0=some i):s.who now=some (i,2)/\s.next now=(some (s.aX i 2),s.take i 2):=by
 have e:s.who now=some (i,2):=by unfold Qf.who;rw[c,d];rfl
 exact⟨e,by unfold Qf.next;rw[e]⟩
theorem Pg(h:Qt w F b s)(ok:Xp N s)(hN:N<549755813000)(now:Nat):
  ZW 25 #[ptr b,ZU now] w (.tuple #[.agg (Bq (s.next now).1),.bool (s.next now).1.isSome]) λw'=>Qt w' (Qn F w w') b (s.next now).2/\Qc F w w':=by
 obtain⟨A,h⟩:=h;have ah:=(Qi.obj A).bd h;obtain⟨W,hW⟩:=Zx (((w.alloc (.cells #[ZP b] 48)).alloc (.cells #[ZU now] 22)).alloc (.cells ZK 70));have C0:Hi (Qc Qb w W):=O (by rw[hW];exact(((Zg _ _).alloc _).alloc _).alloc _);have B2:Hi (Qh W w.heap.size #[ZP b] 48):=O (by rw[hW];exact((Qh.new _ _ _).alloc _).alloc _);have B3:Hi (Qh W (w.heap.size+1) #[ZU now] 22):=O (by rw[hW];exact(Qh.new' _ _ (by simp)).alloc _);have B4:Hi (Qh W (w.heap.size+1+1) ZK 70):=O (by rw[hW];exact Qh.new' _ _ (by simp));have hP:=(Qi.obj A).aB h C0.o (Jl.none F);have HN:=O (Ku hP ok.most.1);have N4:Hi (¬F (w.heap.size+1+1)):=O (λq=>by have:=ah _ q;omega);have HP:=O hP;have OK:=O ok;have ai:=O ah;have al:=O hN;have aj:=O (λw'(c:Qc Qb W w')=>Qcl ((Qi.obj A).aB HP.o c (Jl.none F)) (c.blk B2.o (λh=>h)) now (c.blk B3.o (λh=>h)));have af:=O (λw'(c:Qc Qb W w')=>Qbm ((Qi.obj A).aB HP.o c (Jl.none F)) ok (c.blk B2.o (λh=>h)) now (c.blk B3.o (λh=>h)));have x0:=Jf (hW▸B2.o);have ab:Hi (∀w5 i(r:Nat),r<256->s.who now=some (i,r)->Qc Qb W w5->ZW 56 #[ptr b,ZI i,.int .u8 r] w5 (.agg (chA (s.aX i r).p (s.aX i r).rule (s.aX i r).due)) λw6=>∃V,(storeCells ⟨w.heap.size+1+1,0,none⟩ (chA (s.aX i r).p (s.aX i r).rule (s.aX i r).due).toList 0).run prog w6=.ok () V/\Qh V (w.heap.size+1+1) (chA (s.aX i r).p (s.aX i r).rule (s.aX i r).due) 70/\Qt V (Qn F w V) b (s.take i r)/\Qc F w V):=O (λw5 i r hr hw I=>by
  obtain⟨l,hl,_⟩:=OK.o.who hw;apply Zz (Qme ⟨A,(Qi.obj A).aB HP.o I (Jl.none F)⟩ ok hN hl r hr);rintro w6⟨h6,c6⟩;refine⟨rfl,?_⟩;have z0:=C0.o.size;have z5:=I.size;have z6:=c6.size;have z4:=B4.o.lt;have ak:=c6.blk (I.blk B4.o (λh=>h)) N4.o;obtain⟨V,r7,J,c7⟩:=Q0 (P:=prog) (vs:=chA (s.aX i r).p (s.aX i r).rule (s.aX i r).due) ak rfl (Iy _ _ _);have z7:=c7.size;have cc:Qc F w V:=((C0.o.none (F:=F)).aA ((I.none (F:=F)).aA c6)).trans c7 (λk e=>.inr (by omega));refine⟨V,r7,J,Qt.obj.more (Qt.obj.aB h6 c7 (λk q e=>?_)) (λk q=>?_) (ai.o.ext cc),cc⟩
  .subst e;rcases q with q|q;·exact N4.o q
   .omega
  .rcases q with q|q;·exact .inl q
   .exact .inr (by omega))
 clear h ah ok hP hN;apply WH func25;go_wp2_with fail;rw[<-hW]at x0|-;clear hW;apply Zy HN;rintro w1 rfl;go_wp2_with fail;go_loopw [16] (λi wr=>∃k:Nat,i=ZI k/\k<=3/\(2<=k->Jt now s.row=none)/\(3<=k->s.pick.next now 10 0=none)/\Qc Qb W wr) (λi _=>3-(intOf i).toNat);case atStart=>exact⟨0,rfl,by omega,by omega,by omega,Zg _ _⟩
 case round=>
  obtain⟨k,rfl,q,h1,h2,hw⟩:=hrel;have HC:=O hw;clear hw;by_cases k0:k=0
  .subst k0;clear q h1 h2;have e0:((0:Nat):Int)=0:=rfl;go_wp2_with fail;go_roundw;case measure=>simp only[intOf];omega
   case rel=>exact⟨1,by rfl,by omega,by omega,by omega,HC.o⟩
  by_cases k1:k=1
  .subst k1;clear q h1 h2;have U:=O (aj.o wr HC.o);cases d:Jt now s.row with
   |none=>
    rw[d]at U;have R:=O d;clear d;dsimp only[Option.getD_none,Option.isSome_none]at U;go_wp2_with fail;apply ZF U (λ_ I=>HC.o.aA I);intro w5 C5;go_wp2_with fail;go_roundw;case measure=>simp only[intOf];omega
    case rel=>exact⟨2,by rfl,by omega,λ_=>by first|exact R.o|trivial,by omega,C5.o⟩
   |some x=> rw[d]at U;have R:=O d;clear d;dsimp only[Option.getD_some,Option.isSome_some]at U;go_wp2_with fail;apply ZF U (λ_ I=>HC.o.aA I);intro w5 C5;obtain⟨E,B⟩:=Qr6 R.o;have HT:=O (ab.o w5 _ 1 (by decide) E C5.o);have z:=O B;clear E B;have y0:=Jf (C5.o.blk B2.o (λh=>h));go_wp2_with fail;apply Zy HT;rintro w6⟨V,r7,J,h7,c7⟩;have Z:=O (Zt h7 c7);have TB:=O J;clear h7 c7 y0 J;obtain⟨ch,K⟩:=Zx (s.aX x.2 1);rw[<-K]at r7 TB|-;have ae:=O K;clear K;go_wp2_with fail;clear r7;obtain⟨cp,cr,cd⟩:=ch;have r0:=Lf (show Qh V _ #[ZU cp.id,ZI cp.cls,ZI cp.len,ZU cp.at_,.int .u8 cr,ZU cd] _ from TB.o);refine bodyPost_ret (v:=.tuple #[.agg (chA cp cr cd),.bool true]) (by rw[results_cell_tmp (p:=4) (u:=5) (ty:=70) (by kernel_rfl)];go_simp;rfl) rfl ?_;exact⟨by rw[z.o,<-ae.o];rfl,by rw[z.o];exact Z.o⟩
  by_cases k2:k=2
  .subst k2;have R:=O (h1 (by omega));clear q h1 h2;have U:=O (af.o wr HC.o);cases d:s.pick.next now 10 0 with
   |none=>
    rw[d]at U;have ag:=O d;clear d;dsimp only[Option.getD_none,Option.isSome_none]at U;go_wp2_with fail;apply ZF U (λ_ I=>HC.o.aA I);intro w5 C5;go_wp2_with fail;go_roundw;case measure=>simp only[intOf];omega
    case rel=>exact⟨3,by rfl,by omega,λ_=>by first|exact R.o|trivial,λ_=>by first|exact ag.o|trivial,C5.o⟩
   |some x=> rw[d]at U;have ag:=O d;clear d;dsimp only[Option.getD_some,Option.isSome_some]at U;go_wp2_with fail;apply ZF U (λ_ I=>HC.o.aA I);intro w5 C5;obtain⟨E,B⟩:=Qpe R.o ag.o;have HT:=O (ab.o w5 _ 2 (by decide) E C5.o);have z:=O B;clear E B;have y0:=Jf (C5.o.blk B2.o (λh=>h));go_wp2_with fail;apply Zy HT;rintro w6⟨V,r7,J,h7,c7⟩;have Z:=O (Zt h7 c7);have TB:=O J;clear h7 c7 y0 J;obtain⟨ch,K⟩:=Zx (s.aX x 2);rw[<-K]at r7 TB|-;have ae:=O K;clear K;go_wp2_with fail;clear r7;obtain⟨cp,cr,cd⟩:=ch;have r0:=Lf (show Qh V _ #[ZU cp.id,ZI cp.cls,ZI cp.len,ZU cp.at_,.int .u8 cr,ZU cd] _ from TB.o);refine bodyPost_ret (v:=.tuple #[.agg (chA cp cr cd),.bool true]) (by rw[results_cell_tmp (p:=4) (u:=5) (ty:=70) (by kernel_rfl)];go_simp;rfl) rfl ?_;exact⟨by rw[z.o,<-ae.o];rfl,by rw[z.o];exact Z.o⟩
  have k3:k=3:=by omega
  subst k3;have B:=Qpd (h1 (by omega)) (h2 (by omega));have z:=O B;clear h1 h2 q B k0 k1 k2;have hB:=HC.o.blk B4.o (λh=>h);have t0:=Lf hB;have fz:=hB.frozen;go_wp2_with fail;have CF:Qc (λk=>k=w.heap.size+1+1) wr ((((((wr.setCell ⟨w.heap.size+1+1,0,none⟩ (ZU 0)).setCell ⟨w.heap.size+1+1,1,none⟩ (ZI 0)).setCell ⟨w.heap.size+1+1,2,none⟩ (ZI 0)).setCell ⟨w.heap.size+1+1,3,none⟩ (ZU 0)).setCell ⟨w.heap.size+1+1,4,none⟩ (.int .u8 0)).setCell ⟨w.heap.size+1+1,5,none⟩ (ZU 0)):=((((((Zg (λk=>k=w.heap.size+1+1) wr).setCell _ (.inl rfl)).setCell _ (.inl rfl)).setCell _ (.inl rfl)).setCell _ (.inl rfl)).setCell _ (.inl rfl)).setCell _ (.inl rfl);have TB:Qh ((((((wr.setCell ⟨w.heap.size+1+1,0,none⟩ (ZU 0)).setCell ⟨w.heap.size+1+1,1,none⟩ (ZI 0)).setCell ⟨w.heap.size+1+1,2,none⟩ (ZI 0)).setCell ⟨w.heap.size+1+1,3,none⟩ (ZU 0)).setCell ⟨w.heap.size+1+1,4,none⟩ (.int .u8 0)).setCell ⟨w.heap.size+1+1,5,none⟩ (ZU 0)) (w.heap.size+1+1) ZK 70:=(((((hB.set 0 _).set 1 _).set 2 _).set 3 _).set 4 _).set 5 _;obtain⟨aa,ac⟩:=Zx (((((((wr.setCell ⟨w.heap.size+1+1,0,none⟩ (ZU 0)).setCell ⟨w.heap.size+1+1,1,none⟩ (ZI 0)).setCell ⟨w.heap.size+1+1,2,none⟩ (ZI 0)).setCell ⟨w.heap.size+1+1,3,none⟩ (ZU 0)).setCell ⟨w.heap.size+1+1,4,none⟩ (.int .u8 0)).setCell ⟨w.heap.size+1+1,5,none⟩ (ZU 0)));rw[<-ac]at CF TB|-;clear ac t0 fz hB;have cc:Qc F w aa:=((C0.o.aA HC.o).none (F:=F)).trans CF (λk e=>.inr (by omega));have Z:Hi (Qt aa (Qn F w aa) b s/\Qc F w aa):=O (⟨Qt.obj.more ⟨A,(Qi.obj A).aB ((Qi.obj A).aB HP.o HC.o (Jl.none F)) CF (λk q e=>N4.o (e▸q))⟩ (λk q=>.inl q) (ai.o.ext cc),cc⟩);clear CF cc;have r0:=Lf TB;refine bodyPost_ret (v:=.tuple #[.agg ZK,.bool false]) (by rw[results_cell_tmp (p:=4) (u:=5) (ty:=70) (by kernel_rfl)];go_simp;try rfl) rfl ?_;exact⟨by rw[z.o];rfl,by rw[z.o];exact Z.o⟩
end
end
section
variable{A:Tb}{w:World}{F:Fp}{b:Nat}{s:Qf}{N:Nat}
end
theorem Qgv{w}{F:Fp}{v:Value}{o:Option Ju}(h:Kv w F v o)(I:∀d,o=some d->d.run.l.length<549755813888):
  Cl 74 #[v] w λe w'=>∃c,e=.returned c/\Kv w' (Qn Qb w w') c o/\Qc Qb w w':=by
 cases o with
 |none=> obtain⟨rfl,_⟩:=h;have q:=O (Zg Qb w);apply WH func74;go_wp2;go_ret;exact⟨_,rfl,⟨rfl,λk E=>E.elim (λh=>h.elim) (λh=>h.2)⟩,q.o⟩
 |some d=> obtain⟨b,rfl,B⟩:=h;refine(Qj5 B (I d rfl)).mono ?_;rintro e w'⟨b',rfl,z,u⟩;exact⟨_,rfl,⟨b',rfl,z⟩,u⟩
section
variable{A:Tb}{w:World}{F:Fp}{b:Nat}{s:Qf}{N:Nat}
theorem Qi.perm(h:Qi A w F b s){s':Qf}(c:s'.most=s.most)(d:s'.tree=s.tree)(k:s'.row=s.row)(q:s'.pick=s.pick)(z:s.aI.Perm s'.aI):Qi A w F b s':=by
 obtain⟨L,u,B⟩:=h;refine⟨L,u.trans z,?_⟩;have:Lw A b L s'=Lw A b L s:=by unfold Lw Qfq;rw[c,d,k,q]
 rw[this];exact B
theorem Qi.fresh{w0 w4 w5:World}{V m rb R q:Nat}{s:Qf}{B u z:Fp}(hT:Q9 w4 B V s.tree)(hM:Xq w4 m [])(hE:Yq w4 u rb s.row)(hP:Yr w4 z R s.pick)
  (g1:∀k,B k->w0.heap.size<=k/\k<w4.heap.size)(gm:w0.heap.size<=m)(J:∀k,u k->w0.heap.size<=k/\k<w4.heap.size)(K:∀k,z k->w0.heap.size<=k/\k<w4.heap.size)
  (ab:¬B m)(ae:¬u m)(af:¬z m)(Z:Jl B u)(aa:Jl B z)(ac:Jl u z)(d:Qc Qb w4 w5)(hB:Qh w5 q #[ZI s.most,ptr V,.map (some m),ptr rb,ptr R] 97)(hq:w4.heap.size<=q)(ag:w0.heap.size<=w4.heap.size):
  Qi ⟨V,m,rb,R,λ_=>0⟩ w5 (λk=>w0.heap.size<=k/\k<w5.heap.size) q {s with aI:=[]}:=by
 have s4:=d.size;have s5:=hB.lt;have ah:=hM.lt;refine⟨[],List.Perm.refl _,?_⟩;have t5:Q9 w5 B V s.tree:=Q9.obj.aB hT d (Jl.none _);have m5:Xq w5 m []:=hM.aB d (λh=>h);have e5:Yq w5 u rb s.row:=Yq.obj.aB hE d (Jl.none _);have p5:Yr w5 z R s.pick:=Yr.obj.aB hP d (Jl.none _);have E:∀{U:Fp},(∀k,U k->w0.heap.size<=k/\k<w4.heap.size)->Bd U w5:=λh k c=>Nat.lt_of_lt_of_le (h k c).2 s4;refine Q7 (G:=λk=>k=q) (H:=λk=>B k\/k=m\/u k\/z k) ⟨hB,rfl,λk e=>e▸s5⟩ ?_ ?_ (λk e=>by omega) ?_ (λk c=>c.2)
 .refine Q7 (G:=B) (H:=λk=>k=m\/u k\/z k) t5 ?_ ?_ (λk c=>.inl c) (λk c=>.inr c) ?_
  .refine Q7 (G:=λk=>k=m) (H:=λk=>u k\/z k) (Yn.new m5 (λk e=>by rw[e];exact m5.lt) rfl) ?_ ?_ (λk c=>.inl c) (λk c=>.inr c) ?_;·refine Q7 (G:=u) (H:=z) e5 (Y6 p5 (Yr.obj.bd p5)) ac (λk c=>.inl c) (λk c=>.inr c) ?_;exact λk c=>c.elim (E J k) (E K k)
   .rintro k rfl(c|c);·exact ae c
    .exact af c
   .rintro k(rfl|c|c);·omega
    .exact E J k c
    .exact E K k c
  .rintro k c(rfl|I|I);·exact ab c
   .exact Z k c I
   .exact aa k c I
  .rintro k(c|rfl|c|c);·exact E g1 k c
   .omega
   .exact E J k c
   .exact E K k c
 .rintro k rfl(c|c|c|c);·have:=g1 k c;omega
  .omega
  .have:=J k c;omega
  .have:=K k c;omega
 .rintro k(c|rfl|c|c);·have:=g1 k c;omega
  .omega
  .have:=J k c;omega
  .have:=K k c;omega
structure Qgb(A:Tb)(w:World)(s:Qf)(l:List Qw)(q r:Nat)(wr:World)(lm dn:List Qw):Prop where
 it:Kj wr A.m r (Xy Qw.id A.ad l) (Xy Qw.id A.ad lm)
 sub:lm.Sublist l
 perm:(dn++lm).Perm l
 chg:Qc Qb w wr
 co:∃(A':Tb)(G:Fp),Qi A' wr G q {s with aI:=dn}/\(∀k,G k->w.heap.size<=k/\k≠r)
 nr:w.heap.size<=r
theorem Qgb.step{l:List Qw}{q r:Nat}{wr}{V u:List Qw}(h:Qgb A w s l q r wr V u){Z:Tb}{G:Fp}(hA:Qi Z wr G q {s with aI:=u})(I:∀k,G k->w.heap.size<=k/\k≠r)(J:(l.map Qw.id).Nodup){x:Qw}(hx:x∈V){w2 w3 w4 w5}
  (d:Kj w2 A.m r (Xy Qw.id A.ad l) (Vu x.id (Xy Qw.id A.ad V))) (z:Qc (λk=>k=r) wr w2) {qb rb:Nat} {dv:Value} (hq:Jz w3 qb rb x.pk x.bt x.q) (ae:w2.heap.size<=qb/\qb<w3.heap.size) (af:w2.heap.size<=rb/\rb<w3.heap.size)
  (c3:Qc Qb w2 w3) (hd:Kv w4 (Qn Qb w3 w4) dv x.debt) (c4:Qc Qb w3 w4) (R:w5=w4.alloc (.cells #[ptr qb,dv] 107)) (aj:A.m<w.heap.size):
  ∃w6,(Instr.mapUpdate 93 (.map (some Z.m)) (ZI x.id) (ZP w4.heap.size)).run prog w5=.ok () w6/\
   Qgb A w s l q r w6 (Kp Qw.id x.id V) (u++[x])/\Dq w6 r<Dq wr r:=by
 have s1:=h.chg.size;have s2:=z.size;have s3:=c3.size;have s4:=c4.size;have B:Qc Qb w4 w5:=by rw[R];exact(Zg _ _).alloc _
 have ab:Qh w5 w4.heap.size #[ptr qb,dv] 107:=by rw[R];exact Qh.new _ _ _
 have ah:r<w2.heap.size:=by obtain⟨o2,h2,_⟩:=d.walk;exact(Z2.1 h2).1
 have E:=(Qi.obj Z).aB hA z (λk c e=>(I k c).2 e);have aa:Qc Qb w2 w5:=(c3.aA c4).aA B;have hL:Yj w5 (Qn Qb w2 w5) w4.heap.size x:=Yj.made (w:=w2) (w1:=w2) (Zg _ _) hq ae af c4 hd B ab (Zv _);have hn:Qf.leaf {s with aI:=u} x.id=none:=by
  show Hn Qw.id x.id u=none;cases ac:Hn Qw.id x.id u with
  |none=>rfl
  |some y=> obtain⟨hy,ag⟩:=Y3 ac;have hn:=((h.perm.map Qw.id).nodup_iff).2 J;rw[List.map_append,List.nodup_append]at hn;exact absurd ag (hn.2.2 _ (Z3.2 ⟨y,hy,rfl⟩) _ (Z3.2 ⟨x,hx,rfl⟩))
 obtain⟨w6,r6,h6,c6⟩:=E.newLeaf hn aa hL;have s6:=c6.size;have ai:∀k,G k->k<w2.heap.size:=(Qi.obj Z).bd E;have U:Kj w6 A.m r (Xy Qw.id A.ad l) (Vu x.id (Xy Qw.id A.ad V)):=d.aB c6 (λc=>by have:=(I _ c).1;omega) (λc=>(I r c).2 rfl);have K:=O8 (key:=Qw.id) (J.sublist (h.sub.map Qw.id)) hx;refine⟨w6,r6,⟨?_,List.filter_sublist.trans h.sub,?_,?_,⟨_,_,h6,λk c=>?_⟩,h.nr⟩,?_⟩;·rw[<-Hr];exact U
 .refine List.Perm.trans ?_ h.perm;rw[List.append_assoc];exact List.Perm.append_left u K.symm
 .exact(h.chg.trans z (λk e=>.inr (by rw[e];exact h.nr))).trans c6 (λk c=>.inr (I k c).1)
 .rcases c with c|c;·exact I k c
  .exact⟨by omega,by omega⟩
 .rw[U.left_eq,h.it.left_eq,Hr];have:=K.length_eq;simp only[Xy,List.length_map,Zm]at*;omega
theorem Qzh{T:Type}{Is:World->Fp->Nat->T->Prop}(u:Hf Is){P:Program}{f:Nat}{a:Array Value}{w w1}{x:T}(h:Calls P f a w1 λe w2=>∃b',e=.returned (ptr b')/\Is w2 (Qn Qb w1 w2) b' x/\Qc Qb w1 w2)(c:Qc Qb w w1):
  Calls P f a w1 λe w2=>∃b',e=.returned (ptr b')/\Hi ((∀w3,Qc Qb w2 w3->Is w3 (λk=>w1.heap.size<=k/\k<w2.heap.size) b' x)/\Qc Qb w w2/\Qc Qb w1 w2):=
 h.mono λe w2⟨b',B,E,q⟩=>⟨b',B,O ⟨λw3 z=>u.aB (u.more E (λk d=>(Qr k).1 d) (λk d=>d.2)) z (Jl.none _),c.aA q,q⟩⟩
theorem Qmc(h:Qi A w F b s)(ok:Xp N s)(hN:N<549755813000):
  Cl 40 #[ptr b] w λe w'=>∃b',e=.returned (ptr b')/\Qt w' (Qn Qb w w') b' s/\Qc Qb w w':=by
 have HH:=O h;have ap:=(Qi.obj A).bd h;have HN:=O (Ku h ok.most.1);obtain⟨L,hp,Gc,hC,aq,_⟩:=h.collOf;have aw:A.m<w.heap.size:=ap _ (aq _ hC.at_);have a5:=O aw;have ae:=O hC.nodup;have HP:=O hp;have HC:=O (λw'(c:Qc Qb w w')=>hC.map.aB c (λh=>h));obtain⟨Gt,ht,_⟩:=h.treeOf;obtain⟨Gr,hr,_⟩:=h.rowOf;obtain⟨Gp,⟨AP,ax⟩,_⟩:=h.pickOf;have HT:=O (λw'(c:Qc Qb w w')=>Qzh Q9.obj (Ww (Q9.obj.aB ht c (Jl.none _)) (by have:=ok.tree.many;omega)) c);have HE:=O (λw'(c:Qc Qb w w')=>Qzh Yq.obj (Qj8 (Yq.obj.aB hr c (Jl.none _))) c);have a7:=O (λw'(c:Qc Qb w w')=>Qzh Yr.obj (Qli ((Qo.obj AP).aB ax c (Jl.none _)) ok.pick (by omega)) c);have MM:Hi (∀w1,Qc Qb w w1->∃w2,w2=w1.alloc (.map #[] 0)/\Hi ((∀w3,Qc Qb w2 w3->Xq w3 w1.heap.size [])/\Qc Qb w w2/\Qc Qb w1 w2/\w2.heap.size=w1.heap.size+1)):=O (λw1 c=>⟨_,rfl,O ⟨λw3 c3=>(Xq.new w1).aB c3 (λh=>h),c.alloc _,(Zg _ _).alloc _,by simp⟩⟩);have HB:=O (λw'(c:Qc Qb w w')=>c.blk h.blk (λh=>h));have a6:=O ok.ok;have bi:=@run_makeMap prog;have C0:=O (Zg Qb w).drew;have a0:=Ym h.drew.blk;have ac:Hi (∀w4 tb m rb pb l1 h1 l2 U l3 h3,Qc Qb w w4->Q9 w4 (λk=>l1<=k/\k<h1) tb s.tree->Xq w4 m []->Yq w4 (λk=>l2<=k/\k<U) rb s.row->Yr w4 (λk=>l3<=k/\k<h3) pb s.pick->w.heap.size<=l1/\h1<=w4.heap.size/\w.heap.size<=m/\w.heap.size<=l2/\U<=w4.heap.size/\w.heap.size<=l3/\h3<=w4.heap.size/\(m<l1\/h1<=m)/\(m<l2\/U<=m)/\(m<l3\/h3<=m)/\(h1<=l2\/U<=l1)/\(h1<=l3\/h3<=l1)/\(U<=l3\/h3<=l2)->
   ∃A',Qi A' (w4.alloc (.cells #[ZI s.most,ptr tb,.map (some m),ptr rb,ptr pb] 97)) (λk=>w.heap.size<=k/\k<(w4.alloc (.cells #[ZI s.most,ptr tb,.map (some m),ptr rb,ptr pb] 97)).heap.size) w4.heap.size {s with aI:=[]}/\Qc Qb w (w4.alloc (.cells #[ZI s.most,ptr tb,.map (some m),ptr rb,ptr pb] 97))):=O (by
  intro w4 tb m rb pb l1 h1 l2 U l3 h3 am hT hM hE hP hb;have an:Qc Qb w4 (w4.alloc (.cells #[ZI s.most,ptr tb,.map (some m),ptr rb,ptr pb] 97)):=(Zg _ _).alloc _;exact⟨_,Qi.fresh hT hM hE hP (λk I=>by omega) (by omega) (λk I=>by omega) (λk I=>by omega) (λI=>by omega) (λI=>by omega) (λI=>by omega) (λk x y=>by omega) (λk x y=>by omega) (λk x y=>by omega) an (Qh.new _ _ _) (Zv _) am.size,am.aA an⟩)
 clear h ok hp hC aq ht hr ax ap aw;apply WH func40;go_wp2_with fail;apply Zy HN;rintro w1 rfl;go_wp2_with fail;go_cut [3] (λs3 wz=>∃q A',s3=ZP q/\w.heap.size<=q/\Qi A' wz (λk=>w.heap.size<=k/\k<wz.heap.size) q {s with aI:=[]}/\Qc Qb w wz)
 case first=>
  refine Ui (.lookp 0 (.lookp 1 (.lookp 2 (.lookp 3 (.lookp 4 (.lookp 5 (.lookp 6 (.lookp 7 (.lookp 10 (.lookp 11 (.lookp 12 (.lookp 13 (.lookp 15 (.lookp 16 (.lookp 17 (.lookp 18 (.fork 8 (.fork 9 (.walk 14 (.walk 19 (.look 20 (.walk 21 (.walk 22 .nil))))) 14 (.fork 9 (.walk 19 (.look 20 (.walk 21 (.walk 22 .nil)))) 19 (.walk 9 (.look 20 (.walk 21 (.walk 22 .nil)))))) 9 (.walk 8 (.walk 14 (.walk 19 (.look 20 (.walk 21 (.walk 22 .nil))))))))))))))))))))))) (λu=>Qc (Qb) (w) u) Zq (by kernel_rfl) (λ_ _ _ _ _ h=>h) Z0 ?_;simp only[O0,Zf,Ze,Zd];iterate 3 (first|refine Vd (h:=?_)|refine Xi (h:=?_);try simp only[Act.put,Za,Zc,Zb])
  iterate 1 (apply YL λu B=>Ym (HB.o u B))
  iterate 3 (first|refine Vd (h:=?_)|refine Xi (h:=?_);try simp only[Act.put,Za,Zc,Zb])
  iterate 1 (apply YL λu B=>Ym (HB.o u B))
  iterate 3 (first|refine Vd (h:=?_)|refine Xi (h:=?_);try simp only[Act.put,Za,Zc,Zb])
  iterate 1 (apply YL λu B=>Ym (HB.o u B))
  iterate 3 (first|refine Vd (h:=?_)|refine Xi (h:=?_);try simp only[Act.put,Za,Zc,Zb])
  iterate 1 (apply YL λu B=>Ym (HB.o u B))
  clear a0;have D:=C0;iterate 4
   all_goals(first|refine Gn ?_ ?_|refine Xt ?_)
   all_goals go_wp2_with fail
   all_goals
    first
     |(refine(HT.o _ D.o).mono ?_;rintro e wn⟨tb,rfl,T⟩;have D:=O T.o.2.1;go_wp2_with fail)
     |(refine(HE.o _ D.o).mono ?_;rintro e wn⟨rb,rfl,E⟩;have D:=O E.o.2.1;go_wp2_with fail)
     |(refine(a7.o _ D.o).mono ?_;rintro e wn⟨pb,rfl,P⟩;have D:=O P.o.2.1;go_wp2_with fail)
     |(obtain⟨wn,hn,M⟩:=MM.o _ D.o;(try rw[show(w.alloc (.map #[] 0)).drew=w.drew.alloc (.map #[] 0)from rfl]);rw[<-hn];clear hn;have D:=O M.o.2.1)
   all_goals refine⟨D.o,?_⟩
  all_goals
   have FF:=O (ac.o _ _ _ _ _ _ _ _ _ _ _ D.o (T.o.1 _ (by repeat(first|exact Zg _ _|refine Qc.aA ?_ P.o.2.2|refine Qc.aA ?_ M.o.2.2.1|refine Qc.aA ?_ E.o.2.2|refine Qc.aA ?_ T.o.2.2))) (M.o.1 _ (by repeat(first|exact Zg _ _|refine Qc.aA ?_ P.o.2.2|refine Qc.aA ?_ M.o.2.2.1|refine Qc.aA ?_ E.o.2.2|refine Qc.aA ?_ T.o.2.2))) (E.o.1 _ (by repeat(first|exact Zg _ _|refine Qc.aA ?_ P.o.2.2|refine Qc.aA ?_ M.o.2.2.1|refine Qc.aA ?_ E.o.2.2|refine Qc.aA ?_ T.o.2.2))) (P.o.1 _ (by repeat(first|exact Zg _ _|refine Qc.aA ?_ P.o.2.2|refine Qc.aA ?_ M.o.2.2.1|refine Qc.aA ?_ E.o.2.2|refine Qc.aA ?_ T.o.2.2))) (by have s0:=T.o.2.2.size;have s1:=E.o.2.2.size;have s2:=P.o.2.2.size;have s3:=M.o.2.2.1.size;have z:=M.o.2.2.2;simp only[World.drew]at*;omega));iterate 1 (first|refine Vd (h:=?_)|refine Xi (h:=?_);try simp only[Act.put,Za,Zc,Zb])
   refine Xt ?_;go_wp2_with fail;refine⟨D.o.alloc _,?_⟩;refine Xt ?_;go_wp2_with fail;refine⟨D.o.alloc _,?_⟩;refine U9 ?_;go_wp2_with fail;go_meet;obtain⟨A',f1,f2⟩:=FF.o;exact⟨_,A',rfl,by have:=D.o.size;omega,f1,f2⟩
 case rest=>
  obtain⟨q,A1,rfl,hq,hS,c0⟩:=hcut;obtain⟨V,hV⟩:=Zx wc;rw[<-hV]at hS c0|-;clear hV a0;obtain⟨o,bf,av⟩:=Er (P:=prog) (HC.o V c0) underlying93;have af:Hi (∃lm dn,Qgb A w s L q V.heap.size (V.alloc o) lm dn):=O (by
   have cc:Qc Qb V (V.alloc o):=(Zg _ _).alloc _;exact⟨L,[],av,List.Sublist.refl _,by simp,c0.aA cc,⟨A1,_,(Qi.obj A1).aB hS cc (Jl.none _),λk I=>⟨I.1,by omega⟩⟩,c0.size⟩)
  have z0:=Ym (HB.o V c0);clear hS av;go_wp2_with fail;clear bf z0;go_loopw [4,5] (λ_ _ wr=>∃lm dn,Qgb A w s L q V.heap.size wr lm dn) (λ_ _ wr=>Dq wr V.heap.size);case atStart=>exact af.o
  case round=>
   obtain⟨lm,dn,K⟩:=hrel;rcases Rx (P:=prog) K.it 0 with⟨h0,hr⟩|⟨y,hy,w2,hr,ab,Z,au⟩
   .have bb:lm=[]:=by
     cases lm with
     |nil=>rfl
     |cons a l=>cases h0
    subst bb;have ac:Hi (Qt wr (Qn Qb w wr) q s/\Qc Qb w wr):=O (by
     obtain⟨A2,G2,J,R⟩:=K.co;have bc:dn.Perm L:=by simpa using K.perm
     refine⟨⟨A2,(Qi.obj A2).more (J.perm (s':=s) rfl rfl rfl rfl (bc.trans HP.o)) (λk I=>(Qr k).2 ⟨(R k I).1,(Qi.obj A2).bd J k I⟩) (λk I=>((Qr k).1 I).2)⟩,K.chg⟩)
    clear K;go_wp2_with fail;go_ret;exact⟨_,rfl,ac.o⟩
   .obtain⟨x,hx,rfl⟩:=Z3.1 hy;have ay:=K.sub.subset hx;have c2:Qc Qb w w2:=K.chg.trans Z (λk e=>.inr (by rw[e];exact K.nr));have U:=(Qi.obj A).aB HH.o c2 (Jl.none F);have ba:s.leaf x.id=some x:=by rw[So HP.o ae.o];exact Ls (key:=Qw.id) ae.o ay rfl
    obtain⟨qb,dv,ar,⟨rq,hQ⟩,Gd,hD⟩:=U.leafQ ba;have pv:=hD.ptr;obtain⟨A2,G2,J,R⟩:=K.co;have aa:=(Qi.obj A2).aB J Z (λk I e=>(R k I).2 e);have ai:=O (λw'(c:Qc Qb w2 w')=>c.blk ar (λh=>h));have a8:=O (λw'(c:Qc Qb w2 w')=>c.blk aa.blk (λh=>h));have a9:=O (λw'(c:Qc Qb w2 w')=>Qpo (hQ.aB c (λh=>h) (λh=>h)));have az:=O (λw'(c:Qc Qb w2 w')=>Qgv ((Kv.good _ _).aB hD c (Jl.none _)) (λd hd=>by
     have:=((a6.o x (HP.o.mem_iff.1 ay)).debt d hd).2.1;omega))
    have al:=O (λw3 w4 w5 bh rb ao hq bd be c3 hd c4 bg=>K.step J R ae.o hx ab Z (w3:=w3) (w4:=w4) (w5:=w5) (qb:=bh) (rb:=rb) (dv:=ao) hq bd be c3 hd c4 bg a5.o);have D2:=O (Zg Qb w2).drew;have l0:=Q4 (ai.o _ D2.o);dsimp only at hr au;clear K ab Z c2 U ar hQ hD J aa R hy;go_wp2_with fail;clear hr au;apply YC [100,101,102,103,104,5,6,7,8,110,111,112,113,209,214,15,216,317] Qb w2;iterate 3 (refine Qy (h:=?_);try simp only[Act.put,Za,Zc,Zb])
    iterate 1 (apply YK λu B=>Ym (a8.o u B))
    (refine Qy (h:=?_);try simp only[Act.put,Za,Zc,Zb]);iterate 4 (refine Xe (h:=?_))
    iterate 3 (refine Qy (h:=?_);try simp only[Act.put,Za,Zc,Zb])
    iterate 1 (apply YK λu B=>Q4 (ai.o u B))
    clear l0;refine Yb ?_;go_wp2_with fail;apply Zz (a9.o _ D2.o);rintro w3⟨ah,c3⟩;have C3:=O (D2.o.aA c3);have Q3:Hi (Jz w3 w2.heap.size (w2.heap.size+1) x.pk x.bt x.q):=O (ah);have LQ:=O ah.lt;clear ah c3;go_wp2_with fail;refine⟨C3.o,?_⟩;refine Yb ?_;go_wp2_with fail;refine(az.o _ C3.o).mono ?_;rintro e w4⟨ao,rfl,ag,c4⟩;obtain⟨bj,rfl⟩:=ag.ptr;obtain⟨w6,r6,ak,aj⟩:=al.o w3 w4 _ _ _ _ Q3.o (by have h:=LQ.o;have e:w2.drew.heap.size=w2.heap.size:=rfl;rw[e]at h;omega) (by have h:=LQ.o;have e:w2.drew.heap.size=w2.heap.size:=rfl;rw[e]at h;omega) C3.o ag c4 rfl;have C4:=O (C3.o.aA c4);have PP:=O (Zt ak aj);clear ag c4 ak aj;go_wp2_with fail;refine⟨C4.o,?_⟩;apply YA 0;go_wp2_with fail;refine⟨C4.o.alloc _,?_⟩;apply YI 0;go_wp2;exact⟨⟨_,_,PP.o.1⟩,PP.o.2⟩
end
section
variable{N M:Nat}{s s':Qf}
theorem A9:∀l:List Vm,∃n:Nat,∀c∈l,c.sp.id<(n:Int)
 |[]=>⟨0,nofun⟩
 |c::l=>by
  obtain⟨n,h⟩:=A9 l;refine⟨n+c.sp.id.toNat+1,λx d=>?_⟩;rcases Zu.1 d with rfl|d;·omega
  .have:=h x d;omega
theorem Qe6(h:Xp N s)(h':Xp M s')(z:∀i,s'.qOf i=s.qOf i):s'.many 0=s.many 0:=by obtain⟨n,u⟩:=A9 s.tree;obtain⟨m,q⟩:=A9 s'.tree;rw[(Qv8 h (n:=n+m) λc d=>by have:=u c d;omega).1,(Qv8 h' (n:=n+m) λc d=>by have:=q c d;omega).1];exact Pl λk _=>by rw[z]
theorem Qwl(h:Xp N s)(h':Xp M s'){i:Int}{v:Int}(J:0<=i)(q:∃c∈s.tree,c.sp.id=i)(I:s'.tree=s.tree)(E:∀j,((s'.qOf j).length:Int)=(s.qOf j).length+if j=i then v else 0):s'.many 0=s.many 0+v:=by
 obtain⟨n,d⟩:=A9 s.tree;obtain⟨c,u,z⟩:=q;have B:=d c u;rw[(Qv8 h d).1,(Qv8 h' (by rw[I];exact d)).1,<-Qwd (v:=v) (m:=i.toNat) (n:=n) (by omega),<-Qwc];refine Pl λk _=>?_;rw[E];by_cases e:(k:Int)=i;·rw[if_pos e,if_pos (by omega)]
 .rw[if_neg e,if_neg (by omega)]
theorem Qw6(h:Xp N s){p:Jr}(now:Nat)(d:s.aQ p=0):(s.push p now).many 0=s.many 0+1:=by
 obtain⟨c,l,k,_⟩:=Mk d;obtain⟨z,_,_,_,q,u⟩:=h.tree.pos k;refine Qwl h (h.push now d) (i:=p.cls) (by omega) ⟨c,u,q⟩ (Qpn p now) λj=>?_;rw[Qsg h now d];by_cases e:j=p.cls;·rw[if_pos e,if_pos e,e];simp
 .rw[if_neg e,if_neg e];simp
theorem Qw7{now:Nat}(c:s.who now=none):s.next now=(none,s):=by unfold Qf.next;rw[c]
theorem Qxr(h:Xp N s)(t:Nat):(s.next t=(none,s)/\s.who t=none)\/
  ∃c s',s.next t=(some c,s')/\Xp (N+16) s'/\s'.many 0+1=s.many 0/\Ll c.p/\(c.rule=1\/c.rule=2)/\s.qOf c.p.cls=c.p::s'.qOf c.p.cls/\(∀i,i≠c.p.cls->s'.qOf i=s.qOf i)/\s'.tree=s.tree:=by
 cases U:s.who t with
 |none=>exact .inl ⟨Qw7 U,rfl⟩
 |some x=>
  obtain⟨id,d⟩:=x;obtain⟨l,E,Z,hr⟩:=h.toVl.who U;have I:=h.take d E Z;have B:=Qsh h d E;obtain⟨k,ki,_⟩:=h.at E;obtain⟨c,hc,aa⟩:=h.leaf_at E;obtain⟨p1,_,_,_,p5,p6⟩:=h.tree.pos hc;have R:s.qOf id=l.q:=Ov E;obtain⟨p,q,u⟩:∃p q,l.q=p::q:=by
   cases hx:l.q with
   |nil=>exact absurd hx Z
   |cons a b=>exact⟨a,b,rfl⟩
  have V:=k.good p (by rw[u];exact List.mem_cons_self ..);have J:p.cls=id:=V.2.trans ki;have z:s.aX id d=⟨p,d,(s.aX id d).due⟩:=by unfold Qf.aX;rw[E];simp[u]
  refine .inr ⟨s.aX id d,s.take id d,by unfold Qf.next;rw[U],I,?_,by rw[z];exact V.1,by rw[z];exact hr,?_,?_,Qqk id d⟩
  .have:=Qwl h I (i:=id) (v:= -1) (by omega) ⟨c,p6,p5⟩ (Qqk id d) λj=>by
    rw[B];by_cases e:j=id;·rw[if_pos e,if_pos e,e,R,u];show(q.length:Int)=((p::q).length:Int)+ -1;rw[Zm];omega
    .rw[if_neg e,if_neg e];simp
   omega
  .rw[z];dsimp only;rw[J,B,if_pos rfl,R,u];rfl
  .rw[z];dsimp only;intro i hi;rw[B,if_neg (by rw[<-J];exact hi)]
end
theorem Qwh(n r:Nat)(k:1<=r):n<=(n+r-1)/r*r/\(n+r-1)/r*r<=n+r-1:=by have c:=Nat.lt_mul_div_succ (n+r-1) (show 0<r by omega);have d:=Nat.div_mul_le_self (n+r-1) r;rw[Nat.mul_succ,Nat.mul_comm]at c;exact⟨by omega,d⟩
theorem Qxu(l:V2){now:Nat}{c:Int}(u:1<=l.rate/\l.rate<=1048576)(E:l.aU<=now)(J:now<=1099511627776)(V:1<=c/\c<=65535):
  l.sendE now c=0/\(l.send now c).rate=l.rate/\(l.send now c).taken<=1152921504623624192/\now<=l.til now c/\(l.send now c).aU=l.til now c/\c.toNat*256+now*l.rate<(l.til now c+1)*l.rate:=by
 have e:l.sendE now c=0:=by unfold V2.sendE V2.free;rw[if_neg (by omega),if_neg (by omega),if_pos (by simpa using E)]
 have B:l.til now c=(l.send now c).aU:=by unfold V2.til;rw[if_pos e]
 have z:l.send now c=⟨l.rate,l.from_ now+c.toNat*256,false⟩:=by unfold V2.send;rw[if_pos e]
 have U:now*l.rate<=1152921504606846976:=Zp (Nat.mul_le_mul J u.2) (by decide);have I:l.from_ now<=now*l.rate/\now*l.rate<l.from_ now+l.rate:=by
  unfold V2.from_;split;·rename_i h;simp only[Zw,decide_eq_true_eq]at h;have d:=Qwh l.taken l.rate u.1;have:(l.taken+l.rate-1)/l.rate=now:=h.2.symm;rw[this]at d;omega
  .omega
 have d:=Qwh (l.from_ now+c.toNat*256) l.rate u.1;have R:(l.send now c).aU=(l.from_ now+c.toNat*256+l.rate-1)/l.rate:=by rw[z];rfl
 rw[B,R];generalize(l.from_ now+c.toNat*256+l.rate-1)/l.rate=q at d;have k:now<=q:=by
  have:now*l.rate<(q+1)*l.rate:=by rw[Nat.succ_mul];omega
  have:=Nat.lt_of_mul_lt_mul_right this;omega
 refine⟨e,by rw[z],by rw[z];show l.from_ now+c.toNat*256<=_;omega,k,rfl,?_⟩;rw[Nat.succ_mul];omega
theorem Qw4(l:V2)(t:Nat):(l.idle t).aU=l.aU/\(l.idle t).rate=l.rate/\(l.idle t).taken=l.taken:=by unfold V2.idle;split<;>exact⟨rfl,rfl,rfl⟩
theorem Qx3{b:Bool}{n x:Nat}(h:n<=Xw):Qx9 b n x<=Xw:=by unfold Qx9;split<;>omega
def St8(s:X7):Prop:=s.length=8/\∀n∈s,n<=Xw
theorem Qwz:St8 Qwi:=⟨rfl,λn c=>(by rw[show n=0 from(by simpa[Qwi]using c)];exact Nat.zero_le _)⟩
theorem St8.step{s:X7}(h:St8 s)(x:P5):St8 (Qwa s x):=by
 unfold Qwa;refine⟨by rw[List.length_set];exact h.1,λn d=>?_⟩;rcases List.mem_or_eq_of_mem_set d with c|rfl;·exact h.2 n c
 .refine Qx3 ?_;rw[List.getD_eq_getElem?_getD];cases k:s[x.k]? with
  |none=>exact Nat.zero_le _
  |some y=>exact h.2 y (List.mem_of_getElem? k)
theorem St8.fold{s:X7}(h:St8 s):∀l:List P5,St8 (l.foldl Qwa s):=λl=>by
 induction l generalizing s with
 |nil=>exact h
 |cons x l c=>exact c (h.step x)
theorem V1.aE{b:V1}{id:Int}{s:X7}(h:b.at id=some s):(id,s)∈b:=by unfold V1.at at h;obtain⟨x,c,rfl⟩:=Option.map_eq_some_iff.1 h;have:=List.find?_some c;simp only[decide_eq_true_eq]at this;rw[<-this];exact List.mem_of_find?_eq_some c
theorem BOk.get{b:V1}(h:BOk b)(id:Int):St8 (b.get id):=by
 unfold V1.get;cases c:b.at id with
 |none=>exact Qwz
 |some s=>exact h.eight _ (V1.aE c)
theorem Qwy(id:Int)(s:X7):∀b:V1,∀k,k∈(V1.set id s b).map (·.1)->k=id\/k∈b.map (·.1)
 |[],k,h=>by simpa[V1.set]using h
 |x::b,k,h=>by
  rw[V1.set]at h;split at h
  .rename_i e;rw[List.map_cons,Zu]at h|-;rcases h with h|h;·exact .inl h
   .exact .inr (.inr h)
  .rw[List.map_cons,Zu]at h|-;rcases h with h|h;·exact .inr (.inl h)
   .exact(Qwy id s b k h).imp (λe=>e) .inr
theorem Qwm(id:Int)(s:X7):∀b:V1,(b.map (·.1)).Nodup->((V1.set id s b).map (·.1)).Nodup
 |[],_=>by simp[V1.set]
 |x::b,h=>by
  rw[V1.set];obtain⟨d,k⟩:=List.nodup_cons.1 h;split;·rename_i e;subst e;exact h
  .rename_i e;refine List.nodup_cons.2 ⟨λc=>?_,Qwm id s b k⟩;rcases Qwy id s b _ c with c|c;·exact e c.symm
   .exact d c
theorem Qxf{id:Int}{s:X7}{x:Int×X7}:∀{b:V1},x∈V1.set id s b->x=(id,s)\/x∈b
 |[],h=>by simpa[V1.set]using h
 |y::b,h=>by
  rw[V1.set]at h;split at h
  .rcases Zu.1 h with h|h;·exact .inl h
   .exact .inr (Zr _ h)
  .rcases Zu.1 h with h|h;·exact .inr (by rw[h];exact List.mem_cons_self ..)
   .exact(Qxf h).imp (λe=>e) (Zr _)
theorem BOk.upd{b:V1}(h:BOk b)(id:Int)(l:List P5):BOk (b.upd id l):=
 ⟨Qwm _ _ _ h.nd,λx c=>by
  rcases Qxf c with rfl|c;·exact(h.get id).fold l
  .exact h.eight x c⟩
theorem BOk.tell{b:V1}(h:BOk b)(c:Int)(l:List P5):BOk (b.tell c l):=by unfold V1.tell;grind [Vl.upd,BOk.upd]
theorem BOk.drop{b:V1}(h:BOk b)(c:Int):BOk (b.drop c):=by
 unfold V1.drop;split;·exact h
 .have:=h.tell 0 (Qx5 (b.get c));exact⟨List.Pairwise.sublist (List.filter_sublist.map _) this.nd,λx d=>this.eight x (List.mem_filter.1 d).1⟩
theorem BOk.new:BOk V1.new:=⟨by decide,λx c=>by
 have:x=(0,Qwi):=by simpa[V1.new]using c
 rw[this];exact Qwz⟩
structure V4(K:Nat)(e:Vi):Prop where
 sok:∃N,Xp N e.sched/\N+17*(e.sched.many 0).toNat+(if e.aM.isSome then 1 else 0)+e.sent.length<=K
 rate:1<=e.rate/\e.rate<=1048576
 lrate:e.link.rate=e.rate
 hor:1<=e.hor/\e.hor<=1099511627776
 now:e.now<=e.hor
 taken:e.link.taken<=1152921504623624192
 free:e.aM=none->e.link.aU<=e.now
 und:∀x,e.aM=some x->x.til=e.link.aU/\e.now<=x.til
 book:BOk e.book
section
variable{K:Nat}{e:Vi}
theorem V4.more(h:V4 K e){M:Nat}(R:K<=M):V4 M e:=by obtain⟨⟨N,d,J⟩,k,q,u,z,B,E,I,c⟩:=h;exact⟨⟨N,d,by omega⟩,k,q,u,z,B,E,I,c⟩
theorem V4.new{c:Nat}{k:Int}{d:Nat}(h:Qxy c k d=0):V4 0 (Vi.new c k d):=by
 unfold Qxy at h;split at h;·exact absurd h (by decide)
 split at h;·exact absurd h (by decide)
 rename_i q u;refine⟨⟨0,Xp.new (by omega) (by omega),?_⟩,⟨show 1<=c by omega,show c<=1048576 by omega⟩,rfl,⟨show 1<=d by omega,show d<=1099511627776 by omega⟩,Nat.zero_le _,Nat.zero_le _,λ_=>?_,nofun,BOk.new⟩;·exact Zv 0
 .show(0+c-1)/c<=0;rw[Nat.div_eq_of_lt (by omega)];exact Zv 0
theorem V4.through(h:V4 K e){x:D7}(q:e.aM=some x)(d:x.til<=e.hor):V4 K (e.through x):=by
 obtain⟨⟨N,u,k⟩,z,B,E,R,I,U,J,c⟩:=h;refine⟨⟨N,u,?_⟩,z,B,E,d,I,λ_=>?_,nofun,c.tell _ _⟩;·rw[q]at k;show N+17*(e.sched.many 0).toNat+0+(e.sent++[x]).length<=K;simp at k|-;omega
 .show e.link.aU<=x.til;rw[(J x q).1];exact Zv _
theorem V4.til(h:V4 K e){t:Nat}(d:e.now<=t)(k:t<=e.hor)(u:∀x,e.aM=some x->t<=x.til):V4 K {e with now:=t}:=
 ⟨h.sok,h.rate,h.lrate,h.hor,k,h.taken,λq=>Zp (h.free q) d,λx c=>⟨(h.und x c).1,u x c⟩,h.book⟩
theorem V4.idle(h:V4 K e)(c:e.aM=none){t:Nat}(z:e.now<=t)(B:t<=e.hor):V4 K (e.idle t):=by
 obtain⟨l,d,E,q,u⟩:∃l,l=(if e.now<e.sched.tick then e.link.idle e.now else e.link)/\l.aU=e.link.aU/\l.rate=e.link.rate/\l.taken=e.link.taken:=by
  refine⟨_,rfl,?_⟩;split;·exact Qw4 _ _
  .exact⟨rfl,rfl,rfl⟩
 unfold Vi.idle;rw[<-d];refine⟨h.sok,h.rate,q.trans h.lrate,h.hor,?_,by show l.taken<=_;rw[u];exact h.taken,λ_=>?_,λx k=>(by rw[show e.aM=some x from k]at c;cases c),h.book⟩;·show min (max e.now e.sched.tick) t<=e.hor;omega
 .show l.aU<=min (max e.now e.sched.tick) t;have:=h.free c;omega
theorem V4.choose(h:V4 K e)(u:e.aM=none):
  (e.choose=(none,e)/\e.sched.who e.now=none)\/
  ∃c s,e.sched.next e.now=(some c,s)/\e.choose=(some ⟨1,e.chosen c⟩,{e with sched:=s,link:=e.link.send e.now c.p.len,aM:=some (e.chosen c),book:=e.book.tell c.p.cls (Qwn c.p c.rule)})/\V4 K e.choose.2/\e.choose.2.left+1=e.left/\
   e.link.sendE e.now c.p.len=0/\Ll c.p/\(c.rule=1\/c.rule=2)/\e.sched.qOf c.p.cls=c.p::s.qOf c.p.cls/\(∀i,i≠c.p.cls->s.qOf i=e.sched.qOf i)/\s.tree=e.sched.tree/\e.now<=(e.chosen c).til/\c.p.len.toNat*256+e.now*e.rate<((e.chosen c).til+1)*e.rate:=by
 obtain⟨N,J,z⟩:=h.sok;rcases Qxr J e.now with⟨k,hw⟩|⟨c,s,k,q,hm,B,Z,V,U,ht⟩;·exact .inl ⟨by unfold Vi.choose;rw[k],hw⟩
 .have d:e.choose=(some ⟨1,e.chosen c⟩,{e with sched:=s,link:=e.link.send e.now c.p.len,aM:=some (e.chosen c),book:=e.book.tell c.p.cls (Qwn c.p c.rule)}):=by unfold Vi.choose;rw[k]
  obtain⟨s1,s2,s3,E,s5,I⟩:=Qxu e.link (by rw[h.lrate];exact h.rate) (h.free u) (Zp h.now h.hor.2) B;have R:=Qhw (s:=s) 0;rw[h.lrate]at I;refine .inr ⟨c,s,k,d,?_,?_,s1,B,Z,V,U,ht,E,I⟩
  .rw[d];refine⟨⟨N+16,q,?_⟩,h.rate,s2.trans h.lrate,h.hor,h.now,s3,nofun,λx hx=>?_,h.book.tell _ _⟩;·show N+16+17*(s.many 0).toNat+1+e.sent.length<=K;rw[u]at z;simp at z;omega
   .obtain rfl:e.chosen c=x:=Zs hx;exact⟨s5.symm,E⟩
  .rw[d];unfold Vi.left;rw[u];show 2*(s.many 0).toNat+1+1=2*(e.sched.many 0).toNat+0;omega
theorem Qwo(h:V4 K e)(c:Nat):e.now<=e.clip c/\e.clip c<=e.hor:=by have:=h.now;unfold Vi.clip;omega
theorem V4.tick(h:V4 K e){t:Nat}(d:t<=1099511627776):(∃x,e.sched.who t=some x)↔e.sched.tick<=t:=by obtain⟨N,c,_⟩:=h.sok;exact Qs6 c c.sr.row (Nat.lt_of_le_of_lt d (by decide))
theorem V4.step(h:V4 K e)(til:Nat):
  V4 K (e.step til).2/\(∀x,(e.step til).1=some x->(e.step til).2.left+1=e.left)/\
  ((e.step til).1=none->e.stopped=false->(e.step til).2.now=e.clip til/\(e.step til).2.aM=e.aM/\(e.step til).2.sched=e.sched/\(e.step til).2.sent=e.sent/\(e.step til).2.book=e.book/\
   (∀x,e.aM=some x->e.clip til<x.til/\(e.step til).2.link=e.link)/\(e.aM=none->e.clip til<e.sched.tick)):=by
 obtain⟨I,B⟩:=Qwo h til;unfold Vi.step;split;·rename_i hs;exact⟨h,λx d=>(by cases d),λ_ u=>(by rw[hs]at u;cases u)⟩
 .rename_i hs;split
  .rename_i x d;split;·rename_i z;refine⟨h.through d (Zp z B),λ_ _=>?_,λq=>(by cases q)⟩;unfold Vi.left Vi.through;rw[d];simp
   .rename_i z;exact⟨h.til I B (λy k=>by rw[d]at k;obtain rfl:=Zs k;omega),λx d=>(by cases d),λ_ _=>⟨rfl,rfl,rfl,rfl,rfl,λy k=>(by rw[d]at k;obtain rfl:=Zs k;exact⟨by omega,rfl⟩),λq=>(by rw[d]at q;cases q)⟩⟩
  .rename_i E;split;·rename_i ht;refine⟨h.idle E I B,λx d=>(by cases d),λ_ _=>⟨?_,rfl,rfl,rfl,rfl,λy k=>(by rw[E]at k;cases k),λ_=>by omega⟩⟩;show min (max e.now e.sched.tick) (e.clip til)=e.clip til;omega
   .rename_i ht;have hi:=h.idle E I B;have R:(e.idle (e.clip til)).now=max e.now e.sched.tick:=by show min (max e.now e.sched.tick) (e.clip til)=_;omega
    have hl:(e.idle (e.clip til)).left=e.left:=rfl;rcases hi.choose E with⟨_,Z⟩|⟨c,s,_,J,V,U,_⟩;·have hb:=h.hor.2;obtain⟨x,d⟩:=(h.tick (t:=max e.now e.sched.tick) (by omega)).2 (by omega);rw[R]at Z;rw[show(e.idle (e.clip til)).sched=e.sched from rfl,d]at Z;cases Z
    .refine⟨V,λ_ _=>by rw[U,hl],λq=>?_⟩;rw[J]at q;cases q
theorem V4.all(c:Nat):∀(n:Nat){e:Vi},V4 K e->V4 K (Vi.all c n e)
 |0,_,h=>h
 |n+1,e,h=>by
  rw[Vi.all];split;·exact(h.step c).1
  .exact V4.all c n (h.step c).1
theorem Qwu(c:Nat):∀(n m:Nat){e:Vi},V4 K e->e.left<n->e.left<m->Vi.all c n e=Vi.all c m e
 |0,_,e,_,h,_=>absurd h (Nat.not_lt_zero _)
 |_+1,0,e,_,_,h=>absurd h (Nat.not_lt_zero _)
 |n+1,m+1,e,ok,h1,h2=>by
  rw[Vi.all,Vi.all];obtain⟨k,q,_⟩:=ok.step c;cases d:(e.step c).1 with
  |none=>rfl
  |some x=> have:=q x d;exact Qwu c n m k (by omega) (by omega)
theorem V4.run(h:V4 K e)(til:Nat):V4 K (e.run til):=h.all til _
theorem P6(h:V4 K e){til:Nat}{x:EvM}(c:(e.step til).1=some x):e.run til=(e.step til).2.run til:=by obtain⟨d,k,_⟩:=h.step til;have:=k x c;unfold Vi.run;rw[Vi.all];simp only[c];exact Qwu til _ _ d (by omega) (by omega)
theorem G9{til:Nat}(c:(e.step til).1=none):e.run til=(e.step til).2:=by unfold Vi.run;rw[Vi.all];simp only[c]
theorem Qwr{P:Vi->Prop}{til:Nat}(k:∀e,V4 K e->P e->(e.step til).1.isSome=true->P (e.step til).2){Q:Vi->Prop}(d:∀e,V4 K e->P e->(e.step til).1=none->Q (e.step til).2):
  ∀(n:Nat){e:Vi},e.left<n->V4 K e->P e->Q (e.run til)
 |0,_,h,_,_=>absurd h (Nat.not_lt_zero _)
 |n+1,e,h,ok,hp=>by
  obtain⟨q,u,_⟩:=ok.step til;cases c:(e.step til).1 with
  |none=>rw[G9 c];exact d e ok hp c
  |some x=> have:=u x c;rw[P6 ok c];exact Qwr k d n (by omega) q (k e ok hp (by rw[c];rfl))
theorem W8(e:Vi)(til:Nat):(e.step til).2.hor=e.hor/\(e.step til).2.rate=e.rate:=by
 unfold Vi.step;split;·exact⟨rfl,rfl⟩
 .split;·split<;>exact⟨rfl,rfl⟩
  .split;·exact⟨rfl,rfl⟩
   .unfold Vi.choose;split<;>exact⟨rfl,rfl⟩
theorem V3(h:e.stopped=true)(til:Nat):e.step til=(none,e):=by unfold Vi.step;rw[if_pos h]
theorem Qxc(h:V4 K e){til:Nat}(J:e.now<=til)(U:e.stopped=false):(e.run til).now=min til e.hor:=by
 refine Qwr (K:=K) (P:=λx=>x.hor=e.hor/\x.now<=min til e.hor) (til:=til) (λx u q d=>?_) (Q:=λx=>x.now=min til e.hor) (λx u q d=>?_) _ (Nat.lt_succ_self _) h ⟨rfl,by have:=h.now;omega⟩
 .obtain⟨z,R⟩:=q;refine⟨(W8 x til).1.trans z,?_⟩;have k:x.clip til<=min til e.hor:=by unfold Vi.clip;omega
  unfold Vi.step at d|-;split;·rename_i B;rw[if_pos B]at d;cases d
  .split
   .rename_i y Z;split;·rename_i E;show y.til<=_;omega
    .show x.clip til<=_;exact k
   .split;·show min _ (x.clip til)<=_;omega
    .rename_i V E;have I:(x.idle (x.clip til)).now<=min til e.hor:=by show min _ (x.clip til)<=_;omega
     unfold Vi.choose;split<;>exact I
 .obtain⟨z,R⟩:=q;by_cases c:x.stopped=true;·rw[V3 c];unfold Vi.stopped at c;simp only[decide_eq_true_eq]at c;show x.now=_;omega
  .have:=((u.step til).2.2 d (by simpa using c)).1;rw[this];unfold Vi.clip;omega
end
section
variable{K:Nat}{e:Vi}
theorem V4.add(h:V4 K e)(s:Yk):V4 K (e.add s):=by
 unfold Vi.add;split;·exact h
 .obtain⟨N,c,k⟩:=h.sok;by_cases d:e.sched.aO s=0;·have:=Qe6 c (c.add d) (Qt8 c s);exact⟨⟨N,c.add d,by show N+17*((e.sched.add s).many 0).toNat+_+_<=K;rw[this];exact k⟩,h.rate,h.lrate,h.hor,h.now,h.taken,h.free,h.und,h.book⟩
  .rw[Qem d];exact h
theorem V4.change(h:V4 K e)(s:Yk):V4 K (e.change s):=by
 unfold Vi.change;split;·exact h
 .obtain⟨N,d,k⟩:=h.sok;by_cases c:e.sched.aG s=0;·have:=Qe6 d (d.change c) (Qbb s);exact⟨⟨N,d.change c,by show N+17*((e.sched.change s).many 0).toNat+_+_<=K;rw[this];exact k⟩,h.rate,h.lrate,h.hor,h.now,h.taken,h.free,h.und,h.book⟩
  .rw[Sj c];exact h
theorem V4.drop(h:V4 K e)(i:Int):V4 K (e.drop i):=by
 unfold Vi.drop;split;·exact h
 .obtain⟨N,c,k⟩:=h.sok;split;·rename_i d;have:=Qe6 c (c.drop d) (Qsf c i);exact⟨⟨N,c.drop d,by show N+17*((e.sched.drop i).many 0).toNat+_+_<=K;rw[this];exact k⟩,h.rate,h.lrate,h.hor,h.now,h.taken,h.free,h.und,h.book.drop i⟩
  .exact h
theorem V4.adv(h:V4 K e)(til:Nat):V4 K (e.adv til):=by
 unfold Vi.adv;split;·exact h.run til
 .exact h
def Vi.came(e:Vi)(q:Jr):Vi:={e with sched:=e.sched.push q e.now,book:=e.book.tell q.cls (Qx4 q)}
def Vi.refused(e:Vi)(q:Jr):Vi:={e with book:=e.book.tell q.cls Qwx}
theorem Qwb(e:Vi)(p:Jr):e.arr p=if e.stopped then e else if(e.run e.now).sched.aQ (e.arrP p)=0 then((e.run e.now).came (e.arrP p)).run (e.run e.now).now else(e.run e.now).refused (e.arrP p):=rfl
theorem V4.came(h:V4 K e){q:Jr}(c:e.sched.aQ q=0):V4 (K+33) (e.came q):=by obtain⟨N,d,k⟩:=h.sok;have:=Qw6 d e.now c;have u:=Qhw (s:=e.sched) 0;refine⟨⟨N+16,d.push e.now c,?_⟩,h.rate,h.lrate,h.hor,h.now,h.taken,h.free,h.und,h.book.tell _ _⟩;show N+16+17*((e.sched.push q e.now).many 0).toNat+(if e.aM.isSome then 1 else 0)+e.sent.length<=K+33;omega
theorem V4.refused(h:V4 K e)(q:Jr):V4 K (e.refused q):=⟨h.sok,h.rate,h.lrate,h.hor,h.now,h.taken,h.free,h.und,h.book.tell _ _⟩
theorem V4.arr(h:V4 K e)(p:Jr):V4 (K+33) (e.arr p):=by
 rw[Qwb];split;·exact h.more (by omega)
 .split;·rename_i c;exact((h.run _).came c).run _
  .exact((h.run _).refused _).more (by omega)
def P4(now c:Nat):Nat:=min (now+c%1048576) 1099511627781
def Vi.does(e:Vi)(k:Nat)(s:Yk)(p:Jr)(c:Nat):Vi:=
 if k%7=0 then e.add s else if k%7=1 then e.change s else if k%7=2 then e.drop s.id else if k%7=3 then e.arr p else if k%7=4 then e.adv (P4 e.now c)else(e.step (P4 e.now c)).2
def Vi.aY(e:Vi)(k:Nat)(s:Yk)(p:Jr)(c:Nat):Int:=
 if k%7=0 then e.aO s else if k%7=1 then e.aG s else if k%7=2 then e.aP s.id else if k%7=3 then e.arrE p else if k%7=4 then e.advE (P4 e.now c)else 0
theorem V4.does(h:V4 K e)(k:Nat)(s:Yk)(p:Jr)(c:Nat):V4 (K+33) (e.does k s p c):=by
 unfold Vi.does;split;·exact(h.add s).more (by omega)
 split;·exact(h.change s).more (by omega)
 split;·exact(h.drop s.id).more (by omega)
 split;·exact h.arr p
 split;·exact(h.adv _).more (by omega)
 .exact(h.step _).1.more (by omega)
end
def Qx6(l:V2):Array Value:=#[ZU l.rate,ZU l.taken,.bool l.idles]
abbrev P3(w:World)(F:Fp)(b:Nat)(l:V2):Prop:=Tv b (Qx6 l) 125 w F
theorem P3.obj:Hf P3:=Qwp (λb x=>Ks _ _ _) (λh=>h.2.1)
theorem P3.set{w w'}{F:Fp}{b:Nat}{l l':V2}(h:P3 w F b l)(q:Qc (λk=>k=b) w w')(d:Qh w' b (Qx6 l') 125):P3 w' (Qn F w w') b l'/\Qc F w w':=by have c:Qc F w w':=q.sub λk e=>e▸h.2.1;exact⟨⟨d,.inl h.2.1,h.2.2.ext c⟩,c⟩
def Qye(s:X7):List Value:=s.map λ(n:Nat)=>ZU n
def Qw0(s:X7):Array Value:=(Qye s).toArray
def Qv7(b:V1):List (Int×Value):=b.map λx=>(x.1,.agg (Qw0 x.2))
def Qxp(m b:Nat)(c:V1):List Ya:=[Tv b #[.map (some m)] 130,Qo8 m (Qv7 c)]
theorem Qwg(m b:Nat)(d:V1):∀P∈Qxp m b d,Uy P:=by
 intro P c;simp only[Qxp,Zu,List.not_mem_nil,or_false]at c;rcases c with rfl|rfl;·exact Ks _ _ _
 .exact Qhd _ _
def Qau(w:World)(F:Fp)(b:Nat)(bk:V1):Prop:=∃m,Oh (Qxp m b bk) w F
theorem Qau.obj:Hf Qau:=Qwp (λb x=>Qtk λm=>Je (Qwg m b x)) λ⟨m,h⟩=>by obtain⟨G,c,d⟩:=J6 (Qwg _ _ _) 0 rfl h;exact d _ c.2.1
theorem Qw1(b:V1)(i:Int):look i (Qv7 b)=(b.at i).map λs=>.agg (Qw0 s):=by
 unfold look V1.at Qv7
 suffices h:∀(b:V1)(n:Nat),(Oe i (b.map λx=>(x.1,.agg (Qw0 x.2))) n).map (·.2)=((b.find? λx=>decide (x.1=i)).map (·.2)).map λs=>Value.agg (Qw0 s)from h b 0
 intro b;induction b with
 |nil=>intro n;rfl
 |cons x b c=>
  intro n;rw[List.map_cons,Oe,List.find?_cons];by_cases e:x.1=i;·rw[if_pos e.symm];simp[e]
  .rw[if_neg (λh=>e h.symm),c];simp[e]
theorem Qwk(i:Int)(s:X7):∀b:V1,Oi i (.agg (Qw0 s)) (Qv7 b)=Qv7 (V1.set i s b)
 |[]=>rfl
 |x::b=>by
  unfold Qv7;rw[V1.set,List.map_cons,Oi];split;·rfl
  .rw[List.map_cons];exact congrArg _ (Qwk i s b)
theorem Qxg(i:Int)(b:V1):Vu i (Qv7 b)=Qv7 (b.filter λx=>!decide (x.1=i)):=by unfold Vu Qv7;rw[List.filter_map];rfl
def Qxe(x:D7):List Value:=[ZU x.p.id,ZI x.p.cls,ZI x.p.len,ZU x.p.at_,.int .u8 x.rule,ZU x.frm,ZU x.til,ZU x.due]
theorem Qws(x:D7):(Qxe x).length=8:=rfl
def Qyd:D7:=⟨Jr.zero,0,0,0,0⟩
abbrev Qxw(w:World)(v:Value)(l:List D7):Prop:=Own Qxe 8 51 w v l
def Qwq(v:Value)(l:List D7):Ya:=λw F=>Qxw w v l/\(∀k,v.ownBlock=some k->F k)/\Bd F w
theorem Qww(v:Value)(l:List D7):Uy (Qwq v l) where
 bd:=λh=>h.2.2
 aB:=λh d u=>⟨h.1.aB d (λk c=>u k (h.2.1 k c)),h.2.1,h.2.2.later d⟩
 more:=λh z q=>⟨h.1,λk c=>z k (h.2.1 k c),q⟩
theorem sentT:Qce prog Qxe 8 43 51 64 Qyd where
 ht:=underlying43
 hi:=Ee (by kernel_rfl)
 pos:=by decide
 hc:=Qws
 one:=λx u c=>by simp only[Qxe,Zu,List.not_mem_nil,or_false]at c;rcases c with rfl|rfl|rfl|rfl|rfl|rfl|rfl|rfl<;>rfl
structure EAd where
 sb:Nat
 lb:Nat
 kb:Nat
 us:Value
 ss:Value
def Qyg(A:EAd)(e:Vi):Array Value:=#[ZU e.rate,ZI e.most,ZU e.hor,ZU e.now,ptr A.sb,ptr A.lb,ptr A.kb,A.us,A.ss]
def Qxi(cs:Array Value)(A:EAd)(b:Nat)(e:Vi):List Ya:=
 [Tv b cs 87,λw F=>Qt w F A.sb e.sched,λw F=>P3 w F A.lb e.link,λw F=>Qau w F A.kb e.book,Qwq A.us e.aM.toList,Qwq A.ss e.sent]
theorem N3(cs:Array Value)(A:EAd)(b:Nat)(e:Vi):∀P∈Qxi cs A b e,Uy P:=by
 intro P c;simp only[Qxi,Zu,List.not_mem_nil,or_false]at c;rcases c with rfl|rfl|rfl|rfl|rfl|rfl;·exact Ks _ _ _
 .exact Qt.obj.good _ _
 .exact P3.obj.good _ _
 .exact Qau.obj.good _ _
 .exact Qww _ _
 .exact Qww _ _
def V6(cs:Array Value)(A:EAd)(w:World)(F:Fp)(b:Nat)(e:Vi):Prop:=Oh (Qxi cs A b e) w F
abbrev Qyf(A:EAd)(w:World)(F:Fp)(b:Nat)(e:Vi):Prop:=V6 (Qyg A e) A w F b e
def Qxn(w:World)(F:Fp)(b:Nat)(e:Vi):Prop:=∃A,Qyf A w F b e
theorem Qw9{w}{F:Fp}{P0:Ya}{L:List Ya}{i:Nat}{P:Ya}(J:∀Q∈P0::L,Uy Q)(Z:(P0::L)[i+1]? =some P)(h:Oh (P0::L) w F):
  ∃c:Fp,P0 w c/\(∀k,c k->F k)/\∃G:Fp,P w G/\(∀k,G k->F k)/\Jl c G/\∀w' Q,Qc G w w'->Q w' (Qn G w w')->Oh (P0::L.set i Q) w' (Qn F w w'):=by
 obtain⟨I,c,K,E,U,d,B,s1⟩:=h;obtain⟨G,k1,z,k3,k4⟩:=Xv i (λR V=>J R (Zr _ V)) (by simpa using Z) U;exact⟨c,E,B,G,k1,λk q=>s1 k (z k q),d.subR z,λw' Q u hq=>⟨I.ext u,c,Qn K w w',(J P0 (List.mem_cons_self ..)).aB E u (d.subR z),k4 w' Q u hq,Jl.extR d (I.sub B),λk q=>.inl (B k q),λk q=>Qn.mono s1 k q⟩⟩
section
variable{cs cs':Array Value}{A:EAd}{w w':World}{F:Fp}{b:Nat}{e:Vi}
theorem V6.good(cs:Array Value)(A:EAd)(b:Nat)(e:Vi):Uy (λw F=>V6 cs A w F b e):=Je (N3 cs A b e)
theorem V6.blk(h:V6 cs A w F b e):Qh w b cs 87/\F b:=by obtain⟨G,c,d⟩:=J6 (N3 cs A b e) 0 rfl h;exact⟨c.1,d _ c.2.1⟩
theorem Qxn.obj:Hf Qxn:=Qwp (λb x=>Qtk λA=>V6.good _ A b x) λ⟨A,h⟩=>h.blk.2
theorem V6.aB(h:V6 cs A w F b e)(c:Qc Qb w w'):V6 cs A w' F b e:=(V6.good cs A b e).aB h c (Jl.none F)
theorem V6.cells(h:V6 cs A w F b e)(d:Qc (λk=>k=b) w w')(c:Qh w' b cs' 87):V6 cs' A w' (Qn F w w') b e/\Qc F w w':=
 (Xv 0 (N3 cs A b e) rfl h).cells d c
theorem V6.part(h:V6 cs A w F b e)(i:Nat){P:Ya}(K:(Qxi cs A b e)[i+1]? =some P):
  ∃G:Fp,P w G/\(∀k,G k->F k)/\¬G b/\∀w' d q Q,Qxi cs d b q=(Qxi cs A b e).set (i+1) Q->Q w' (Qn G w w')->Qc G w w'->V6 cs d w' (Qn F w w') b q/\Qc F w w':=by
 obtain⟨V,z,_,G,B,u,E,I⟩:=Qw9 (N3 cs A b e) K h;refine⟨G,B,u,λJ=>E b z.2.1 J,λw' d q Q U R c=>⟨?_,c.sub u⟩⟩;have:=I w' Q c R;rw[<-Zb]at this;unfold V6;rw[U];exact this
theorem V6.schedOf(h:V6 cs A w F b e):∃G:Fp,Qt w G A.sb e.sched/\(∀k,G k->F k)/\¬G b/\∀w' s,Qt w' (Qn G w w') A.sb s->Qc G w w'->V6 cs A w' (Qn F w w') b {e with sched:=s}/\Qc F w w':=by obtain⟨G,c,d,q,u⟩:=h.part 0 rfl;exact⟨G,c,d,q,λw' s B z=>u w' A {e with sched:=s} (λw F=>Qt w F A.sb s) rfl B z⟩
theorem V6.linkOf(h:V6 cs A w F b e):∃G:Fp,P3 w G A.lb e.link/\(∀k,G k->F k)/\¬G b/\∀w' l,P3 w' (Qn G w w') A.lb l->Qc G w w'->V6 cs A w' (Qn F w w') b {e with link:=l}/\Qc F w w':=by obtain⟨G,c,d,q,u⟩:=h.part 1 rfl;exact⟨G,c,d,q,λw' l B z=>u w' A {e with link:=l} (λw F=>P3 w F A.lb l) rfl B z⟩
theorem V6.bookOf(h:V6 cs A w F b e):∃G:Fp,Qau w G A.kb e.book/\(∀k,G k->F k)/\¬G b/\∀w' l,Qau w' (Qn G w w') A.kb l->Qc G w w'->V6 cs A w' (Qn F w w') b {e with book:=l}/\Qc F w w':=by obtain⟨G,c,d,q,u⟩:=h.part 2 rfl;exact⟨G,c,d,q,λw' l B z=>u w' A {e with book:=l} (λw F=>Qau w F A.kb l) rfl B z⟩
theorem V6.underOf(h:V6 cs A w F b e):∃G:Fp,Qwq A.us e.aM.toList w G/\(∀k,G k->F k)/\¬G b/\∀w' v(x:Option D7),Qwq v x.toList w' (Qn G w w')->Qc G w w'->V6 cs {A with us:=v} w' (Qn F w w') b {e with aM:=x}/\Qc F w w':=by obtain⟨G,c,d,q,u⟩:=h.part 3 rfl;exact⟨G,c,d,q,λw' v x B z=>u w' {A with us:=v} {e with aM:=x} (Qwq v x.toList) rfl B z⟩
theorem V6.sentOf(h:V6 cs A w F b e):∃G:Fp,Qwq A.ss e.sent w G/\(∀k,G k->F k)/\¬G b/\∀w' v l,Qwq v l w' (Qn G w w')->Qc G w w'->V6 cs {A with ss:=v} w' (Qn F w w') b {e with sent:=l}/\Qc F w w':=by obtain⟨G,c,d,q,u⟩:=h.part 4 rfl;exact⟨G,c,d,q,λw' v l B z=>u w' {A with ss:=v} {e with sent:=l} (Qwq v l) rfl B z⟩
theorem V6.now(h:V6 cs A w F b e)(t:Nat):V6 cs A w F b {e with now:=t}:=h
end
section
variable{w:World}{F:Fp}{b:Nat}{l:V2}
theorem Q16(c:Nat)(w)(h:c<1\/1048576<c):ZW 29 #[ZU c] w (.tuple #[.pointer none,ZI 240]) λw'=>Qc Qb w w':=by
 by_cases u:c<1
 .have k:decide ((c:Int)<1)=true:=by simp;omega
  have d:decide (c<1)=true:=by simp;omega
  apply WH func29;go_wp2;go_ret2;refine⟨rfl,?_⟩;(exact Z0)
 .have B:1048576<c:=h.resolve_left u;have k:decide ((c:Int)<1)=false:=by simp;omega
  have d:decide (c<1)=false:=by simp;omega
  have z:decide ((1048576:Int)<(c:Int))=true:=by simp;omega
  have q:decide (1048576<c)=true:=by simp;omega
  apply WH func29;go_wp2;go_ret2;refine⟨rfl,?_⟩;(exact Z0)
theorem Qz9(d:Nat)(w)(R:1<=d)(U:d<=1048576):Cl 29 #[ZU d] w λe w'=>∃b,e=.returned (.tuple #[ptr b,ZI 0])/\P3 w' (Qn Qb w w') b (.new d)/\Qc Qb w w':=by
 have J:decide ((d:Int)<1)=false:=by simp;omega
 have B:decide (d<1)=false:=by simp;omega
 have K:decide ((1048576:Int)<(d:Int))=false:=by simp;omega
 have E:decide (1048576<d)=false:=by simp;omega
 have q:Hi (∀w1,Qc Qb w w1->P3 (w1.alloc (.cells #[ZU d,ZU 0,.bool true] 125)) (Qn Qb w (w1.alloc (.cells #[ZU d,ZU 0,.bool true] 125))) w1.heap.size (.new d)/\Qc Qb w (w1.alloc (.cells #[ZU d,ZU 0,.bool true] 125))):=O (λw1 c=>by
  have u:Qh (w1.alloc (.cells #[ZU d,ZU 0,.bool true] 125)) w1.heap.size #[ZU d,ZU 0,.bool true] 125:=Qh.new _ _ _;exact⟨⟨u,.inr ⟨c.size,u.lt⟩,λk I=>((Qr k).1 I).2⟩,c.alloc _⟩)
 have z:=O (Zg Qb w);unfold ptr;apply WH func29;go_wp2;go_ret2;exact⟨_,rfl,q.o _ z.o⟩
theorem Qzb{c:Nat}{v1 v2:Value}(h:Qh w b #[ZU c,v1,v2] 125)(z:1<=c):ZW 136 #[ptr b] w (.bool false) λw'=>w=w':=by
 have d:=L6 h;have k:((c:Int)==0)=false:=by simp;omega
 have q:decide ((c:Int)=0)=false:=by simp;omega
 have u:decide (c=0)=false:=by simp;omega
 unfold ptr;clear h;apply WH func136;exact WE
theorem Q0x{c g:Nat}{v1 v2:Value}(h:Qh w b #[ZU c,v1,v2] 125)(R:1<=c)(U:c<=1048576)(K:g<=1152921504623624192):ZW 191 #[ptr b,ZU g] w (ZU (((g+c-1)/c:Nat):Int)) λw'=>Qc Qb w w':=by
 have E:=L6 ((Zg Qb w).drew.blk h (λh=>h));have B:IntKind.u64.wrap ((g:Int)+(c:Int))=((g+c:Nat):Int):=by rw[IntWalk.u64_in _ (by omega)];omega
 have d:IntKind.u64.wrap (((g+c:Nat):Int)-1)=((g+c-1:Nat):Int):=by rw[IntWalk.u64_in _ (by omega)];omega
 have I:((c:Int)==0)=false:=by simp;omega
 have J:(c:Int)≠0:=by omega
 have u:(g+c-1)/c<=g+c-1:=Nat.div_le_self _ _;have k:IntKind.u64.wrap (((g+c-1:Nat):Int)/(c:Int))=(((g+c-1)/c:Nat):Int):=by rw[<-Int.natCast_ediv];generalize(g+c-1)/c=q at u|-;rw[IntWalk.u64_in _ (by omega)]
 have V:¬c=0:=by omega
 have z:=O (Zg Qb w).drew;generalize(g+c-1)/c=q at k|-;generalize g+c-1=p at d k;generalize g+c=Z at B d;unfold ptr;clear h u;apply WH func191;go_wp2_with fail;apply XB 2000000000000;apply YI 0;exact WD z
structure Qy9(l:V2):Prop where
 rate:1<=l.rate/\l.rate<=1048576
 taken:l.taken<=1152921504623624192
theorem Qy4(h:Qh w b (Qx6 l) 125)(c:Qy9 l):ZW 137 #[ptr b] w (ZU l.aU) λw'=>Qc Qb w w':=by have z:=O (Qzb h c.rate.1);have d:=O (Q0x h c.rate.1 c.rate.2 c.taken);have B:=L6 h;have q:(l.taken+l.rate-1)/l.rate=l.aU:=rfl;rw[q]at d;clear h c q;apply WH func137;go_wp2_with fail;apply Zy z;rintro w1 rfl;go_wp2_with fail;apply ZQ d;intro w1 u;exact WD u
theorem Qzy(h:Qh w b (Qx6 l) 125)(d:Qy9 l)(now:Nat):ZW 82 #[ptr b,ZU now] w (.bool (l.free now)) λw'=>Qc Qb w w':=by
 have E:=O (Qzb h d.rate.1);have k:=O (Qy4 h d);have z:decide ((l.aU:Int)<=(now:Int))=l.free now:=by unfold V2.free;simp
 have c:decide (l.aU<=now)=l.free now:=rfl;generalize l.aU=u at k z c;generalize l.free now=v at z c|-;clear h d;apply WH func82;go_wp2_with fail;apply Zy E;rintro w1 rfl;go_wp2_with fail;apply ZQ k;intro w1 B;exact WD B
theorem Q1a(h:P3 w F b l)(E:Qy9 l)(now:Nat):ZW 45 #[ptr b,ZU now] w (.tuple #[]) λw'=>P3 w' (Qn F w w') b (l.idle now)/\Qc F w w':=by
 have u:=O (Qzy h.1 E now);have B:=O (λw1 w' l'(c:Qc Qb w w1)(U:Qc (λk=>k=b) w1 w')R=>h.set (l':=l') (c.none.aA U) R);have q:=O (λw1(c:Qc Qb w w1)=>P3.obj.same h c);have J:=O h.1;unfold V2.idle;cases d:l.free now with
 |true=> rw[d]at u;rw[if_pos rfl];unfold ptr Qx6 at*;clear h E d;apply WH func45;go_wp2_with fail;apply Zy u;intro w1 c;have z:=O (c.blk J.o (λh=>h));have I:=O c;clear c;have V:=L6 z.o;have f2:=z.o.frozen;go_wp2;refine WB rfl rfl ⟨rfl,B.o _ _ _ I.o ((Zg _ _).setCell _ (.inl rfl)) (z.o.set' 2 _ rfl)⟩
 |false=> rw[d]at u;rw[if_neg Bool.false_ne_true];unfold ptr Qx6 at*;clear h E d;apply WH func45;go_wp2_with fail;apply ZF u (λ_ c=>q.o _ c);intro w1 K;exact WD K
theorem Q0y(h:Qh w b (Qx6 l) 125)(k:Qy9 l){now:Nat}{c:Int}(d:l.sendE now c=0):ZW 139 #[ptr b,ZU now,ZI c] w (ZI 0) λw'=>Qc Qb w w':=by
 have E:=O (Qzb h k.rate.1);have q:=O (Qzy h k now);unfold V2.sendE at d;split at d;·exact absurd d (by decide)
 split at d;·exact absurd d (by decide)
 split at d
 .rename_i J K z;rw[z]at q;have R:decide ((1099511627776:Int)<(now:Int))=false:=by simp;omega
  have I:decide (1099511627776<now)=false:=by simp;omega
  have U:decide (c<1)=false:=by simp;omega
  have V:decide (65536<=c)=false:=by simp;omega
  clear h k d J K z;apply WH func139;go_wp2_with fail;apply Zy E;rintro w1 rfl;go_wp2_with fail;apply ZQ q;intro w1 B;exact WD B
 .exact absurd d (by decide)
theorem Q09(h:P3 w F b l):Cl 57 #[ptr b] w λe w'=>∃p,e=.returned (ptr p)/\P3 w' (Qn Qb w w') p l/\Qc Qb w w':=by have B:=L6 h.1;have d:Hi (∀w1,Qc Qb w w1->Qh w1 w.heap.size (Qx6 l) 125->P3 w1 (Qn Qb w w1) w.heap.size l/\Qc Qb w w1):=O (λw1 c q=>⟨⟨q,.inr ⟨Zv _,q.lt⟩,λk z=>((Qr k).1 z).2⟩,c⟩);have u:=O (d.o (w.alloc (.cells (Qx6 l) 125)) ((Zg Qb w).alloc _) (Qh.new _ _ _));unfold ptr Qx6 at*;clear h;apply WH func57;go_wp2_with fail;exact WG u
end
def M3(k:Nat):FuncId:=match k with
 |0=>112
 |1=>111
 |2=>134
 |3=>135
 |4=>141
 |5=>140
 |6=>113
 |_=>114
theorem Q1r(k:Nat)(u:k<8)(b:Nat)(cs:Array Value)(w)(h:Qh w b cs 46)(q:cs.size=8):Cl (M3 k) #[ZP b] w λe w'=>e=.returned (.pointer (some ⟨b,k,none⟩))/\w=w':=by
 have d:=h.cell 0;obtain⟨v,c⟩:∃v,cs[0]? =some v:=⟨_,Array.getElem?_eq_getElem (by omega)⟩;rw[c]at d;clear h c q;obtain rfl|rfl|rfl|rfl|rfl|rfl|rfl|rfl:k=0\/k=1\/k=2\/k=3\/k=4\/k=5\/k=6\/k=7:=by omega
 .show Cl 112 _ _ _;apply WH func112;exact WE
 .show Cl 111 _ _ _;apply WH func111;exact WE
 .show Cl 134 _ _ _;apply WH func134;exact WE
 .show Cl 135 _ _ _;apply WH func135;exact WE
 .show Cl 141 _ _ _;apply WH func141;exact WE
 .show Cl 140 _ _ _;apply WH func140;exact WE
 .show Cl 113 _ _ _;apply WH func113;exact WE
 .show Cl 114 _ _ _;apply WH func114;exact WE
theorem Q0u(k:Nat)(d:k<8)(c:Array Value)(w):(callFunc (M3 k) c).run prog w=.ok (.enter (M3 k) c) w:=by
 obtain rfl|rfl|rfl|rfl|rfl|rfl|rfl|rfl:k=0\/k=1\/k=2\/k=3\/k=4\/k=5\/k=6\/k=7:=by omega
 .exact enters_of func112 (by kernel_rfl) rfl c w
 .exact enters_of func111 (by kernel_rfl) rfl c w
 .exact enters_of func134 (by kernel_rfl) rfl c w
 .exact enters_of func135 (by kernel_rfl) rfl c w
 .exact enters_of func141 (by kernel_rfl) rfl c w
 .exact enters_of func140 (by kernel_rfl) rfl c w
 .exact enters_of func113 (by kernel_rfl) rfl c w
 .exact enters_of func114 (by kernel_rfl) rfl c w
theorem Q1n(n x:Nat)(d:Bool)(z o c:Nat)(w:World)(K:n<=Xw)(R:x<18446744073709551616)(ha:w.cell? ⟨z,o,none⟩=some (ZU x)):
  ZW 178 #[ZU n,.bool d,.slice (some ⟨z,o,none⟩) 1 c] w (ZU ((Qx9 d n x:Nat):Int)) λw'=>Qc Qb w w':=by
 have q:=Yz;have B:=O (Zg Qb w);have J:=λ(U:Array TypeId)t k a b(w)=>X8 (P:=prog) U t k a b w;have E:IntKind.u64.wrap ((n:Int)-min (n:Int) (x:Int))=((Qx9 true n x:Nat):Int):=by unfold Qx9;rw[if_pos rfl,IntWalk.u64_in _ (by omega)];omega
 have I:IntKind.u64.wrap (4611686018427387904-(n:Int))=((Xw-n:Nat):Int):=by rw[IntWalk.u64_in _ (by omega)];omega
 have u:IntKind.u64.wrap ((n:Int)+min (x:Int) ((Xw-n:Nat):Int))=((Qx9 false n x:Nat):Int):=by unfold Qx9;rw[if_neg (by decide),IntWalk.u64_in _ (by omega)];omega
 cases d;all_goals
  generalize Qx9 true n x=s1 at E|-;generalize Qx9 false n x=s2 at u|-;generalize Xw-n=m at I u;clear K R q;apply WH func178;go_wp2_with fail;refine wp_loop_rounds 2 ?_;rw[rounds_succ];go_wp2;rw[rounds_succ];exact WD B
section
def Q2k:Value:=.agg ZJ
theorem eight{s:X7}(h:s.length=8):∃a b c d e f g i,s=[a,b,c,d,e,f,g,i]:=by
 match s,h with
 |[a,b,c,d,e,f,g,i],_=>exact⟨a,b,c,d,e,f,g,i,rfl⟩
theorem Q1i(w):(zeroValue 46).run prog w=.ok Q2k w:=by unfold Q2k;go_simp
theorem M0{s:X7}(h:s.length=8):(Qw0 s).size=8:=by unfold Qw0 Qye;simpa using h
theorem Qy5(s:X7):∀v∈(Qw0 s).toList,v.oneCell'=true:=by intro v c;simp only[Qw0,Qye,Z3]at c;obtain⟨n,_,rfl⟩:=c;rfl
theorem Qze{s:X7}{k:Nat}(c:k<s.length):(Qw0 s)[k]? =some (ZU ((s.getD k 0:Nat):Int)):=by unfold Qw0 Qye;simp[List.getD_eq_getElem?_getD,List.getElem?_eq_getElem c]
theorem Q1z(s:X7)(k n:Nat):(Qw0 s).setIfInBounds k (ZU n)=Qw0 (s.set k n):=by unfold Qw0 Qye;rw[Za,List.map_set]
theorem Q0s(m:Nat)(w):(binOp .eql 128 (.map (some m)) (.map none)).run prog w=.ok (.bool false) w:=by kernel_rfl
attribute [local go_sem] Q0s
section
variable{w w':World}{F:Fp}{b m:Nat}{bk:V1}
theorem Qza(h:Qh w b #[.map (some m)] 130):ZW 70 #[ptr b] w (.bool false) λw'=>w=w':=by have c:=Jf h;unfold ptr;clear h;apply WH func70;exact WE
theorem Qau.opn(h:Qau w F b bk):∃m,Qh w b #[.map (some m)] 130/\Xq w m (Qv7 bk)/\F b/\F m/\b≠m/\Bd F w/\
  ∀w' c,Qc (λk=>k=m) w w'->Xq w' m (Qv7 c)->Qau w' (Qn F w w') b c/\Qc F w w':=by
 obtain⟨m,J⟩:=h;obtain⟨V,z,U,G,q,I,d,E⟩:=Qw9 (Qwg m b bk) (i:=0) rfl J;have B:=(Je (Qwg m b bk)).bd J;refine⟨m,z.1,q.1,U _ z.2.1,I _ q.2.1,λe=>d b z.2.1 (e▸q.2.1),B,λw' c K R=>?_⟩;have u:Qc G w w':=K.sub λk e=>e▸q.2.1;exact⟨⟨m,E w' (Qo8 m (Qv7 c)) u ⟨R,.inl q.2.1,q.2.2.ext u⟩⟩,u.sub I⟩
theorem Qau.lookup(h:Xq w m (Qv7 bk))(i:Int):(Instr.lookup 128 (.map (some m)) (ZI i) false).run prog w=.ok (.agg (Qw0 (bk.get i))) w:=by
 rw[Du h underlying128 underlying3 (Q1i w) i,Qw1];unfold V1.get;cases bk.at i with
 |none=>rfl
 |some s=>rfl
theorem Qau.update(h:Xq w m (Qv7 bk))(i:Int)(s:X7):∃w',(Instr.mapUpdate 128 (.map (some m)) (ZI i) (.agg (Qw0 s))).run prog w=.ok () w'/\Xq w' m (Qv7 (V1.set i s bk))/\Qc (λk=>k=m) w w':=by obtain⟨w',d,c,q⟩:=X6 (P:=prog) h underlying128 underlying3 i (.agg (Qw0 s));rw[Qwk]at c;exact⟨w',d,c,q⟩
theorem Q2n(v1 v2:Value)(w):(Instr.index 236 (.agg #[v1,v2]) (ZI 0)).run prog w=.ok v1 w:=by kernel_rfl
theorem Q2o(v1 v2:Value)(w):(Instr.index 236 (.agg #[v1,v2]) (ZI 1)).run prog w=.ok v2 w:=by kernel_rfl
theorem Q03{i:Int}{l:List P5}(h:i<=0):bk.tell i l=bk.upd 0 l:=by unfold V1.tell;rw[if_pos h]
theorem Q2c{i:Int}{l:List P5}(h:¬i<=0):bk.tell i l=(bk.upd 0 l).upd i l:=by unfold V1.tell;rw[if_neg h]
def Qz2(x:P5):List Value:=[.func (.func (M3 x.k)) #[] #[],ZU x.n,.bool x.less]
def Qy0(w:World)(c:Nat)(l:List P5):Prop:=c<w.heap.size/\∀(i:Nat)(x:P5),l[i]? =some x->w.cell? ⟨c,i*3,none⟩=some (.func (.func (M3 x.k)) #[] #[])/\w.cell? ⟨c,i*3+1,none⟩=some (ZU x.n)/\w.cell? ⟨c,i*3+2,none⟩=some (.bool x.less)
theorem Qy0.aB{l:List P5}{rb:Nat}{S:Fp}(h:Qy0 w rb l)(c:Qc S w w')(d:¬S rb):Qy0 w' rb l:=
 ⟨Nat.lt_of_lt_of_le h.1 c.size,λi x z=>by
  obtain⟨k,q,u⟩:=h.2 i x z;exact⟨(c.cell (a:=⟨rb,i*3,none⟩) h.1 d).trans k,(c.cell (a:=⟨rb,i*3+1,none⟩) h.1 d).trans q,(c.cell (a:=⟨rb,i*3+2,none⟩) h.1 d).trans u⟩⟩
theorem Q1s{l:List P5}{s:X7}{k:Nat}{x:P5}(c:l[k]? =some x):(l.take (k+1)).foldl Qwa s=Qwa ((l.take k).foldl Qwa s) x:=by rw[List.take_add_one,c];simp
theorem Q07(h:Qau w F b bk)(ok:BOk bk)(c:Int)(l:List P5)(rb cap:Nat)(hr:Qy0 w rb l)(hF:¬F rb)(hl:∀x∈l,x.k<8/\x.n<18446744073709551616)(hn:l.length<=8):
  ZW 110 #[ptr b,ZI c,.slice (some ⟨rb,0,none⟩) l.length cap] w (.tuple #[]) λw'=>Qau w' (Qn F w w') b (bk.tell c l)/\Qc F w w':=by
 have a5:=O (Qau.obj.bd h);have u:=O (Zt (Qau.obj.more h (λk hk=>.inl hk) ((Qau.obj.bd h).ext (Zg F w))) (Zt ok (Zg F w)));obtain⟨m,J,_⟩:=h.opn;have HN:=O (Qza J);have HR:=O hr;have HF:=O hF;have HL:=O hl;obtain⟨n,af⟩:=Zx (l.length);have av:=O af;have ba:=O (show n<=8 by rw[af];exact hn);rw[<-af];clear h ok hr hF hl hn af J;apply WH func110;go_wp2_with fail;apply Zy HN;rintro w1 rfl;go_wp2_with fail;go_loopw [7,8,10,11,16,27,28,29] (λ_ _ _ _ ti _ _ _ wr=>∃i:Nat,ti=ZI i/\i<=2/\∃B,((i=0/\B=bk)\/(i=1/\c≠0/\B=bk.upd 0 l)\/(i=2/\B=bk.tell c l))/\Qau wr (Qn F w wr) b B/\BOk B/\Qc F w wr) (λ_ _ _ _ ti _ _ _ _=>2-(intOf ti).toNat);case atStart=>exact⟨0,rfl,by omega,bk,.inl ⟨rfl,rfl⟩,u.o.1,u.o.2.1,u.o.2.2⟩
 case round=>
  obtain⟨i,rfl,hi,B,I,J,z,hC⟩:=hrel;obtain⟨V,hV⟩:=Zx wr;rw[<-hV]at J hC|-;clear hV;by_cases a2:i<2
  .have hd:decide ((i:Int)<2)=true:=by simp;omega
   have bi:decide (i<2)=true:=by simpa using a2
   have bv:IntKind.i64.wrap ((i:Int)+1)=(i:Int)+1:=by rw[IntWalk.i64_in _ (by omega)]
   obtain⟨id,ae,bp,ag⟩:∃id:Int,(id=0\/(i=1/\id=c/\c≠0))/\(Instr.index 236 (.agg #[ZI 0,ZI c]) (ZI i)).run prog V=.ok (ZI id) V/\
     (id<0->B=bk.tell c l)/\(0<=id->(c=0->i=0/\B.upd id l=bk.tell c l)/\(c≠0->(i=0/\B.upd id l=bk.upd 0 l)\/(i=1/\B.upd id l=bk.tell c l))):=by
    rcases I with⟨rfl,rfl⟩|⟨rfl,hc,rfl⟩|⟨h,_⟩;·exact⟨0,.inl rfl,Q2n _ _ _,λh=>absurd h (by decide),λ_=>⟨λhc=>⟨rfl,by rw[Q03 (by omega)]⟩,λ_=>.inl ⟨rfl,rfl⟩⟩⟩
    .exact⟨c,.inr ⟨rfl,rfl,hc⟩,Q2o _ _ _,λh=>by rw[Q03 (by omega)],λh=>⟨λh0=>absurd h0 hc,λ_=>.inr ⟨rfl,by rw[Q2c (by omega)]⟩⟩⟩
    .omega
   have CC:=O hC;by_cases q:id<0
   .have bq:decide (id<0)=true:=by simpa using q
    have a9:=O (show i=1 by
     rcases ae with h|⟨h,_⟩;·omega
     .exact h)
    have ak:=ag.1 q;rw[ak]at J z;have K:=O (Zt J z);clear I J z hC ag ae ak;go_wp2_with fail;go_roundw;case measure=>simp only[intOf];omega
    case rel=>exact⟨i+1,by rw[<-Int.natCast_one,<-Int.natCast_add],by omega,_,.inr (.inr ⟨by have:=a9.o;omega,rfl⟩),K.o.1,K.o.2,CC.o⟩
   .have bq:decide (id<0)=false:=by simpa using q
    obtain⟨mb,an,hM,fb,fm,a1,bg,ai⟩:=J.opn;have ap:=Qau.lookup hM id;have S8:=O (z.get id);obtain⟨s0,ar⟩:=Zx (B.get id);rw[<-ar]at ap S8;have bc:=O ar;obtain⟨W1,s1,az,c1⟩:=Q0 (P:=prog) (vs:=Qw0 s0) (Qh.new V ZJ 46) (by rw[M0 S8.o.1];rfl) (Qy5 s0);have br:(Qw0 s0).size=8:=M0 S8.o.1;have C1:=O (((Zg Qb V).alloc (.cells ZJ 46)).trans c1 (λk e=>.inr (by omega)));have bd:=O az;have a0:=Jf an;have bs:=O ae;have aw:=O ag;have ax:=O ai;have HM:=O hM;have a6:=O (Zt an a1);have bb:=O z;have bu:=O I;have ah:=O q;obtain⟨sa,au⟩:=Zx (Qw0 s0);rw[<-au]at ap s1 br;have bt:=O au;clear au az c1 ai hM an z ae ag ar I hC J fb fm a1 bg q;go_wp2_with fail;clear s1 ap a0 bp;go_loopw [10,11,29] (λ_ _ tk wk=>∃k:Nat,tk=ZI k/\k<=n/\Qh wk V.heap.size (Qw0 ((l.take k).foldl Qwa s0)) 46/\Qc (λj=>j=V.heap.size) W1 wk) (λ_ _ tk _=>n-(intOf tk).toNat);case atStart=>exact⟨0,rfl,Nat.zero_le _,bd.o,Zg _ _⟩
    case round=>
     obtain⟨k,rfl,hk,aa,Z⟩:=hrel;have bw:IntKind.i64.wrap ((k:Int)+1)=(k:Int)+1:=by have:=ba.o;rw[IntWalk.i64_in _ (by omega)]
     have CK:=O Z;have SK:=O aa;have U:=O (S8.o.fold (l.take k));obtain⟨sk,E⟩:=Zx ((l.take k).foldl Qwa s0);rw[<-E]at SK U;by_cases bz:k<n
     .have bj:=ZT (show k<n by omega);obtain⟨x,hx⟩:∃x,l[k]? =some x:=⟨_,List.getElem?_eq_getElem (by have:=av.o;omega)⟩;have CW:Hi (Qc F w V):=O (CC.o);have a4:Hi (Qc F w wr):=O ((CW.o.aA C1.o.none).trans Z (λj e=>.inr (by have:=CW.o.size;omega)));have r0:=(HR.o.aB a4.o HF.o).2 k x hx;obtain⟨xk,xn⟩:=HL.o x (List.mem_of_getElem? hx);have XK:=O xk;have FX:=O (Q1s (s:=s0) hx);rw[<-E]at FX;have bh:=Q0u x.k xk;have k0:(0:Int)<=(k:Int):=by omega
      have HX:=O hx;clear aa Z hx E xk xn;go_wp2_with fail;obtain⟨V1,ab⟩:=Zx (wr.alloc (.cells #[.func (.func (M3 x.k)) #[] #[],ZU x.n,.bool x.less] 181));have C2:Hi (Qc Qb wr V1):=O (by rw[ab];exact(Zg _ _).alloc _);have XB:Hi (Qh V1 wr.heap.size #[.func (.func (M3 x.k)) #[] #[],ZU x.n,.bool x.less] 181):=O (by rw[ab];exact Qh.new _ _ _);have SV:=O (C2.o.blk SK.o (λh=>h));have a8:=O (Q1r x.k XK.o V.heap.size (Qw0 sk) V1 SV.o (M0 U.o.1));rw[<-ab];clear ab r0 bh;apply Zy a8;rintro w3 rfl;go_wp2_with fail;have R:=O (show x.k<sk.length by rw[U.o.1];exact XK.o);have CD:=O (Zg Qb V1).drew;have g0:=L6 (CD.o.blk XB.o (λh=>h));have g3:=(CD.o.blk SV.o (λh=>h)).at x.k (Qze R.o);obtain⟨y,hy⟩:=Zx (sk.getD x.k 0);have HY:=O hy;rw[<-hy]at g3;clear hy;apply XC 302200111111 Qb V1;iterate 3 (refine Qy (h:=?_);try simp only[Act.put,Za,Zc,Zb])
      iterate 1 (refine Qy (by kernel_rfl) (λwv hv=>by(have z3:=(hv.blk SV.o (λh=>h)).at x.k (Qze R.o);rw[<-HY.o]at z3;have z0:=L6 (hv.blk XB.o (λh=>h)));go_simp;try rfl) ?_;try simp only[Act.put,Za,Zc,Zb])
      (refine Qy (h:=?_);try simp only[Act.put,Za,Zc,Zb]);iterate 1 (refine Qy (by kernel_rfl) (λwv hv=>by(have z3:=(hv.blk SV.o (λh=>h)).at x.k (Qze R.o);rw[<-HY.o]at z3;have z0:=L6 (hv.blk XB.o (λh=>h)));go_simp;try rfl) ?_;try simp only[Act.put,Za,Zc,Zb])
      apply YA 0;go_wp2_with fail;refine⟨((Zg Qb V1).alloc _).drew,?_⟩;have NB:Hi (Qh (V1.alloc (.cells #[ZU x.n] 22)).drew V1.heap.size #[ZU x.n] 22):=O ((Qh.new _ _ _).drew);have C3:Hi (Qc Qb V1 (V1.alloc (.cells #[ZU x.n] 22)).drew):=O (((Zg Qb V1).alloc _).drew);generalize(V1.alloc (.cells #[ZU x.n] 22)).drew=V2 at NB C3|-;have XN:=O ((HL.o x (List.mem_of_getElem? HX.o)).2);have YC:=O (show y<=Xw by rw[HY.o,List.getD_eq_getElem?_getD,List.getElem?_eq_getElem R.o];exact U.o.2 _ (List.getElem_mem _));have ay:=O (Q1n y x.n x.less V1.heap.size 0 1 V2 YC.o XN.o (Jf NB.o));clear g0 g3;refine Yb ?_;go_wp2_with fail;apply ZF ay (λ_ c4=>C3.o.aA c4);intro w4 C4;go_wp2_with fail;refine⟨C4.o,?_⟩;have am:=O (C4.o.blk SV.o (λh=>h));have g3:=am.o.at x.k (Qze R.o);have f3:=am.o.frozen x.k;apply YI 0;obtain⟨V5,ac⟩:=Zx (w4.setCell ⟨V.heap.size,x.k,none⟩ (ZU ((Qx9 x.less y x.n:Nat):Int)));have NS:=O (show Qh V5 V.heap.size (Qw0 (Qwa sk x)) 46 by
       rw[ac];have:=am.o.set' x.k (ZU ((Qx9 x.less y x.n:Nat):Int)) rfl;rw[Q1z]at this;unfold Qwa;rw[<-HY.o];exact this)
      have C5:=O (show Qc (λj=>j=V.heap.size) W1 V5 by
       rw[ac];exact((CK.o.aA C2.o.none).aA C4.o.none).aA ((Zg _ _).setCell _ (.inl rfl)))
      rw[<-ac];clear ac g3 f3;go_wp2_with fail;refine⟨⟨k+1,by rw[<-Int.natCast_one,<-Int.natCast_add],by omega,?_,C5.o⟩,by simp only[intOf];omega⟩;rw[FX.o];exact NS.o
     .have bj:=ZN (show¬k<n by omega);have a3:l.take k=l:=by have:=av.o;rw[List.take_of_length_le (by omega)]
      rw[a3]at E;have CV:Hi (Qc Qb V wr):=O (C1.o.trans Z (λj e=>.inr (by omega)));have LT:Hi (V.heap.size<wr.heap.size):=O (aa.lt);obtain⟨w6,h6,ao,c6⟩:=Qau.update (w:=wr.drew) (HM.o.aB (CV.o.drew) (λh=>h)) id sk;obtain⟨m0,m1,m2,m3,m4,m5,m6,m7,aq⟩:=eight U.o.1;have B8:Qh wr.drew V.heap.size #[ZU m0,ZU m1,ZU m2,ZU m3,ZU m4,ZU m5,ZU m6,ZU m7] 46:=by have:=SK.o.drew;rw[aq]at this;exact this
      have g0:=Ja B8;rw[aq]at h6;have h6:(Instr.mapUpdate 128 (.map (some mb)) (ZI id) (.agg #[ZU m0,ZU m1,ZU m2,ZU m3,ZU m4,ZU m5,ZU m6,ZU m7])).run prog wr.drew=.ok () w6:=h6;have a0:=Jf (CV.o.drew.blk a6.o.1 (λh=>h));have be:=O (show V1.set id sk B=B.upd id l by rw[E,bc.o];rfl);rw[be.o]at ao;obtain⟨p1,p2⟩:=ax.o w6 _ ((CV.o.drew.mono λk h=>h.elim).trans c6 (λk h=>.inl h)) ao;obtain⟨q1,q2⟩:=Qau.obj.two p1 a5.o CC.o p2;have K:=O (Zt q1 q2);have bf:=O (bb.o.upd id l);clear aa Z E a3 c6 ao p1 p2 q1 q2 B8 aq;go_wp2_with fail;apply XB 2000000;apply YA 0;go_wp2_with fail;clear h6 a0 g0;refine Jo ?_;by_cases d:c=0
      .have bo:decide (c=0)=true:=by simpa using d
       have bm:(c==0)=true:=by simpa using d
       have al:=O (show Qau w6 (Qn F w w6) b (bk.tell c l)/\Qc F w w6 by
        rw[<-((aw.o.2 (by have:=ah.o;omega)).1 d).2];exact K.o)
       clear d;exact WD al
      .have bo:decide (c=0)=false:=by simpa using d
       have bm:(c==0)=false:=by simpa using d
       have al:=O ((aw.o.2 (by have:=ah.o;omega)).2 d);have a7:=O d;clear d;go_wp2_with fail;go_roundw;case measure=>simp only[intOf];omega
       case rel=>
        refine⟨i+1,by rw[<-Int.natCast_one,<-Int.natCast_add],by omega,_,?_,K.o.1,bf.o,K.o.2⟩;rcases al.o with⟨e1,e2⟩|⟨e1,e2⟩;·exact .inr (.inl ⟨by omega,a7.o,e2⟩)
        .exact .inr (.inr ⟨by omega,e2⟩)
  .have hd:decide ((i:Int)<2)=false:=by simp;omega
   have bi:decide (i<2)=false:=by simpa using a2
   have aj:B=bk.tell c l:=by
    rcases I with⟨h,_⟩|⟨h,_⟩|⟨_,h⟩;·omega
    .omega
    .exact h
   rw[aj]at J;have K:=O (Zt J hC);clear I J z hC aj;exact WD K
end
end
section
theorem Qy7:prog.eqGuardType prog.depth 43=false:=by kernel_rfl
theorem Qzf:prog.stoodInHeld 43=false:=by kernel_rfl
attribute [local go_sem] Qy7 Qzf
theorem Qzo(v:Value)(K:List D7)(w)(V:Own Qxe 8 51 w v K)(hl:K.length<1099511627776):
  Cl 38 #[v] w λe w'=>∃u,e=.returned u/\Own Qxe 8 51 w' u K/\Qc Qb w w'/\(∀k,u.ownBlock=some k->w.heap.size<=k)/\(v=.slice none 0 0->u=.slice none 0 0):=by
 obtain⟨a,cap,rfl,B,U,d⟩:=V.row sentT.hc;have HR:=O d;have HK:=O V;clear d V;have I:=λ(W)=>Lib.run_eql_slice_nil (P:=prog) W 43 51 a K.length cap 0 0 underlying43;cases a with
 |none=>
  obtain rfl:=U rfl;have E:K.length=0:=by omega
  obtain rfl:=List.eq_nil_of_length_eq_zero E;have C0:=O (Zg Qb w);simp only[List.length_nil,Option.isNone_none]at I;clear B U hl E;apply WH func38;go_wp2;go_ret;exact⟨_,rfl,Own.nil _ _ _ _,C0.o,nofun,λ_=>rfl⟩
 |some ad=>
  clear U;apply WH func38;go_wp2_with (at_builtin;refine Jj sentT rfl (.tmp 5) (.tmp 6) rfl _ ([]:List D7) rfl (Own.empty (Qh.new' _ _ (by simp))) _ _ K rfl ?a2 ?a3 ?a4 ?a5 ?a6);case a2=>intro h;cases h
  case a3=>exact HR.o.aB ((Zg Qb w).alloc _) (λ_ _ h=>h)
  case a4=>simp[maxLen];omega
  case a5=>simp;omega
  case a6=>
   intro u w1 c z J;have Z:Qc Qb w w1:=((Zg Qb w).alloc (.cells #[] 51)).trans z λj hj=>.inr (by simp[Value.ownBlock]at hj;omega);have K2:∀k,u.ownBlock=some k->w.heap.size<=k:=by
    intro k R;rcases J with h|h;·rw[h]at R;simp[Value.ownBlock]at R;omega
    .rw[h]at R;have:=Zs R;have hz:(w.alloc (.cells #[] 51)).heap.size=w.heap.size+1:=by simp
     omega
   have q:=O (Zt c (Zt Z K2));clear c Z K2 z J;go_wp2;go_ret;exact⟨_,rfl,q.o.1,q.o.2.1,q.o.2.2,nofun⟩
end
def Fr(e:Vi):Prop:=∀x,e.aM=some x->Ll x.p
section
variable{K:Nat}{e:Vi}
theorem Fr.step(u:Fr e)(q:V4 K e)(til:Nat):Fr (e.step til).2:=by
 obtain⟨z,B⟩:=Qwo q til;unfold Vi.step;split;·exact u
 .split
  .split;·exact nofun
   .exact u
  .rename_i k;split;·exact u
   .rcases(q.idle k z B).choose k with⟨d,_⟩|⟨c,s,_,d,_,_,_,E,_⟩;·rw[d];exact u
    .rw[d];intro x I;cases I;exact E
theorem Fr.all(c:Nat):∀(n:Nat){e:Vi},Fr e->V4 K e->Fr (Vi.all c n e)
 |0,_,u,_=>u
 |n+1,e,u,ok=>by
  rw[Vi.all];split;·exact u.step ok c
  .exact Fr.all c n (u.step ok c) (ok.step c).1
theorem Fr.run(u:Fr e)(c:V4 K e)(til:Nat):Fr (e.run til):=Fr.all til _ u c
end
section
def ewC:Yk:=⟨1,0,true,⟨0,0,0⟩,⟨0,0,256⟩,⟨0,0,0⟩,5,1000⟩
def ewP:Jr:=⟨7,1,10,0⟩
def ewQ:Jr:=⟨0,2,10,0⟩
def ew0:Vi:=.new 256 1500 100
def ew1:Vi:=ew0.add ewC
def ew2:Vi:=ew1.adv 5
def ew3:Vi:=ew2.arr ewP
def ew4:Vi:=ew3.arr ewQ
def ew5:Vi:=ew4.adv 4
def ew6:Vi:=ew5.adv 99
def ew7:Vi:=ew6.adv 200
def ewX:D7:=⟨⟨7,1,10,5⟩,2,5,15,0⟩
set_option maxRecDepth 100000
theorem Qyb:Qxy 256 1500 100=0:=by decide
theorem Qyq:Qxy 256 1500 0=2:=by decide
theorem Qyh:ew0.aO ewC=0:=by decide+kernel
theorem Qyi:ew1.advE 5=0:=by decide+kernel
theorem Qyj:ew2.arrE ewP=0:=by decide+kernel
theorem Qyt:ew3.aM=some ewX:=by rfl
theorem Qyk:ew3.arrE ewQ=81:=by decide+kernel
theorem Qyl:ew4.advE 4=260:=by decide+kernel
theorem Qym:ew5.advE 99=0:=by decide+kernel
theorem Qyr:ew6.sent=[ewX]:=by rfl
theorem Qyn:ew6.advE 200=0:=by decide+kernel
theorem Qys:ew7.now=100/\ew7.stopped=true:=by decide+kernel
theorem Qyo:ew7.advE 100=261:=by decide+kernel
theorem Qyp:ew7.book.get 0=[1,1,1,10,0,10,0,0]:=by decide+kernel
theorem ew_ok0:V4 0 ew0:=V4.new Qyb
theorem ew_ok1:V4 0 ew1:=ew_ok0.add ewC
theorem ew_ok2:V4 0 ew2:=ew_ok1.adv 5
theorem ew_ok3:V4 33 ew3:=ew_ok2.arr ewP
theorem ew_ok4:V4 66 ew4:=ew_ok3.arr ewQ
theorem ew_ok5:V4 66 ew5:=ew_ok4.adv 4
theorem ew_ok6:V4 66 ew6:=ew_ok5.adv 99
theorem ew_ok7:V4 66 ew7:=ew_ok6.adv 200
end
end Go.Proofs.YtigcnnkagkbflaaGreat
