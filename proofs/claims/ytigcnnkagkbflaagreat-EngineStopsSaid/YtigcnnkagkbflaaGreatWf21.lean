/- A part of the proof: no condition. -/
import Derived.Test.YtigcnnkagkbflaaGreatWf20
namespace Go.Proofs.YtigcnnkagkbflaaGreat
set_option linter.unusedVariables false
set_option maxRecDepth 100000
set_option maxHeartbeats 4000000
open Go.RowKit
open Go.Proofs.Tryz
attribute [local go_sem] Qp
attribute [local irreducible] Kl J9 Xo
section
variable{w:World}{F:Fp}{b:Nat}{h:Qm}
theorem Y7.later{w0 w1}{G:Fp}{m:Nat}{vs:List (Int×Value)}(d:Y7 w1 (Qn G w0 w1) m vs h){w:World}(u:w.heap.size≤w0.heap.size)(q:Bd (Qn G w w1) w1):Y7 w1 (Qn G w w1) m vs h:=
 (Y7.good m vs h).more d (fun k c=>c.elim .inl fun c=>.inr ⟨by omega,c.2⟩) q
theorem Qkl(hh:Q9 w F b h){id:Int}{c:Vm}(ha:h.at id=some c)(hu:h.aM id=[])(ai:(h.aM c.sp.par).length<1099511627776):
  ZW 121 #[ptr b,ZI id] w (ZI 0) fun w'=>Q9 w' (Qn F w w') b (h.drop id)∧Qc F w w':=by
 have a3:=O (fun w'(c:Qc Qb w w')=>Q9.obj.aB hh c (Jl.none F));obtain⟨W,hW⟩:=Zx (w.alloc (.cells #[ZI id] 3));have CW:Qc Qb w W:=by rw[hW];exact(Zg _ _).alloc _
 have hN:=O (Gz (a3.o W CW));have BX:=O (show Qh W w.heap.size #[ZI id] 3 by rw[hW];exact Qh.new _ _ _);obtain⟨ma,mu,l,vs,G,hp,hn,ao,ac,I,fb,fm,fG,ay,J,bg,a7,a4⟩:=hh.opn;obtain⟨ba,a9⟩:=Qm.aE ha;have au:h.aM c.sp.par≠[]:=fun e=>by have:id∈h.aM c.sp.par:=Z3.2 ⟨c,List.mem_filter.2 ⟨ba,by simp⟩,a9⟩;rw[e]at this;cases this
 have b7:c.sp.par≠id:=fun e=>au (by rw[e];exact hu);have b8:Hi (w.heap.size<W.heap.size):=O (BX.o.lt);have aj:Hi (∀w2,Qc Qb w w2→(∃a cap,(Instr.lookup 112 (.map (some mu)) (ZI id) false).run prog w2=.ok (.slice a 0 cap) w2)∧
   ∃w3,(Builtin.delete_ #[111,3] 0 #[.map (some ma),ZI id]).run prog w2.drew=.ok (.tuple #[]) w3∧Qc (fun k=>k=ma) w2 w3∧
   ∃q,(Builtin.delete_ #[112,3] 0 #[.map (some mu),ZI id]).run prog w3.drew=.ok (.tuple #[]) q∧Qc (fun k=>k=ma∨k=mu) w2 q∧
   ∃g cap,(g<w.heap.size∧g≠b∧g≠mu)∧(Instr.lookup 112 (.map (some mu)) (ZI c.sp.par) false).run prog q.drew=.ok (.slice (some ⟨g,0,none⟩) (h.aM c.sp.par).length cap) q.drew∧
   (∀gf z,(∀af w,(callFunc gf af).run prog w=.ok (.enter gf af) w)→(∀w',Qc (fun k=>k=g) q.drew w'→∀y,Cl gf (#[ZI y]++z) w' fun e b5=>e=.returned (.bool (decide (y=id)))∧w'=b5)→
    Cl 183 #[.slice (some ⟨g,0,none⟩) (h.aM c.sp.par).length cap,.func (.func gf) #[] z] q.drew fun e w5=>∃n,e=.returned (.slice (some ⟨g,0,none⟩) n cap)∧Qc (fun k=>k=g) q.drew w5∧
     ∃K,(Instr.mapUpdate 112 (.map (some mu)) (ZI c.sp.par) (.slice (some ⟨g,0,none⟩) n cap)).run prog w5=.ok () K∧Q9 K (Qn F w K) b (h.drop id)∧Qc F w K)):=O (by
  intro w2 aa;have aq:=I.aB aa (Jl.none G);have ar:=aq.at_;refine⟨?_,?_⟩;·obtain⟨v,hr,hI,_⟩:=aq.look id;rw[hu]at hI;obtain⟨a,cap,rfl,_⟩:=hI.row intT.hc;exact⟨a,cap,hr⟩
  ·obtain⟨w3,r3,bu,c3⟩:=Di (P:=prog) ((ac.aB aa (fun h=>h)).aB (Zg Qb w2).drew (fun h=>h)) underlying111 underlying3 3 0 id;have ak:Qc (fun k=>k=ma) w2 w3:=c3.aT;refine⟨w3,r3,ak,?_⟩;have a6:=aq.aB ak (fun k d e=>J (e▸d));obtain⟨q,r4,bv,c4⟩:=Di (P:=prog) (a6.map.aB (Zg Qb w3).drew (fun h=>h)) underlying112 underlying3 3 0 id;have am:Qc (fun k=>k=mu) w3 q:=c4.aT;have b0:=a6.del id hu bv am;have al:Qc (fun k=>k=ma∨k=mu) w2 q:=(ak.mono fun k d=>.inl (.inl d)).trans am fun k d=>.inl (.inr d);refine⟨q,r4,al,?_⟩;have B:=b0.aB (Zg Qb q).drew (Jl.none G);obtain⟨v,hr,hI,hv⟩:=B.look c.sp.par;obtain⟨g,cap,b9,rfl,br,b4,bb,a8,bf⟩:=hI.opn au;have ax:(c.sp.par,Value.slice (some ⟨g,0,none⟩) (h.aM c.sp.par).length cap)∈Vu id vs:=hv.resolve_left fun e=>by cases e.1
   obtain⟨gG,gm⟩:=B.own _ ax g rfl;refine⟨g,cap,⟨a7 g (fG g gG),fun e=>ay (e▸gG),gm⟩,hr,fun gf z eg hT=>?_⟩;refine(Qex br b4 bb a8 bf hI ai gf z eg (fun y=>decide (y=id)) hT).mono ?_;rintro e w5⟨n,rfl,bs,ab⟩;refine⟨n,rfl,ab,?_⟩;have bw:=B.map.aB ab (fun e=>gm e.symm);obtain⟨K,r6,bz,an⟩:=X6 (P:=prog) bw underlying112 underlying3 c.sp.par (.slice (some ⟨g,0,none⟩) n cap);refine⟨K,r6,?_⟩;have hd:=Qm.drop_eq ha hu;have aw:(h.drop id).aM c.sp.par=(h.aM c.sp.par).filter fun y=>!decide (y=id):=by rw[hd];exact Ph h id _
   have av:∀k,k≠c.sp.par→(h.drop id).aM k=h.aM k:=fun k d=>by rw[hd];exact Ij ((hp.map _).nodup_iff.1 hn) ha d
   have bt:Q6 K (.slice (some ⟨g,0,none⟩) n cap) ((h.drop id).aM c.sp.par):=by rw[aw];refine bs.aB an fun k d e=>?_;have:g=k:=Zs d;exact gm (this.trans e)
   have bp:Qc (fun k=>k=mu∨k=g) q.drew K:=(ab.mono fun k d=>.inl (.inr d)).trans an fun k d=>.inl (.inl d);obtain⟨b1,bq⟩:=B.put av bt (fun k d=>.inl ⟨_,ax,d⟩) bz bp (fun k d=>d.elim .inl fun e=>.inr ⟨_,ax,by rw[e];rfl⟩);have cA:Qc (fun k=>k=ma∨G k) w K:=by refine(aa.none.aA (al.mono fun k d=>.inl (d.elim .inl fun e=>.inr (e▸ar)))).aA ?_;exact bq.aT.sub fun k d=>.inr d
   have bo:Bd G w:=I.bd;refine a4 K (l.filter fun x=>!decide (x.sp.id=id)) _ _ (by rw[hd];exact hp.filter _) ?_ ((b1.later (w:=w) (Zp aa.size al.size) ?_)) cA;·rw[←Qj7];exact(((bu.aB am (fun e=>J (e▸ar))).aB (Zg Qb q).drew (fun h=>h)).aB ab (fun e=>J (e▸gG))).aB an (fun e=>J (e▸ar))
   ·exact fun k d=>d.elim (fun d=>Nat.lt_of_lt_of_le (bo k d) cA.size) (fun d=>d.2))
 have LK:=O (fun(w')(cc:Qc Qb w w')=>show(Instr.lookup 111 (.map (some ma)) (ZI id) true).run prog w'=.ok (.tuple #[.agg (P0 c),.bool true]) w' by
  have hL:=Dj (P:=prog) (ac.aB cc (fun h=>h)) underlying111 underlying3 (Sf w') id;rw[Ed id l hn,←Qm.at_perm hp hn,ha]at hL;exact hL)
 have Z:Hi (b≠ma∧b≠mu∧b<w.heap.size∧ma<w.heap.size∧mu<w.heap.size):=O (⟨bg,fun e=>ay (e▸I.at_),ao.lt,ac.lt,I.map.lt⟩);have a2:=O ao;have V:=O CW;clear hh ao CW ac I hp hn ha hu a4 fb fm fG ay J bg a7 au ba a9 ai;go_enter func121,ntmps121;go_wp2_with fail;rw[←hW];clear hW;refine Zz hN.o ?_;rintro w1 rfl;go_wp2_with fail;refine ZC [100,101,102,103,104,105,106,107,108,209,210,311] (fun wv=>Qc (Qb) (W) wv) ?_;simp only[Z8,Zf,Ze,Zd];iterate 3 (refine Qy (h:=?_);try simp only[Act.put,Za,Zc,Zb])
 iterate 3 (refine Qy (by kernel_rfl) (fun wv hv=>by(have zz:=hv.blk (V.o.blk a2.o (fun h=>h)) (fun h=>h);have yy:=hv.blk BX.o (fun h=>h);obtain⟨z0,z1⟩:=Q4 zz;have y0:=Jf yy;have lk:=LK.o wv (V.o.aA hv));go_simp;try rfl) ?_;try simp only[Act.put,Za,Zc,Zb])
 iterate 3 (refine Qy (h:=?_);try simp only[Act.put,Za,Zc,Zb])
 refine Yb ?_;go_wp2_with fail;refine⟨((Zg Qb W).alloc _).drew,?_⟩;have ap:Qh (W.alloc (.cells Z6 109)).drew W.heap.size Z6 109:=(Qh.new _ _ _).drew;have C1:Qc Qb W (W.alloc (.cells Z6 109)).drew:=((Zg Qb W).alloc _).drew;generalize(W.alloc (.cells Z6 109)).drew=W1 at ap C1⊢;obtain⟨W2,s2,a5,C2⟩:=Q0 (P:=prog) (vs:=P0 c) ap rfl (Sn c);have a1:Qc Qb W W2:=C1.trans C2 (fun k e=>.inr (by omega));have E:=O a1;have bl:=O a5;clear ap C1 a5 C2 a1;refine Yb ?_;go_wp2_with fail;refine⟨E.o,?_⟩;refine Km ?_;go_wp2_with fail;refine Ky ?_;go_wp2_with fail;clear s2;have C2:=O (V.o.aA E.o);obtain⟨⟨u,b6,b2⟩,w3,r3,c3,q,r4,c4,g,cap,⟨bc,bd,be⟩,b3,DF⟩:=aj.o W2.drew C2.o.drew;have C3:=O c3.aT;have C4:=O c4.aT;have bm:=O DF;have HG:=O (Zt bc (Zt bd be));have NB:=Z.o;have ae:=O V.o.size;have R:=O (C2.o.blk a2.o (fun h=>h));have U:=O (E.o.blk BX.o (fun h=>h));have bh:=O (C3.o.blk R.o (fun e=>Z.o.1 e));have bi:=O (C3.o.blk U.o (fun e=>by have:=Z.o.2.2.2.1;omega));have az:=O (C4.o.blk R.o (fun e=>e.elim (fun e=>Z.o.1 e) (fun e=>Z.o.2.1 e)));have bj:=O (C4.o.blk U.o (fun e=>by have:=Z.o.2.2.2.1;have:=Z.o.2.2.2.2;rcases e with e|e<;>omega));have a0:=O (C4.o.blk bl.o (fun e=>by have:=Z.o.2.2.2.1;have:=Z.o.2.2.2.2;have:=ae.o;rcases e with e|e<;>omega));clear c3 c4 DF bc bd be NB;obtain⟨z0,z1⟩:=Q4 (R.o.drew);have y0:=Jf (U.o.drew);refine ZB [0,1,2,3,4,5,6,7,208] ?_;simp only[Z8,Zf,Ze,Zd];iterate 8 (refine Jq (h:=?_))
 clear b2 z0 z1 y0;refine J7 ?_;go_wp2_with fail;refine Jo ?_;go_wp2_with fail;obtain⟨z0,z1⟩:=Q4 (R.o.drew.drew);have y0:=Jf (U.o.drew.drew);refine ZB [0,1,2,3,4,205] ?_;simp only[Z8,Zf,Ze,Zd];iterate 5 (refine Jq (h:=?_))
 clear z0 z1 y0;refine J7 ?_;go_wp2_with fail;refine Jo ?_;clear r3;go_wp2_with fail;obtain⟨z0,z1⟩:=Q4 (bh.o.drew);have y0:=Jf (bi.o.drew);refine ZB [0,1,2,3,4,205] ?_;simp only[Z8,Zf,Ze,Zd];iterate 5 (refine Jq (h:=?_))
 clear z0 z1 y0;refine J7 ?_;go_wp2_with fail;refine Jo ?_;clear r4;go_wp2_with fail;obtain⟨z0,z1⟩:=Q4 (az.o.drew);have y1:=(Dm a0.o.drew).2.1;refine ZC [100,101,102,103,104,105,106,7,8,9,10,11,12,13,14,15,216,317] (fun wv=>Qc (fun k=>k=g) (q) wv) ?_;simp only[Z8,Zf,Ze,Zd];iterate 3 (refine Qy (h:=?_);try simp only[Act.put,Za,Zc,Zb])
 iterate 1 (refine Qy (by kernel_rfl) (fun wv hv=>by(obtain⟨cb,cd⟩:=Q4 (hv.blk az.o (fun e=>HG.o.2.1 e.symm)));go_simp;try rfl) ?_;try simp only[Act.put,Za,Zc,Zb])
 iterate 2 (refine Qy (h:=?_);try simp only[Act.put,Za,Zc,Zb])
 iterate 1 (refine Qy (by kernel_rfl) (fun wv hv=>by(have ca:=(Dm (hv.blk a0.o (fun e=>by have:=HG.o.1;have:=ae.o;omega))).2.1);go_simp;try rfl) ?_;try simp only[Act.put,Za,Zc,Zb])
 iterate 9 (refine Xe (h:=?_))
 clear b3 z0 z1 y1;refine Yb ?_;go_wp2_with fail;refine(bm.o 184 #[ZP w.heap.size] (enters_of func184 (by kernel_rfl) rfl) (fun w' cc y=>Qn9 w.heap.size id y w' (Jf (cc.blk bj.o.drew (fun e=>by have:=HG.o.1;omega))))).mono ?_;rintro e w5⟨n,rfl,c5,K,r6,ah,ag⟩;have C5:=O c5.aT;have bk:=O (Zt ah ag);clear c5 ah ag;go_wp2_with fail;refine⟨C5.o,?_⟩;refine Km ?_;go_wp2_with fail;refine Ky ?_;clear r6;go_wp2;go_ret;exact⟨rfl,bk.o⟩
end
section
variable{A:Tb}{w w1 w2:World}{F:Fp}{b:Nat}{s:Qf}{N:Nat}
theorem Qi.delLeaf(h:Qi A w F b s)(i:Int)(I ty:TypeId):
  ∃w',(Builtin.delete_ #[93,I] ty #[.map (some A.m),ZI i]).run prog w=.ok (.tuple #[]) w'∧Qi A w' (Qn F w w') b {s with aI:=s.aI.filter fun l=>!decide (l.id=i)}∧Qc F w w':=by
 obtain⟨L,K,G,u,V,d⟩:=h.collOf;obtain⟨w',q,B,c⟩:=Di (P:=prog) u.map underlying93 underlying3 I ty i;have E:Qc G w w':=c.sub fun k z=>z▸u.at_;have J:Yn Qw.id Yj w' (Qn G w w') A.m A.ad (Kp Qw.id i L):=(u.del Yj.obj i B c).more (fun k z=>.inl z) (u.bd.ext E);obtain⟨R,U⟩:=d w' _ {s with aI:=s.aI.filter fun l=>!decide (l.id=i)} (K.filter _) rfl rfl rfl rfl J E;exact⟨w',q,R,U⟩
theorem Qhe(q:Yk)(w1):∃c,Qc Qb w1 c∧Qh c w1.heap.size (Es q) 29∧
  (storeCells ⟨w1.heap.size,0,none⟩ (Es q).toList 0).run prog (w1.alloc (.cells Z5 29))=.ok () c:=by
 obtain⟨c,s2,d,u⟩:=Q0 (P:=prog) (vs:=Es q) (Qh.new w1 Z5 29) rfl (Hl _);exact⟨c,((Zg Qb w1).alloc _).trans u (fun k e=>.inr (by omega)),d,s2⟩
theorem Qmd(h:Qt w F b s)(I:Xp N s)(id:Int):
  ZW 67 #[ptr b,ZI id] w (ZI (s.aP id)) fun w'=>Qt w' (Qn F w w') b (s.drop id)∧Qc F w w':=by
 obtain⟨A,h⟩:=h;have R:=(Qi.obj A).bd h;have z:=O (fun w'(c:Qc Qb w w')=>(Qi.obj A).aB h c (Jl.none F));have NO:Hi (∀w',Qc Qb w w'→s.aP id≠0→Qt w' (Qn F w w') b (s.drop id)∧Qc F w w'):=O (fun w' c h0=>by rw[I0 h0];exact Qt.obj.same ⟨A,h⟩ c);have HN:=O (Ku h I.most.1);obtain⟨U,V,Z,a3,a4⟩:=Ym h.blk;have HG:Hi (ZW 23 #[ptr A.tb,ZI id] w (.tuple #[.agg (Es (s.tree.get id).sp),.bool (s.tree.at id).isSome]) fun w'=>Qc Qb w w'):=O (by
  obtain⟨G,hT,_⟩:=h.treeOf;exact Ob hT id)
 have HE:Hi (s.aP id=if(s.tree.at id).isNone then 81 else if s.tree.aM id≠[]then 161 else if 0<s.many id then 230 else 0):=O (rfl);cases hc:s.tree.at id with
 |none=> have E:=O (show s.aP id=81 by rw[HE.o,hc];rfl);rw[hc]at HG;dsimp only[Option.isSome_none]at HG;clear h I R hc;go_enter func67,ntmps67;go_wp2_with fail;refine Zy HN ?_;rintro w1 rfl;go_wp2_with fail;refine Zy HG ?_;intro w1 c1;obtain⟨W2,c2,_,ak⟩:=Qhe (s.tree.get id).sp w1;have d:=O (NO.o W2 (c1.aA c2) (by rw[E.o];decide));clear c1 c2;go_wp2_with fail;go_ret;exact⟨by rw[E.o];rfl,d.o⟩
 |some c=>
  have HU:Hi (∀w',Qc Qb w w'→Cl 85 #[ptr A.tb,ZI id] w' fun e am=>∃v,e=.returned v∧Q6 am v (s.tree.aM id)∧(∀k,v.ownBlock=some k→w'.heap.size≤k)∧Qc Qb w' am):=O (fun w' cc=>by
   obtain⟨G,hT,_⟩:=(z.o w' cc).treeOf;exact P8 hT id (by have:=Qwe s.tree id;have:=I.tree.many;omega))
  have u:=O (fun w'(cc:Qc Qb w w')=>Qbl (z.o w' cc) I id);have ac:Hi (s.aP id=0→∀w3,Qc Qb w w3→Cl 121 #[ptr A.tb,ZI id] w3 fun e J=>e=.returned (ZI 0)∧Qc F w J∧Qi A J (Qn F w J) b {s with tree:=s.tree.drop id}∧
    ZW 122 #[ptr A.pb,ZI id] J (.bool true) fun w5=>Qi A w5 (Qn F w w5) b {s with tree:=s.tree.drop id,pick:=s.pick.drop id}∧
     ∃w6,(Builtin.delete_ #[93,3] 0 #[.map (some A.m),ZI id]).run prog w5=.ok (.tuple #[]) w6∧Qt w6 (Qn F w w6) b (s.drop id)∧Qc F w w6):=O (fun h0 w3 c3=>by
   obtain⟨B,ai⟩:=Ng h0;obtain⟨c',ap,K⟩:=Tz ai;have ha:=I.asleep B;obtain⟨x,q,hx,i1,au,hq,ar,_⟩:=I.mt.drop I.tree I.pick ai ha;have h3:=z.o w3 c3;obtain⟨G,hT,_,aj⟩:=h3.treeOf;refine Zz (Qkl hT ap K (by have:=Qwe s.tree c'.sp.par;have:=I.tree.many;omega)) ?_;rintro J⟨ao,c4⟩;obtain⟨m1,m2⟩:=aj J _ ao c4;have ag:Qc F w J:=c3.none.aA m2;have al:=(Qi.obj A).more m1 (Ke c3.size) (R.ext ag);refine⟨rfl,ag,al,?_⟩;obtain⟨Gp,⟨AP,hP⟩,_,af⟩:=al.pickOf;refine Zz (Qlj hP I.pick i1 hx au ha hq ar) ?_;rintro w5⟨an,c5⟩;obtain⟨n1,n2⟩:=af w5 _ ⟨AP,an⟩ c5;obtain⟨p1,p2⟩:=(Qi.obj A).two n1 R ag n2;refine⟨rfl,p1,?_⟩;obtain⟨w6,r6,h6,c6⟩:=p1.delLeaf id 3 0;obtain⟨q1,q2⟩:=(Qi.obj A).two h6 R p2 c6;refine⟨w6,r6,?_,q2⟩;have e:s.drop id={s with tree:=s.tree.drop id,pick:=s.pick.drop id,aI:=s.aI.filter fun l=>!decide (l.id=id)}:=by unfold Qf.drop;rw[if_pos h0]
   rw[e];exact⟨A,q1⟩)
  have HA:=O h.blk;rw[hc]at HG HE;dsimp only[Option.isSome_some,Option.isNone_some]at HG HE;obtain⟨m,B⟩:=Zx (s.many id);rw[←B]at HE u;clear h I hc B;go_enter func67,ntmps67;go_wp2_with fail;refine Zy HN ?_;rintro w1 rfl;go_wp2_with fail;refine Zy HG ?_;intro w1 c1;obtain⟨W2,c2,_,ak⟩:=Qhe (s.tree.get id).sp w1;have C2:=O (c1.aA c2);clear c1 c2 U V Z a3 a4;obtain⟨U,V,Z,a3,a4⟩:=Ym (C2.o.blk HA.o (fun h=>h));go_wp2_with fail;clear ak;refine(HU.o W2 C2.o).mono ?_;rintro e w3⟨uv,rfl,hI,_,c3⟩;obtain⟨ua,cap,rfl,_,_,_⟩:=hI.row intT.hc;have C3:=O (C2.o.aA c3);obtain⟨n0,ae⟩:=Zx ((s.tree.aM id).length);have ah:=O ae;rw[←ae];clear hI c3 ae U V Z a3 a4;by_cases K:s.tree.aM id=[]
  ·have hz:n0=0:=by rw[ah.o,K];rfl
   subst hz;by_cases B:0<m
   ·have E:=O (show s.aP id=230 by rw[HE.o,if_neg (by decide),if_neg (by simpa using K),if_pos B]);have dm:decide (0<m)=true:=by simpa using B
    rw[dm]at u;clear B K dm;go_wp2_with fail;refine Zz (u.o w3 C3.o) ?_;intro J c4;have d:=O (NO.o J (C3.o.aA c4) (by rw[E.o];decide));clear c4;go_wp2_with fail;go_ret;exact⟨by rw[E.o];rfl,d.o⟩
   ·have E:=O (show s.aP id=0 by rw[HE.o,if_neg (by decide),if_neg (by simpa using K),if_neg B]);have dm:decide (0<m)=false:=by simpa using B
    rw[dm]at u;have ST:=O (ac.o E.o);clear B K dm;go_wp2_with fail;refine Zz (u.o w3 C3.o) ?_;intro J c4;have C4:=O (C3.o.aA c4);clear c4;obtain⟨U,V,Z,a3,a4⟩:=Ym (C4.o.blk HA.o (fun h=>h));go_wp2_with fail;clear U V Z a3 a4;refine Zz (ST.o J C4.o) ?_;rintro w5⟨c5,h5,hP⟩;have HP:=O hP;obtain⟨U,V,Z,a3,a4⟩:=Ym h5.blk;clear hP c5 h5;go_wp2_with fail;clear U V Z a3 a4;refine Zy HP ?_;rintro w6⟨h6,w7,r7,ab,aa⟩;obtain⟨U,V,Z,a3,a4⟩:=Ym h6.blk;have d:=O (Zt ab aa);clear h6 ab aa;go_wp2_with fail;go_ret;exact⟨by rw[E.o];rfl,d.o⟩
  ·have aq:n0≠0:=fun e=>K (List.eq_nil_of_length_eq_zero (by rw[←ah.o,e]));have E:=O (show s.aP id=161 by rw[HE.o,if_neg (by decide),if_pos K]);have dn:decide ((0:Int)<(n0:Int))=true:=by simp;omega
   have av:decide (0<n0)=true:=by simp;omega
   have d:=O (NO.o w3 C3.o (by rw[E.o];decide));clear K aq;go_wp2_with fail;go_ret;exact⟨by rw[E.o];rfl,d.o⟩
end
section
variable{w:World}{F:Fp}{b:Nat}{h:Qm}
theorem Qgd{s:Yk}(c:h.aO s≠0):h.add s=h:=by unfold Qm.add;rw[if_neg c]
theorem Qny(hh:Q9 w F b h)(ok:J8 h){s:Yk}(h0:h.aO s=0):
  ∃ma mu,Qh w b #[.map (some ma),.map (some mu)] 114∧ma<w.heap.size∧mu<w.heap.size∧b≠ma∧b≠mu∧∀w3,Qc Qb w w3→
   ∃u,(Instr.mapUpdate 111 (.map (some ma)) (ZI s.id) (.agg (P0 ⟨s,h.depth s.par⟩))).run prog w3.drew=.ok () u∧Qc (fun k=>k=ma) w3 u∧
   ∃v,(Instr.lookup 112 (.map (some mu)) (ZI s.par) false).run prog u.drew=.ok v u.drew∧Q6 u v (h.aM s.par)∧(∀k,v.ownBlock=some k→k<w.heap.size∧k≠b∧k≠ma∧k≠mu)∧
   ∀i w5 w6 v',Om s.id (h.aM s.par) i i→Qc Qb u w5→Qc (fun k=>v.ownBlock=some k) w5 w6→Q6 w6 v' ((h.aM s.par).take i++s.id::(h.aM s.par).drop i)→(v'.ownBlock=v.ownBlock∨∃k,v'.ownBlock=some k∧w5.heap.size≤k)→
    ∃B,(Instr.mapUpdate 112 (.map (some mu)) (ZI s.par) v').run prog w6=.ok () B∧Q9 B (Qn F w B) b (h.add s)∧Qc F w B:=by
 obtain⟨ma,mu,l,vs,G,hp,hn,aq,ae,z,fb,fm,fG,al,V,a4,az,am⟩:=hh.opn;have ag:=z.at_;obtain⟨_,_,ab,_⟩:=Ub h0;have ah:=Wu ab;refine⟨ma,mu,aq,ae.lt,z.map.lt,a4,fun e=>al (e▸ag),fun w3 E=>?_⟩;obtain⟨u,r4,av,c4⟩:=X6 (P:=prog) ((ae.aB E (fun h=>h)).aB (Zg Qb w3).drew (fun h=>h)) underlying111 underlying3 s.id (.agg (P0 ⟨s,h.depth s.par⟩));have I:Qc (fun k=>k=ma) w3 u:=c4.aT;refine⟨u,r4,I,?_⟩;have U:=(z.aB E (Jl.none G)).aB I (fun k d e=>V (e▸d));obtain⟨v,hr,hI,hv⟩:=(U.aB (Zg Qb u).drew (Jl.none G)).look s.par;have ar:Q6 u v (h.aM s.par):=hI;have q:∀k,v.ownBlock=some k→(s.par,v)∈vs∧G k∧k≠mu:=fun k d=>by
  rcases hv with⟨e,_⟩|hv;·rw[e]at d;cases d
  ·exact⟨hv,z.own _ hv k d⟩
 refine⟨v,hr,ar,fun k d=>?_,fun i w5 w6 v' a3 J K ac aj=>?_⟩;·obtain⟨_,h1,h2⟩:=q k d;exact⟨az k (fG k h1),fun e=>al (e▸h1),fun e=>V (e▸h1),h2⟩
 ·have aw:=(U.map.aB J (fun h=>h)).aB K (fun d=>(q mu d).2.2 rfl);obtain⟨B,r7,ax,R⟩:=X6 (P:=prog) aw underlying112 underlying3 s.par v';refine⟨B,r7,?_⟩;have a0:(fun k=>Qm.aM (h.add s) k)=fun k=>if s.par=k then Nm s.id (h.aM k)else h.aM k:=funext fun k=>by rw[Bv h0];exact Fe ⟨s,h.depth s.par⟩ k ok.sorted
  have aa:∀k,(h.add s).aM k=if s.par=k then Nm s.id (h.aM k)else h.aM k:=fun k=>congrFun a0 k;have a1:s.id∉h.aM s.par:=fun hx=>by obtain⟨c,hc,e,_⟩:=Sx hx;exact ah c hc e
  have ai:(h.add s).aM s.par=(h.aM s.par).take i++s.id::(h.aM s.par).drop i:=by rw[aa,if_pos rfl,Qm8 a3 a1]
  have s5:=J.size;have s6:=K.size;have s7:=R.size;have ak:∀k,v'.ownBlock=some k→k<w6.heap.size:=ac.lt;have au:Q6 B v' ((h.add s).aM s.par):=by
   rw[ai];refine ac.aB R fun k d e=>?_;rcases aj with Z|⟨k2,Z,h2⟩;·rw[Z]at d;exact(q k d).2.2 e
   ·rw[Z]at d;have e3:k2=k:=Zs d;have:=U.map.lt;omega
  have ao:Qc (fun k=>k=mu∨v.ownBlock=some k) u B:=((J.none.aA (K.mono fun k d=>.inl (.inr d))).trans R fun k d=>.inl (.inl d));obtain⟨ay,ap⟩:=U.put (i:=s.par) (v':=v') (fun k d=>by rw[aa,if_neg (fun e=>d e.symm)]) au (fun k d=>by
   rcases aj with Z|⟨k2,Z,h2⟩;·rw[Z]at d;exact .inl ⟨v,(q k d).1,d⟩
   ·rw[Z]at d;have e3:k2=k:=Zs d;have h3:=ak k (by rw[Z,e3]);exact .inr ⟨by omega,by omega⟩) ax ao (fun k d=>d.imp id fun d=>⟨v,(q k d).1,d⟩)
  have cA:Qc (fun k=>k=ma∨G k) w B:=(E.none.aA (I.mono fun k d=>.inl (.inl d))).aA (ap.sub fun k d=>.inr d);have an:Bd G w:=z.bd;refine am B (l++[⟨s,h.depth s.par⟩]) _ _ ?_ ?_ (ay.later (w:=w) (Zp E.size I.size) ?_) cA;·rw[Bv h0];exact(hp.append_right _).trans (Ef _ h).symm
  ·have af:=((av.aB J (fun h=>h)).aB K (fun d=>by obtain⟨_,h1,_⟩:=q ma d;exact V h1)).aB R (fun e=>V (e▸ag));rw[Gw (fun p a2=>by
    obtain⟨x,hx,rfl⟩:=Z3.1 a2;exact ah x (hp.mem_iff.1 hx))]at af
   have:Us (l++[⟨s,h.depth s.par⟩])=Us l++[(s.id,.agg (P0 ⟨s,h.depth s.par⟩))]:=by unfold Us;rw[List.map_append];rfl
   rw[this];exact af
  ·exact fun k d=>d.elim (fun d=>Nat.lt_of_lt_of_le (an k d) cA.size) (fun d=>d.2)
theorem Am(h:Qm)(s:Yk):h.aO s=if s.mayE≠0 then 130 else if 64≤h.length then 4 else if(h.at s.id).isSome then 80 else if h.depth s.par=0 then 160 else 0:=rfl
end
section
variable{w:World}{F:Fp}{b:Nat}{h:Qm}
theorem Qh.inj{w}{g:Nat}{cs cs':Array Value}{t c:TypeId}(h:Qh w g cs t)(h':Qh w g cs' c):cs=cs':=by unfold Qh at h h';rw[h]at h';injection h' with h';injection h' with h'
theorem Qor(hh:Q9 w F b h)(ok:J8 h)(s:Yk):
  ZW 102 #[ptr b,Fb s] w (ZI (h.aO s)) fun w'=>Q9 w' (Qn F w w') b (h.add s)∧Qc F w w':=by
 have aa:=O (fun w'(c:Qc Qb w w')=>Q9.obj.aB hh c (Jl.none F));have NO:Hi (∀w',Qc Qb w w'→h.aO s≠0→Q9 w' (Qn F w w') b (h.add s)∧Qc F w w'):=O (fun w' c h0=>by rw[Qgd h0];exact Q9.obj.same hh c);obtain⟨W,hW⟩:=Zx (w.alloc (.cells (Z4 s.leaf s) 29));have S0:Hi (Xx W w.heap.size s):=O (by rw[hW];exact Xx.new w s);have C0:Hi (Qc Qb w W):=O (by rw[hW];exact(Zg _ _).alloc _);have HN:=O (Gz (aa.o W C0.o));have I:=O (fun w=>Qef s w);obtain⟨a0,a1,a2,a3,a4,a5,a6,a7,a8,a9,ak,al,am,an⟩:=(show Xx (w.alloc _) _ _ from hW▸S0.o).cells;by_cases hm:s.mayE=0
 ·have hE:h.aO s=if 64≤h.length then 4 else if(h.at s.id).isSome then 80 else if h.depth s.par=0 then 160 else 0:=by rw[Am,if_neg (by omega)]
  have HD:=O (fun w'(c:Qc Qb w w')=>Qhk (aa.o w' c) s.par);obtain⟨ma,mu,l,vs,G,hp,z,ao,ar,bo,fb,fm,fG,bt,bu,bv,bp,_⟩:=hh.opn;have Z:=O ao;have LK:=O (fun(w')(cc:Qc Qb w w')=>show(Instr.lookup 111 (.map (some ma)) (ZI s.id) true).run prog w'=.ok (.tuple #[.agg (P0 (h.get s.id)),.bool (h.at s.id).isSome]) w' by
   have hL:=Dj (P:=prog) (ar.aB cc (fun h=>h)) underlying111 underlying3 (Sf w') s.id;rw[Ed s.id l z,←Qm.at_perm hp z]at hL;rw[hL];unfold Qm.get;cases h.at s.id<;>rfl)
  have ay:=O (fun(w')(cc:Qc Qb w w')=>show(Builtin.len_ #[111] 3 #[.map (some ma)]).run prog w'=.ok (ZI h.length) w' by
   have hL:=Qua (P:=prog) (ar.aB cc (fun h=>h)) underlying111 3;have e:(Us l).length=h.length:=by unfold Us;rw[List.length_map,hp.length_eq]
   rw[e]at hL;exact hL)
  have J:Hi (h.aO s=0→ma<w.heap.size∧mu<w.heap.size∧b≠ma∧b≠mu∧∀w3,Qc Qb w w3→
   ∃q,(Instr.mapUpdate 111 (.map (some ma)) (ZI s.id) (.agg (P0 ⟨s,h.depth s.par⟩))).run prog w3.drew=.ok () q∧Qc (fun k=>k=ma) w3 q∧
   ∃v,(Instr.lookup 112 (.map (some mu)) (ZI s.par) false).run prog q.drew=.ok v q.drew∧Q6 q v (h.aM s.par)∧(∀k,v.ownBlock=some k→k<w.heap.size∧k≠b∧k≠ma∧k≠mu)∧
   ∀i w5 w6 v',Om s.id (h.aM s.par) i i→Qc Qb q w5→Qc (fun k=>v.ownBlock=some k) w5 w6→Q6 w6 v' ((h.aM s.par).take i++s.id::(h.aM s.par).drop i)→(v'.ownBlock=v.ownBlock∨∃k,v'.ownBlock=some k∧w5.heap.size≤k)→
    ∃w7,(Instr.mapUpdate 112 (.map (some mu)) (ZI s.par) v').run prog w6=.ok () w7∧Q9 w7 (Qn F w w7) b (h.add s)∧Qc F w w7):=O (fun h0=>by
   obtain⟨br,bs,bl,k1,k2,k3,k4,k5⟩:=Qny hh ok h0;have e:=ao.inj bl;injection e with e;injection e with R e2;injection R with R;injection e2 with e2 _;injection e2 with e2;have R:ma=br:=Zs R;have e2:mu=bs:=Zs e2;subst R;subst e2;exact⟨k1,k2,k3,k4,k5⟩)
  have aj:=O (Gk ok.sorted s.par);have ab:Hi ((h.aM s.par).length≤64):=O (by
   have:(h.aM s.par).length≤h.length:=by unfold Qm.aM;rw[List.length_map];exact List.length_filter_le _ _
   have:=ok.many;omega)
  have Eu:decide (s.mayE=0)=true:=by simpa using hm
  have bq:(s.mayE==0)=true:=by simpa using hm
  obtain⟨c,hc⟩:=Zx (h.get s.id);rw[←hc]at LK;obtain⟨bw,bd⟩:=Zx ((h.at s.id).isSome);rw[←bd]at LK hE;obtain⟨n,bc⟩:=Zx (h.length);rw[←bc]at ay hE;obtain⟨d,au⟩:=Zx (h.depth s.par);rw[←au]at HD J hE;have b2:Hi (d≤8):=O (by
   rw[au];unfold Qm.depth;split;·omega
   ·split;·omega
    ·split;·omega
     ·rename_i hx;simp only[Bool.or_eq_true,decide_eq_true_eq,not_or]at hx;omega)
  have HE:=O hE;rw[hm]at I;unfold Fb ptr at*;clear hh ok hE hm ao ar bo hp z fb fm fG bt bu bv bp hc bd bc au Eu bq;go_enter func102,ntmps102;go_wp2_with fail;rw[←hW]at a0 a1 a2 a3 a4 a5 a6 a7 a8 a9 ak al am an⊢;clear hW;refine Zy HN ?_;rintro w1 rfl;go_wp2_with fail;refine Zz (I.o _) ?_;intro w1 c1;have C1:=O (C0.o.aA c1);have S1:=O (S0.o.aB c1);have b3:Hi (w.heap.size<w1.heap.size):=O (Nat.lt_of_lt_of_le (Qh.lt S0.o) c1.size);clear c1 a0 a1 a2 a3 a4 a5 a6 a7 a8 a9 ak al am an;go_wp2_with fail;refine ZC [100,101,102,103,104,105,106,107,108,109,210,211,312] (fun U=>Qc (Qb) (w1) U) ?_;simp only[Z8,Zf,Ze,Zd];iterate 3 (refine Qy (h:=?_);try simp only[Act.put,Za,Zc,Zb])
  iterate 1 (refine Qy (by kernel_rfl) (fun U hv=>by(obtain⟨z0,z1⟩:=Q4 (hv.blk (C1.o.blk Z.o (fun h=>h)) (fun h=>h)));go_simp;try rfl) ?_;try simp only[Act.put,Za,Zc,Zb])
  (refine Qy (h:=?_);try simp only[Act.put,Za,Zc,Zb]);iterate 2 (refine Qy (by kernel_rfl) (fun U hv=>by(obtain⟨z0,_⟩:=(show Xx U w.heap.size s from S1.o.aB hv).cells;have lk:=LK.o U (C1.o.aA hv));go_simp;try rfl) ?_;try simp only[Act.put,Za,Zc,Zb])
  iterate 3 (refine Qy (h:=?_);try simp only[Act.put,Za,Zc,Zb])
  refine Yb ?_;go_wp2_with fail;refine⟨((Zg Qb w1).alloc _).drew,?_⟩;have ap:Qh (w1.alloc (.cells Z6 109)).drew w1.heap.size Z6 109:=(Qh.new _ _ _).drew;have D1:Qc Qb w1 (w1.alloc (.cells Z6 109)).drew:=((Zg Qb w1).alloc _).drew;generalize(w1.alloc (.cells Z6 109)).drew=W1 at ap D1⊢;obtain⟨W2,s2,bm,C2⟩:=Q0 (P:=prog) (vs:=P0 c) ap rfl (Sn c);have af:Qc Qb w1 W2:=D1.trans C2 (fun k e=>.inr (by omega));have B:=O af;have av:=O (C1.o.aA af);clear ap D1 bm C2 af;refine Yb ?_;go_wp2_with fail;refine⟨B.o,?_⟩;refine Km ?_;go_wp2_with fail;refine Ky ?_;clear s2;have bz:=(show Xx W2 w.heap.size s from S1.o.aB B.o).cells.2.1;go_wp2_with fail;refine Zz (HD.o W2 av.o) ?_;intro w3 c3;have V:=O (av.o.aA c3);have S3:=O ((S1.o.aB B.o).aB c3);clear c3 bz;obtain⟨b0,b1⟩:=Q4 (V.o.blk Z.o (fun h=>h));have bb:=ay.o w3 V.o;by_cases z:64≤n
  ·have bg:decide (64≤(n:Int))=true:=by simp;omega
   have E:=O (show h.aO s=4 by rw[HE.o,if_pos z]);have u:=O (NO.o w3 V.o (by rw[E.o];decide));clear z;go_wp2_with fail;go_ret;exact⟨by rw[E.o];rfl,u.o⟩
  ·have bg:decide (64≤(n:Int))=false:=by simp;omega
   cases bw with
   |true=> have E:=O (show h.aO s=80 by rw[HE.o,if_neg z,if_pos rfl]);have u:=O (NO.o w3 V.o (by rw[E.o];decide));clear z;go_wp2_with fail;go_ret;exact⟨by rw[E.o];rfl,u.o⟩
   |false=>
    by_cases hd:d=0;·have E:=O (show h.aO s=160 by rw[HE.o,if_neg z,if_neg (by decide),if_pos hd]);have u:=O (NO.o w3 V.o (by rw[E.o];decide));subst hd;clear z;go_wp2_with fail;go_ret;exact⟨by rw[E.o];rfl,u.o⟩
    ·have E:=O (show h.aO s=0 by rw[HE.o,if_neg z,if_neg (by decide),if_neg hd]);have b4:decide ((d:Int)=0)=false:=by simp;omega
     have b5:((d:Int)==0)=false:=by simp;omega
     obtain⟨k1,k2,k3,k4,k5⟩:=J.o E.o;obtain⟨q,r4,c4,v,r5,az,bf,k6⟩:=k5 w3 V.o;have K:=O (Zt k1 (Zt k2 (Zt k3 k4)));have C4:=O c4;have aw:=O az;have ai:=O bf;have K6:=O k6;have S4:=O (c4.blk S3.o (fun e=>by
      have:=K.o.1;omega))
     have ag:=O (c4.blk (V.o.blk Z.o (fun h=>h)) K.o.2.2.1);clear z k1 k2 k3 k4 k5 k6 c4 az bf;go_wp2_with fail;clear b0 b1 bb;obtain⟨e0,R⟩:=Q4 ((V.o.blk Z.o (fun h=>h)).drew);obtain⟨g0,g1,g2,g3,g4,g5,g6,g7,g8,g9,bh,bi,bj,bk⟩:=(show Xx w3.drew w.heap.size s from S3.o.aB (Zg Qb w3).drew).cells;unfold P0 at r4;dsimp only at r4;refine ZB [0,1,2,3,4,5,6,7,8,209] ?_;simp only[Z8,Zf,Ze,Zd];iterate 9 (refine Jq (h:=?_))
     clear e0 R g0 g1 g2 g3 g4 g5 g6 g7 g8 g9 bh bi bj bk;refine J7 ?_;go_wp2_with fail;refine Jo ?_;clear r4;go_wp2_with fail;obtain⟨e0,R⟩:=Q4 ag.o.drew;obtain⟨_,g1,_⟩:=(show Xx q.drew w.heap.size s from Xx.aB S4.o (Zg Qb q).drew).cells;refine ZB [0,1,2,3,4,5,6,207] ?_;simp only[Z8,Zf,Ze,Zd];iterate 7 (refine Jq (h:=?_))
     clear e0 R g1;refine J7 ?_;go_wp2_with fail;refine Jo ?_;clear r5;obtain⟨g0,_⟩:=(show Xx q.drew w.heap.size s from Xx.aB S4.o (Zg Qb q).drew).cells;go_wp2_with fail;refine(Qn7 (Q6.aB aw.o (Zg Qb q).drew (fun _ _ h=>h)) (aj.o.imp fun h=>Int.le_of_lt h) (by have:=ab.o;omega) s.id).mono ?_;rintro e w5⟨i,fb,rfl,rfl,be⟩;have ax:=O be;clear be;go_wp2_with fail;clear g0;have NE:=O (fun k hk=>(ai.o k hk).2.1);obtain⟨g0,_⟩:=(show Xx q.drew.drew w.heap.size s from Xx.aB S4.o (Zg Qb q).drew.drew).cells;obtain⟨e0,R⟩:=Q4 ag.o.drew.drew;refine ZC [100,101,102,103,104,105,106,107,8,9,210,211,312] (fun U=>Qc (fun k=>v.ownBlock=some k) (q) U) ?_;simp only[Z8,Zf,Ze,Zd];iterate 3 (refine Qy (h:=?_);try simp only[Act.put,Za,Zc,Zb])
     iterate 1 (refine Qy (by kernel_rfl) (fun U hv=>by(obtain⟨z0,z1⟩:=Q4 (hv.blk ag.o (fun h=>NE.o _ h rfl)));go_simp;try rfl) ?_;try simp only[Act.put,Za,Zc,Zb])
     (refine Qy (h:=?_);try simp only[Act.put,Za,Zc,Zb]);iterate 1 (refine Qy (by kernel_rfl) (fun U hv=>by(obtain⟨_,z1,_⟩:=(show Xx U w.heap.size s from hv.blk S4.o (fun h=>by have:=(ai.o _ h).1;omega)).cells);go_simp;try rfl) ?_;try simp only[Act.put,Za,Zc,Zb])
     iterate 2 (refine Qy (h:=?_);try simp only[Act.put,Za,Zc,Zb])
     iterate 2 (refine Xe (h:=?_))
     clear e0 R g0;refine Yb ?_;go_wp2_with fail;refine⟨(Zg _ q).drew.drew.alloc _,?_⟩;have hV:Qh ((q.alloc (.cells #[ZI s.id] 3)).drew.drew) q.heap.size #[ZI s.id] 3:=(Qh.new _ _ _).drew.drew;have aq:Qc Qb q ((q.alloc (.cells #[ZI s.id] 3)).drew.drew):=((Zg _ q).alloc _).drew.drew;generalize(q.alloc (.cells #[ZI s.id] 3)).drew.drew=w5 at hV aq⊢;have ah:=O aq;have HV:=O hV;clear hV aq;refine Yb ?_;go_wp2_with fail;refine(Qkn (Q6.aB aw.o ah.o (fun _ _ h=>h)) (by have:=ab.o;omega) i ax.o.len s.id HV.o (fun k hk e=>by
      have h1:=(ai.o k hk).1;have h2:=V.o.size;have h3:=C4.o.size;omega)).mono ?_
     rintro e w6⟨v',rfl,ba,c6,ho⟩;obtain⟨w7,r7,ae,ac⟩:=K6.o i w5 w6 v' ax.o ah.o c6 ba ho;have u:=O (Zt ae ac);have C6:=O (ah.o.none.aA c6);clear ba c6 ho ae ac;go_wp2_with fail;refine⟨C6.o,?_⟩;refine Km ?_;go_wp2_with fail;refine Ky ?_;clear r7;go_wp2;go_ret;exact⟨by rw[E.o];rfl,u.o⟩
 ·have hE:h.aO s=130:=by rw[Am,if_pos hm]
  have hd:decide (s.mayE=0)=false:=by simpa using hm
  have b6:(s.mayE==0)=false:=by simpa using hm
  rw[hE];rw[hE]at NO;unfold Fb ptr at*;clear hh ok hE hm;go_enter func102,ntmps102;go_wp2_with fail;rw[←hW]at a0 a1 a2 a3 a4 a5 a6 a7 a8 a9 ak al am an⊢;clear hW;refine Zy HN ?_;rintro w1 rfl;go_wp2_with fail;refine Zz (I.o _) ?_;intro w1 c1;have u:=O (NO.o w1 (C0.o.aA c1) (by decide));clear c1;go_wp2_with fail;go_ret;exact⟨rfl,u.o⟩
end
section
@[irreducible]def Qr5(c d k q u z B E I s1 s2 s3 J K R U V Z:Int):Bool:=!(c==s1&&(d==s2&&(k==s3&&(q==J&&(u==K&&(z==R&&(B==U&&(E==V&&I==Z))))))))
theorem Qlb{c d k q u z B E I s1 s2 s3 J K R U V Z:Int}(h:Qr5 c d k q u z B E I s1 s2 s3 J K R U V Z=false):c=s1∧d=s2∧k=s3∧q=J∧u=K∧z=R∧B=U∧E=V∧I=Z:=by unfold Qr5 at h;simpa using h
theorem Qma(i p k t d K R U V Z r6 r7 r8 r9 s1 s2 s3 s4 s5 s6 s7 s8 s9:Int)(b:Bool)(w):
  (binOp .neq 109 (.agg #[ZI i,ZI p,.bool b,ZU K,ZU R,ZU U,ZU V,ZU Z,ZU r6,ZU r7,ZU r8,ZU r9,ZI k,ZI t,ZI d]) (.agg #[ZI i,ZI p,.bool b,ZU s1,ZU s2,ZU s3,ZU s4,ZU s5,ZU s6,ZU s7,ZU s8,ZU s9,ZI k,ZI t,ZI d])).run prog w=
   .ok (.bool (Qr5 K R U V Z r6 r7 r8 r9 s1 s2 s3 s4 s5 s6 s7 s8 s9)) w:=by
 unfold Qr5;go_simp;by_cases c:K=s1;case neg=>simp[c]
 by_cases q:R=s2;case neg=>simp[c,q]
 by_cases u:U=s3;case neg=>simp[c,q,u]
 by_cases z:V=s4;case neg=>simp[c,q,u,z]
 by_cases B:Z=s5;case neg=>simp[c,q,u,z,B]
 by_cases E:r6=s6;case neg=>simp[c,q,u,z,B,E]
 by_cases I:r7=s7;case neg=>simp[c,q,u,z,B,E,I]
 by_cases J:r8=s8;case neg=>simp[c,q,u,z,B,E,I,J]
 by_cases h9:r9=s9;case neg=>simp[c,q,u,z,B,E,I,J,h9]
 simp[c,q,u,z,B,E,I,J,h9]
end
def Qc0(a b:Jy):Bool:=(a.f:Int)==(b.f:Int)&&((a.l:Int)==(b.l:Int)&&(a.r:Int)==(b.r:Int))
theorem Tx{a b:Jy}(h:Qc0 a b=true):a=b:=by obtain⟨c,d,k⟩:=a;obtain⟨q,u,z⟩:=b;unfold Qc0 at h;simp only[Zw,beq_iff_eq]at h;obtain⟨B,E,I⟩:=h;congr 1<;>omega
def Qfo(a s:Yk):Bool:=Qc0 a.real s.real&&(Qc0 a.share s.share&&Qc0 a.aN s.aN)
theorem Qiy{a s:Yk}(h:Qfo a s=true):a.aK s=a:=by unfold Qfo at h;simp only[Zw]at h;obtain⟨c,d,k⟩:=h;unfold Yk.aK;rw[←Tx c,←Tx d,←Tx k]
section
variable{w:World}{F:Fp}{b:Nat}{h:Qm}
theorem Fq{s:Yk}(c:h.aG s≠0):h.change s=h:=by unfold Qm.change;rw[if_neg c]
theorem Qgt{s:Yk}{c:Vm}(z:J8 h)(k:h.at s.id=some c)(q:Qfo c.sp s=true):h.change s=h:=by
 unfold Qm.change;split
 ·have:∀x∈h,(if x.sp.id=s.id then(⟨x.sp.aK s,x.d⟩:Vm)else x)=x:=fun x u=>by
   split;·rename_i e;have d:=Da z.sorted u;rw[e,k]at d;obtain rfl:=Zs d;rw[Qiy q]
   ·rfl
  calc h.map (fun x=>if x.sp.id=s.id then(⟨x.sp.aK s,x.d⟩:Vm)else x)=h.map id:=List.map_congr_left this
   _=h:=List.map_id h
 ·rfl
theorem Qp9{l:List Vm}{c:Vm}(i:Int)(q:(l.map Vm.id).Nodup)(u:∃x∈l,x.sp.id=c.sp.id):Oi c.sp.id (.agg (P0 c)) (Us l)=Us (l.map fun x=>if x.sp.id=c.sp.id then c else x):=by
 induction l with
 |nil=>obtain⟨x,d,_⟩:=u;cases d
 |cons y l B=>
  simp only[List.map_cons,List.nodup_cons]at q;show Oi c.sp.id (.agg (P0 c)) ((y.sp.id,.agg (P0 y))::Us l)=_;rw[Oi];by_cases e:y.sp.id=c.sp.id
  ·rw[if_pos e.symm];have:l.map (fun x=>if x.sp.id=c.sp.id then c else x)=l:=by
    have:∀x∈l,(if x.sp.id=c.sp.id then c else x)=x:=fun x d=>if_neg fun k=>q.1 (Z3.2 ⟨x,d,k.trans e.symm⟩)
    calc l.map (fun x=>if x.sp.id=c.sp.id then c else x)=l.map id:=List.map_congr_left this
     _=l:=List.map_id l
   rw[List.map_cons,this,if_pos e];rfl
  ·rw[if_neg (fun z=>e z.symm),List.map_cons,if_neg e,B q.2 (by
    obtain⟨x,d,k⟩:=u;rcases Zu.1 d with rfl|d;·exact absurd k e
    ·exact⟨x,d,k⟩)]
   rfl
theorem Qev(hh:Q9 w F b h){s:Yk}(h0:h.aG s=0){c:Vm}(hc:h.at s.id=some c):
  ∃ma mu,Qh w b #[.map (some ma),.map (some mu)] 114∧∀w3,Qc Qb w w3→
   ∃q,(Instr.mapUpdate 111 (.map (some ma)) (ZI s.id) (.agg (P0 ⟨c.sp.aK s,c.d⟩))).run prog w3=.ok () q∧Q9 q (Qn F w q) b (h.change s)∧Qc F w q:=by
 obtain⟨ma,mu,l,vs,G,hp,hn,U,V,E,fb,fm,fG,ae,ab,af,ac,K⟩:=hh.opn;refine⟨ma,mu,U,fun w3 u=>?_⟩;obtain⟨q,r4,B,z⟩:=X6 (P:=prog) (V.aB u (fun h=>h)) underlying111 underlying3 s.id (.agg (P0 ⟨c.sp.aK s,c.d⟩));refine⟨q,r4,?_⟩;obtain⟨aa,I⟩:=Qm.aE hc;have Z:=((E.aB u (Jl.none G)).aB z (fun k d e=>ab (e▸d))).same (h':=h.change s) (fun i=>by
  unfold Qm.change;rw[if_pos h0];exact Ik h s i)
 have cA:Qc (fun k=>k=ma∨G k) w q:=u.none.aA (z.mono fun k d=>.inl (.inl d));have J:c∈l:=hp.mem_iff.2 aa;have R:Bd G w:=E.bd;refine K q (l.map fun x=>if x.sp.id=s.id then⟨x.sp.aK s,x.d⟩else x) vs _ ?_ ?_ ((Y7.good mu vs _).more Z (fun k d=>.inl d) (fun k d=>d.elim (fun d=>Nat.lt_of_lt_of_le (R k d) cA.size) (fun d=>d.2))) cA;·unfold Qm.change;rw[if_pos h0];exact hp.map _
 ·have e1:s.id=(⟨c.sp.aK s,c.d⟩:Vm).sp.id:=I.symm;have e2:=Qp9 (c:=⟨c.sp.aK s,c.d⟩) s.id hn ⟨c,J,rfl⟩;rw[←e1]at e2;rw[e2]at B;have e3:(l.map fun x=>if x.sp.id=s.id then(⟨c.sp.aK s,c.d⟩:Vm)else x)=l.map fun x=>if x.sp.id=s.id then⟨x.sp.aK s,x.d⟩else x:=by
   refine List.map_congr_left fun x hx=>?_;split
   ·rename_i e;have:x=c:=by have h1:=Ls (key:=Vm.id) hn hx e;have h2:=Ls (key:=Vm.id) hn J I;exact Zs (h1.symm.trans h2)
    rw[this]
   ·rfl
  rw[←e3];exact B
end
section
attribute [local go_sem ↓] Qma
section
variable{w:World}{F:Fp}{b:Nat}{h:Qm}
theorem Qda(h:Qm){i:Int}{c:Vm}(d:h.at i=some c):h.get i=c:=by unfold Qm.get;rw[d];rfl
theorem Qe1(hh:Q9 w F b h)(ok:J8 h)(s:Yk):
  ZW 119 #[ptr b,Fb s] w (ZI (h.aG s)) fun w'=>Q9 w' (Qn F w w') b (h.change s)∧Qc F w w':=by
 have aq:=O (fun w'(c:Qc Qb w w')=>Q9.obj.aB hh c (Jl.none F));have NO:Hi (∀w',Qc Qb w w'→h.aG s≠0→Q9 w' (Qn F w w') b (h.change s)∧Qc F w w'):=O (fun w' c h0=>by rw[Fq h0];exact Q9.obj.same hh c);have ar:Hi (∀w',Qc Qb w w'→h.change s=h→Q9 w' (Qn F w w') b (h.change s)∧Qc F w w'):=O (fun w' c h0=>by rw[h0];exact Q9.obj.same hh c);obtain⟨W,hW⟩:=Zx (w.alloc (.cells (Z4 s.leaf s) 29));have S0:Hi (Xx W w.heap.size s):=O (by rw[hW];exact Xx.new w s);have C0:Hi (Qc Qb w W):=O (by rw[hW];exact(Zg _ _).alloc _);have a7:Hi (w.heap.size<W.heap.size):=O (Qh.lt S0.o);have HN:=O (Gz (aq.o W C0.o));obtain⟨ma,mu,l,vs,G,hp,hn,ah,ai,aw,fb,fm,fG,az,a0,a1,ax,_⟩:=hh.opn;have ag:=O ah;have LK:=O (fun(w')(cc:Qc Qb w w')=>show(Instr.lookup 111 (.map (some ma)) (ZI s.id) true).run prog w'=.ok (.tuple #[.agg (P0 (h.get s.id)),.bool (h.at s.id).isSome]) w' by
  have hL:=Dj (P:=prog) (ai.aB cc (fun h=>h)) underlying111 underlying3 (Sf w') s.id;rw[Ed s.id l hn,←Qm.at_perm hp hn]at hL;rw[hL];unfold Qm.get;cases h.at s.id<;>rfl)
 have a5:=O (fun(w')(cc:Qc Qb w w')(c:Vm)(hc:h.at s.id=some c)=>show(Instr.lookup 111 (.map (some ma)) (ZI s.id) false).run prog w'=.ok (.agg (P0 c)) w' by
  have hL:=Du (P:=prog) (ai.aB cc (fun h=>h)) underlying111 underlying3 (Sf w') s.id;rw[Ed s.id l hn,←Qm.at_perm hp hn,hc]at hL;exact hL)
 cases hc:h.at s.id with
 |none=>
  have E:=O (show h.aG s=81 by unfold Qm.aG;rw[hc]);have J:h.get s.id=Qto:=by unfold Qm.get;rw[hc];rfl
  rw[hc,J]at LK;obtain⟨c,ay⟩:=Zx Qto;rw[←ay]at LK;dsimp only[Option.isSome_none]at LK;unfold Fb ptr at*;clear hh ok ah ai aw hp hn fb fm fG az a0 a1 ax hc J ay;go_enter func119,ntmps119;go_wp2_with fail;rw[←hW];clear hW;refine Zy HN ?_;rintro w1 rfl;go_wp2_with fail;refine ZC [100,101,102,103,104,105,106,107,108,109,210,211,312] (fun K=>Qc (Qb) (W) K) ?_;simp only[Z8,Zf,Ze,Zd];iterate 3 (refine Qy (h:=?_);try simp only[Act.put,Za,Zc,Zb])
  iterate 1 (refine Qy (by kernel_rfl) (fun K hv=>by(obtain⟨z0,z1⟩:=Q4 (hv.blk (C0.o.blk ag.o (fun h=>h)) (fun h=>h)));go_simp;try rfl) ?_;try simp only[Act.put,Za,Zc,Zb])
  (refine Qy (h:=?_);try simp only[Act.put,Za,Zc,Zb]);iterate 2 (refine Qy (by kernel_rfl) (fun K hv=>by(obtain⟨z0,_⟩:=(show Xx K w.heap.size s from S0.o.aB hv).cells;have lk:=LK.o K (C0.o.aA hv));go_simp;try rfl) ?_;try simp only[Act.put,Za,Zc,Zb])
  iterate 3 (refine Qy (h:=?_);try simp only[Act.put,Za,Zc,Zb])
  refine Yb ?_;go_wp2_with fail;refine⟨((Zg Qb W).alloc _).drew,?_⟩;have V:Qh (W.alloc (.cells Z6 109)).drew W.heap.size Z6 109:=(Qh.new _ _ _).drew;have D1:Qc Qb W (W.alloc (.cells Z6 109)).drew:=((Zg Qb W).alloc _).drew;generalize(W.alloc (.cells Z6 109)).drew=W1 at V D1⊢;obtain⟨W2,s2,af,C2⟩:=Q0 (P:=prog) (vs:=P0 c) V rfl (Sn c);have R:Qc Qb W W2:=D1.trans C2 (fun k e=>.inr (by omega));have Z:=O R;have ab:=O af;have am:=O (C0.o.aA R);clear V D1 af C2 R;refine Yb ?_;go_wp2_with fail;refine⟨Z.o,?_⟩;refine Km ?_;go_wp2_with fail;refine Ky ?_;clear s2;have U:=O (NO.o W2 am.o (by rw[E.o];decide));go_wp2_with fail;go_ret;exact⟨by rw[E.o];rfl,U.o⟩
 |some c=>
  have J:h.get s.id=c:=Qda h hc;rw[hc,J]at LK;dsimp only[Option.isSome_some]at LK;have a6:=O (fun w' cc=>a5.o w' cc c hc);have av:h.aG s=if(c.sp.aK s).mayE≠0 then 130 else 0:=by unfold Qm.aG;rw[hc]
  have EE:=O av;have a4:=O (Qgt ok hc);have au:Hi (h.aG s=0→∀w3,Qc Qb w w3→∃w4,(Instr.mapUpdate 111 (.map (some ma)) (ZI s.id) (.agg (P0 ⟨c.sp.aK s,c.d⟩))).run prog w3=.ok () w4∧Q9 w4 (Qn F w w4) b (h.change s)∧Qc F w w4):=O (fun h0=>by
   obtain⟨bg,bl,be,k⟩:=Qev hh h0 hc;have e:=ah.inj be;injection e with e;injection e with I _;injection I with I;have I:ma=bg:=Zs I;subst I;exact k)
  have aj:=O (fun w=>Qef (c.sp.aK s) w);unfold Fb ptr at*;clear hh ok ah ai aw hp hn fb fm fG az a0 a1 ax hc J av;go_enter func119,ntmps119;go_wp2_with fail;rw[←hW];clear hW;refine Zy HN ?_;rintro w1 rfl;go_wp2_with fail;refine ZC [100,101,102,103,104,105,106,107,108,109,210,211,312] (fun K=>Qc (Qb) (W) K) ?_;simp only[Z8,Zf,Ze,Zd];iterate 3 (refine Qy (h:=?_);try simp only[Act.put,Za,Zc,Zb])
  iterate 1 (refine Qy (by kernel_rfl) (fun K hv=>by(obtain⟨z0,z1⟩:=Q4 (hv.blk (C0.o.blk ag.o (fun h=>h)) (fun h=>h)));go_simp;try rfl) ?_;try simp only[Act.put,Za,Zc,Zb])
  (refine Qy (h:=?_);try simp only[Act.put,Za,Zc,Zb]);iterate 2 (refine Qy (by kernel_rfl) (fun K hv=>by(obtain⟨z0,_⟩:=(show Xx K w.heap.size s from S0.o.aB hv).cells;have lk:=LK.o K (C0.o.aA hv));go_simp;try rfl) ?_;try simp only[Act.put,Za,Zc,Zb])
  iterate 3 (refine Qy (h:=?_);try simp only[Act.put,Za,Zc,Zb])
  refine Yb ?_;go_wp2_with fail;refine⟨((Zg Qb W).alloc _).drew,?_⟩;have V:Qh (W.alloc (.cells Z6 109)).drew W.heap.size Z6 109:=(Qh.new _ _ _).drew;have D1:Qc Qb W (W.alloc (.cells Z6 109)).drew:=((Zg Qb W).alloc _).drew;generalize(W.alloc (.cells Z6 109)).drew=W1 at V D1⊢;obtain⟨W2,s2,af,C2⟩:=Q0 (P:=prog) (vs:=P0 c) V rfl (Sn c);have R:Qc Qb W W2:=D1.trans C2 (fun k e=>.inr (by omega));have Z:=O R;have ab:=O af;have am:=O (C0.o.aA R);clear V D1 af C2 R;refine Yb ?_;go_wp2_with fail;refine⟨Z.o,?_⟩;refine Km ?_;go_wp2_with fail;refine Ky ?_;clear s2;go_wp2_with fail;have S2:=O (S0.o.aB Z.o);obtain⟨g0,g1,g2,g3,g4,g5,g6,g7,g8,g9,ba,bb,bc,bd⟩:=(show Xx W2.drew w.heap.size s from S2.o.aB (Zg Qb W2).drew).cells;have NE:Hi (w.heap.size≠W.heap.size):=O (fun e=>by have:=a7.o;omega);refine ZC [0,1,102,103,104,105,6,7,208,9,10,211,12,13,314] (fun K=>Qc (fun k=>k=W.heap.size) (W2) K) ?_;simp only[Z8,Zf,Ze,Zd];iterate 2 (refine Xe (h:=?_))
  (refine Qy (h:=?_);try simp only[Act.put,Za,Zc,Zb]);iterate 1 (refine Qy (by kernel_rfl) (fun K hv=>by(obtain⟨z0,z1,z2,z3,z4,z5,z6,z7,z8,z9,bh,bi,bj,bk⟩:=(show Xx K w.heap.size s from hv.blk S2.o NE.o).cells);go_simp;try rfl) ?_;try simp only[Act.put,Za,Zc,Zb])
  (refine Qy (h:=?_);try simp only[Act.put,Za,Zc,Zb]);iterate 1 (refine Qy (by kernel_rfl) (fun K hv=>by(obtain⟨z0,z1,z2,z3,z4,z5,z6,z7,z8,z9,bh,bi,bj,bk⟩:=(show Xx K w.heap.size s from hv.blk S2.o NE.o).cells);go_simp;try rfl) ?_;try simp only[Act.put,Za,Zc,Zb])
  iterate 2 (refine Xe (h:=?_))
  clear g0 g1 g2 g3 g4 g5 g6 g7 g8 g9 ba bb bc bd;obtain⟨e0,I,e2,e3,e4,e5,e6,e7,e8,e9,d,q,u,z,B⟩:=Dm ab.o;have f3:=ab.o.frozen 3;have f4:=ab.o.frozen 4;have f5:=ab.o.frozen 5;refine Yb ?_;go_wp2_with fail;have B3:Qh (((W2.setCell ⟨W.heap.size,3,none⟩ (ZU s.real.f)).setCell ⟨W.heap.size,4,none⟩ (ZU s.real.l)).setCell ⟨W.heap.size,5,none⟩ (ZU s.real.r)).drew W.heap.size (P0 ⟨{c.sp with real:=s.real},c.d⟩) 109:=(((ab.o.set 3 _).set 4 _).set 5 _).drew;have D3:Qc (fun k=>k=W.heap.size) W2 (((W2.setCell ⟨W.heap.size,3,none⟩ (ZU s.real.f)).setCell ⟨W.heap.size,4,none⟩ (ZU s.real.l)).setCell ⟨W.heap.size,5,none⟩ (ZU s.real.r)).drew:=((((Zg (fun k=>k=W.heap.size) W2).setCell _ (.inl rfl)).setCell _ (.inl rfl)).setCell _ (.inl rfl)).drew;refine⟨D3,?_⟩;generalize(((W2.setCell ⟨W.heap.size,3,none⟩ (ZU s.real.f)).setCell ⟨W.heap.size,4,none⟩ (ZU s.real.l)).setCell ⟨W.heap.size,5,none⟩ (ZU s.real.r)).drew=W3 at B3 D3⊢;have ac:=O B3;have D3:=O D3;clear B3 e0 I e2 e3 e4 e5 e6 e7 e8 e9 d q u z B f3 f4 f5;iterate 2 (refine Xe (h:=?_))
  obtain⟨e0,I,e2,e3,e4,e5,e6,e7,e8,e9,d,q,u,z,B⟩:=Dm ac.o;have f6:=ac.o.frozen 6;have f7:=ac.o.frozen 7;have f8:=ac.o.frozen 8;refine Yb ?_;go_wp2_with fail;have B4:Qh (((W3.setCell ⟨W.heap.size,6,none⟩ (ZU s.share.f)).setCell ⟨W.heap.size,7,none⟩ (ZU s.share.l)).setCell ⟨W.heap.size,8,none⟩ (ZU s.share.r)) W.heap.size (P0 ⟨{c.sp with real:=s.real,share:=s.share},c.d⟩) 109:=(((ac.o.set 6 _).set 7 _).set 8 _);have D4:Qc (fun k=>k=W.heap.size) W2 (((W3.setCell ⟨W.heap.size,6,none⟩ (ZU s.share.f)).setCell ⟨W.heap.size,7,none⟩ (ZU s.share.l)).setCell ⟨W.heap.size,8,none⟩ (ZU s.share.r)):=((((D3.o).setCell _ (.inl rfl)).setCell _ (.inl rfl)).setCell _ (.inl rfl));refine⟨D4,?_⟩;generalize(((W3.setCell ⟨W.heap.size,6,none⟩ (ZU s.share.f)).setCell ⟨W.heap.size,7,none⟩ (ZU s.share.l)).setCell ⟨W.heap.size,8,none⟩ (ZU s.share.r))=W4 at B4 D4⊢;have ae:=O B4;have D4:=O D4;clear B4 e0 I e2 e3 e4 e5 e6 e7 e8 e9 d q u z B f6 f7 f8;iterate 2 (refine Xe (h:=?_))
  obtain⟨e0,I,e2,e3,e4,e5,e6,e7,e8,e9,d,q,u,z,B⟩:=Dm ae.o;have f9:=ae.o.frozen 9;have a8:=ae.o.frozen 10;have a9:=ae.o.frozen 11;refine Km ?_;go_wp2_with fail;have B5:Qh (((W4.setCell ⟨W.heap.size,9,none⟩ (ZU s.aN.f)).setCell ⟨W.heap.size,10,none⟩ (ZU s.aN.l)).setCell ⟨W.heap.size,11,none⟩ (ZU s.aN.r)) W.heap.size (P0 ⟨c.sp.aK s,c.d⟩) 109:=(((ae.o.set 9 _).set 10 _).set 11 _);have D5:Qc (fun k=>k=W.heap.size) W2 (((W4.setCell ⟨W.heap.size,9,none⟩ (ZU s.aN.f)).setCell ⟨W.heap.size,10,none⟩ (ZU s.aN.l)).setCell ⟨W.heap.size,11,none⟩ (ZU s.aN.r)):=((((D4.o).setCell _ (.inl rfl)).setCell _ (.inl rfl)).setCell _ (.inl rfl));generalize(((W4.setCell ⟨W.heap.size,9,none⟩ (ZU s.aN.f)).setCell ⟨W.heap.size,10,none⟩ (ZU s.aN.l)).setCell ⟨W.heap.size,11,none⟩ (ZU s.aN.r))=W5 at B5 D5⊢;have an:=O B5;have D5:=O D5;clear B5 e0 I e2 e3 e4 e5 e6 e7 e8 e9 d q u z B f9 a8 a9;refine Ky ?_;obtain⟨r,hr⟩:=Zx (c.sp.aK s);have HR:=O hr;have a2:=O (am.o.trans D5.o fun k e=>.inr (by have:=C0.o.size;omega));rw[←hr]at an aj EE;clear hr;obtain⟨e0,I,e2,e3,e4,e5,e6,e7,e8,e9,d,q,u,z,B⟩:=Dm an.o;dsimp only at e0 I e2 e3 e4 e5 e6 e7 e8 e9 d q u z B;go_wp2_with fail;refine Zz (aj.o _) ?_;intro w6 c6;have aa:=O (a2.o.aA c6);have a3:=O (c6.blk an.o (fun h=>h));have S6:=O (c6.blk (D5.o.blk S2.o NE.o) (fun h=>h));clear c6 e0 I e2 e3 e4 e5 e6 e7 e8 e9 d q u z B;by_cases hm:r.mayE=0
  ·have E:=O (show h.aG s=0 by rw[EE.o,if_neg (by omega)]);have hd:decide (r.mayE=0)=true:=by simpa using hm
   have ao:(r.mayE==0)=true:=by simpa using hm
   rw[hm]at hd ao⊢;clear hm hd ao;go_wp2_with fail;have ap:=O (show Qh w6.drew W.heap.size (P0 ⟨c.sp.aK s,c.d⟩) 109 by rw[←HR.o];exact a3.o.drew);obtain⟨e0,I,e2,e3,e4,e5,e6,e7,e8,e9,d,q,u,z,B⟩:=Dm ap.o;dsimp only[Yk.aK]at e0 I e2 e3 e4 e5 e6 e7 e8 e9 d q u z B;obtain⟨g0,_⟩:=(show Xx w6.drew w.heap.size s from Xx.aB S6.o (Zg Qb w6).drew).cells;obtain⟨z0,z1⟩:=Q4 ((aa.o.blk ag.o (fun h=>h)).drew);have lk:=a6.o w6.drew aa.o.drew;unfold P0 at lk;refine ZB [0,1,2,3,4,5,6,7,8] ?_;simp only[Z8,Zf,Ze,Zd];iterate 9 (refine Jq (h:=?_))
   clear e0 I e2 e3 e4 e5 e6 e7 e8 e9 d q u z B g0 z0 z1 lk;refine Jo ?_;simp only[Act.put,Za,Zc,Zb];cases bf:Qr5 (s.real.f:Int) (s.real.l:Int) (s.real.r:Int) (s.share.f:Int) (s.share.l:Int) (s.share.r:Int) (s.aN.f:Int) (s.aN.l:Int) (s.aN.r:Int) (c.sp.real.f:Int) (c.sp.real.l:Int) (c.sp.real.r:Int) (c.sp.share.f:Int) (c.sp.share.l:Int) (c.sp.share.r:Int) (c.sp.aN.f:Int) (c.sp.aN.l:Int) (c.sp.aN.r:Int)with
   |false=>
    have SM:=O (a4.o (by
     obtain⟨q1,q2,q3,q4,q5,q6,q7,q8,q9⟩:=Qlb bf;unfold Qfo Qc0;simp only[Zw,beq_iff_eq];exact⟨⟨q1.symm,q2.symm,q3.symm⟩,⟨q4.symm,q5.symm,q6.symm⟩,q7.symm,q8.symm,q9.symm⟩))
    have U:=O (ar.o w6.drew aa.o.drew SM.o);go_wp2_with fail;go_ret;exact⟨by rw[E.o];rfl,U.o⟩
   |true=>
    obtain⟨w8,r8,al,ak⟩:=au.o E.o w6.drew.drew aa.o.drew.drew;have U:=O (Zt al ak);unfold P0 at r8;dsimp only[Yk.aK]at r8;clear al ak;go_wp2_with fail;obtain⟨e0,I,e2,e3,e4,e5,e6,e7,e8,e9,d,q,u,z,B⟩:=Dm ap.o.drew;dsimp only[Yk.aK]at e0 I e2 e3 e4 e5 e6 e7 e8 e9 d q u z B;obtain⟨g0,_⟩:=(show Xx w6.drew.drew w.heap.size s from Xx.aB S6.o (Zg Qb w6).drew.drew).cells;obtain⟨z0,z1⟩:=Q4 ((aa.o.blk ag.o (fun h=>h)).drew.drew);refine ZB [0,1,2,3,4,5,6,207] ?_;simp only[Z8,Zf,Ze,Zd];iterate 7 (refine Jq (h:=?_))
    clear e0 I e2 e3 e4 e5 e6 e7 e8 e9 d q u z B g0 z0 z1;refine J7 ?_;go_wp2_with fail;refine Jo ?_;clear r8;go_wp2;go_ret;exact⟨by rw[E.o];rfl,U.o⟩
  ·have E:=O (show h.aG s=130 by rw[EE.o,if_pos hm]);have hd:decide (r.mayE=0)=false:=by simpa using hm
   have ao:(r.mayE==0)=false:=by simpa using hm
   have U:=O (NO.o w6 aa.o (by rw[E.o];decide));clear hm;go_wp2_with fail;go_ret;exact⟨by rw[E.o];rfl,U.o⟩
end
end
section
variable{A:Tb}{w w1 w2:World}{F:Fp}{b a:Nat}{s:Qf}{N:Nat}{l:Qw}
theorem Yj.owe(h:Yj w F a l):∃B J,Qh w a #[ptr B,J] 107∧∀w1 w2 q o,Qc Qb w w1→Kv w1 (Qn Qb w w1) q o→Qh w2 a #[ptr B,q] 107→Qc (fun k=>k=a) w1 w2→Yj w2 (Qn F w w2) a {l with debt:=o}∧Qc F w w2:=by
 obtain⟨B,J,h⟩:=h;obtain⟨z,G0,R0,K,⟨ab,E,R1,g1,_,d1,s2,s3⟩,d0,s0,s1⟩:=h;have n1:¬E a:=fun c=>d0 a K.2.1 (s2 _ c);have V:∀k,E k→F k:=fun k c=>s1 _ (s2 _ c);have R:F a:=s0 _ K.2.1;have I:Bd E w:=z.sub V;refine⟨B,J,K.1,fun w1 w2 q o u hd Z d=>?_⟩;have U:Qc F w w2:=(u.none (F:=F)).aA (d.sub fun k e=>e▸R);have ac:=u.size;have ae:=d.size;have aa:=z _ R;refine⟨⟨B,q,?_⟩,U⟩;refine Q7 (G:=fun k=>k=a) (H:=fun k=>E k∨Qn Qb w w1 k) ⟨Z,rfl,fun k e=>e▸Z.lt⟩ ?_ ?_ (fun k e=>.inl (e▸R)) ?_ (z.ext U)
 ·refine Q7 (G:=E) (H:=Qn Qb w w1) ((Lm B l.pk l.bt l.q).aB ((Lm B l.pk l.bt l.q).aB g1 u (Jl.none _)) d (fun k c e=>n1 (e▸c))) (Y6 ((Kv.good q o).aB hd d (fun k c e=>by have:=(Qr k).1 c;omega)) (fun k c=>by have:=(Qr k).1 c;omega)) ?_ (fun k c=>.inl c) (fun k c=>.inr c) ?_;·intro k c he;have:=I k c;have:=(Qr k).1 he;omega
  ·exact fun k c=>c.elim (I.later u |>.later d k) (fun c=>by have:=(Qr k).1 c;omega)
 ·rintro k rfl(c|c);·exact n1 c
  ·have:=(Qr k).1 c;omega
 ·exact fun k c=>c.elim (fun c=>.inl (V k c)) (fun c=>.inr (by have:=(Qr k).1 c;omega))
theorem Qfr(u:(s.aI.map Qw.id).Nodup){i:Int}{l:Qw}(q:s.leaf i=some l)(o:Option Ju):
  s.aR {l with debt:=o}={s with aI:=s.aI.map fun x=>if x.id=i then{x with debt:=o}else x}:=by
 have d:Hn Qw.id i s.aI=some l:=q;obtain⟨B,k⟩:=Y3 d;unfold Qf.aR;congr 1;refine List.map_congr_left fun x z=>?_;dsimp only;rw[k];by_cases c:x.id=i;·rw[if_pos c,if_pos c];rw[Zs ((Ls u z c).symm.trans d),k]
 ·rw[if_neg c,if_neg c]
theorem Qh7{i:Int}(c:s.leaf i=none)(o:Option Ju):(s.aI.map fun x=>if x.id=i then{x with debt:=o}else x)=s.aI:=by
 unfold Qf.leaf at c;rw[List.find?_eq_none]at c
 conv=>rhs;rw[←List.map_id s.aI]
 refine List.map_congr_left fun x d=>?_;have:=c x d;rw[if_neg (by simpa using this)];rfl
end
def Tb.put(A:Tb)(i:Int)(q:Nat):Tb:={A with ad:=fun j=>if j=i then q else A.ad j}
section
variable{A:Tb}{w w1 w2:World}{F:Fp}{b:Nat}{s:Qf}{N:Nat}
theorem Qi.newLeaf(h:Qi A w F b s){l:Qw}{q:Nat}(hn:s.leaf l.id=none)(c:Qc Qb w w1)(hl:Yj w1 (Qn Qb w w1) q l):
  ∃w2,(Instr.mapUpdate 93 (.map (some A.m)) (ZI l.id) (ptr q)).run prog w1=.ok () w2∧Qi (A.put l.id q) w2 (Qn F w w2) b {s with aI:=s.aI++[l]}∧Qc F w w2:=by
 have R:=(Qi.obj A).bd h;obtain⟨L,Z,hs⟩:=h;obtain⟨G,z,V,_,B⟩:=Xv 2 (Ua A b L s) rfl hs;obtain⟨w2,E,U,d⟩:=X6 (P:=prog) (z.map.aB c (fun h=>h)) underlying93 underlying3 l.id (ptr q);have J:=z.aB Yj.obj c (Jl.none G);have K:=J.put Yj.obj hl (fun k a b'=>by
  have h1:=((Qr k).1 a).1;have:=R k (V k b');omega) (by rw[←So Z z.nodup];exact hn) U d
 have I:Qc G w w2:=(c.none (F:=G)).aA (d.sub fun k u=>u▸z.at_);have h5:=B w2 (fun w G=>Yn Qw.id Yj w G A.m (A.put l.id q).ad (L++[l])) I
  (K.more (fun k u=>u.elim .inl (fun u=>.inr ⟨((Qr k).1 u).1,Nat.lt_of_lt_of_le ((Qr k).1 u).2 d.size⟩)) (z.bd.ext I))
 exact⟨w2,E,⟨L++[l],Z.append_right _,h5⟩,I.sub V⟩
theorem Yj.made{q d r:Nat}{u:Value}{l:Qw}{w3 w4}(J:Qc Qb w w1)(R:Jz w2 d r l.pk l.bt l.q)(h1:w1.heap.size≤d∧d<w2.heap.size)(h2:w1.heap.size≤r∧r<w2.heap.size)(E:Qc Qb w2 w3)(K:Kv w3 (Qn Qb w2 w3) u l.debt)
  (B:Qc Qb w3 w4) (I:Qh w4 q #[ptr d,u] 107) (U:w3.heap.size≤q):Yj w4 (Qn Qb w w4) q l:=by
 have s1:=J.size;have s3:=E.size;have s4:=B.size;have Z:=I.lt;have V:Jz w4 d r l.pk l.bt l.q:=(R.aB E (fun h=>h) (fun h=>h)).aB B (fun h=>h) (fun h=>h);have z:Bd (Qn Qb w w4) w4:=fun k c=>((Qr k).1 c).2;refine⟨d,u,?_⟩;refine Q7 (G:=fun k=>k=q) (H:=fun k=>(k=d∨k=r)∨Qn Qb w2 w3 k) ⟨I,rfl,fun k e=>e▸Z⟩ ?_ ?_ (fun k e=>(Qr k).2 (by omega)) ?_ z
 ·refine Q7 (G:=fun k=>k=d∨k=r) (H:=Qn Qb w2 w3) ⟨r,V,.inl rfl,.inr rfl,fun k e=>by rcases e with e|e<;>omega⟩ (Y6 ((Kv.good u l.debt).aB K B (Jl.none _)) (fun k c=>by have:=(Qr k).1 c;omega)) ?_ (fun k c=>.inl c) (fun k c=>.inr c) ?_;·intro k e c;have:=(Qr k).1 c;rcases e with e|e<;>omega
  ·intro k c;rcases c with(e|e)|c;·omega
   ·omega
   ·have:=(Qr k).1 c;omega
 ·rintro k rfl((e|e)|c);·omega
  ·omega
  ·have:=(Qr k).1 c;omega
 ·intro k c;rcases c with(e|e)|c;·exact(Qr k).2 (by omega)
  ·exact(Qr k).2 (by omega)
  ·have:=(Qr k).1 c;exact(Qr k).2 (by omega)
end
section
variable{A:Tb}{w w1 w2:World}{F:Fp}{b:Nat}{s:Qf}{N:Nat}
theorem Kv.ptr{w}{F:Fp}{v:Value}{o:Option Ju}(h:Kv w F v o):∃c,v=.pointer c:=by
 cases o with
 |none=>exact⟨none,h.1⟩
 |some d=>obtain⟨b,rfl,_⟩:=h;exact⟨_,rfl⟩
theorem Cy(h:Qt w F b s)(ok:Xp N s)(c:Yk):
  ZW 59 #[ptr b,Fb c] w (ZI (s.aO c)) fun w'=>Qt w' (Qn F w w') b (s.add c)∧Qc F w w':=by
 obtain⟨A,h⟩:=h;have U:=(Qi.obj A).bd h;obtain⟨W,hW⟩:=Zx (w.alloc (.cells (Z4 c.leaf c) 29));have S0:Hi (Xx W w.heap.size c):=O (by rw[hW];exact Xx.new w c);have C0:Hi (Qc Qb w W):=O (by rw[hW];exact(Zg _ _).alloc _);have hP:=(Qi.obj A).aB h C0.o (Jl.none F);have HN:=O (Ku hP ok.most.1);have NF:Hi (¬F w.heap.size):=O (fun hk=>by have:=U _ hk;omega);obtain⟨a0,a1,a2,a3,a4⟩:=Ym hP.drew.blk;obtain⟨g0,g1,g2,g3,g4,g5,g6,g7,g8,g9,K,R,d,k⟩:=(show Xx W.drew w.heap.size c from S0.o.aB (Zg Qb W).drew).cells;have B:Bd F W:=U.later C0.o;have aa:Hi (∀w' t,Qt w' (Qn F W w') b t→Qc F W w'→Qt w' (Qn F w w') b t∧Qc F w w'):=O (fun w' t h1 h2=>by
  have cc:Qc F w w':=C0.o.none.aA h2;exact⟨Qt.obj.more h1 (Ke C0.o.size) (U.ext cc),cc⟩)
 have az:Hi (w.heap.size<W.heap.size):=O (Qh.lt S0.o);have HT:Hi (ZW 102 #[ptr A.tb,Fb c] W.drew (ZI (s.aO c)) fun w'=>Qi A w' (Qn F W w') b {s with tree:=s.tree.add c}∧Qc F W w'):=O (by
  obtain⟨G,hT,_,ab⟩:=hP.drew.treeOf;refine Zz (Qor hT ok.tree c) ?_;rintro w2⟨ba,c2⟩;obtain⟨m1,m2⟩:=ab w2 _ ba c2;exact⟨rfl,m1,m2.aT⟩)
 by_cases Z:s.aO c=0
 ·have ac:s.tree.aO c=0:=Z;obtain⟨q,hq,au,bc,av,i1,_⟩:=ok.mt.add ok.tree ac;have af:=(Ub ac).1;have E:=ok.leaf_none (Ub ac).2.2.1;have aq:=(Md af).1;have ay:Hi (∀w2,Qi A w2 (Qn F W w2) b {s with tree:=s.tree.add c}→Qc F W w2→ZW 103 #[ptr A.pb,Fb c] w2.drew (.bool true) fun w'=>Qi A w' (Qn F W w') b {s with tree:=s.tree.add c,pick:=s.pick.put c}∧Qc F W w'∧Qc (Qn F W w2) w2 w'):=O (by
   intro w2 h2 c2;obtain⟨G,⟨AP,a9⟩,_,ab⟩:=h2.drew.pickOf;refine Zz (Qpl a9 c i1 av hq au (by omega)) ?_;rintro w3⟨a8,c3⟩;obtain⟨m1,m2⟩:=ab w3 _ a8 c3;obtain⟨n1,n2⟩:=(Qi.obj A).two (w1:=w2) m1 B c2 m2.aT;exact⟨rfl,n1,n2,m2.aT⟩)
  have aw:Hi (c.leaf=false→s.add c={s with tree:=s.tree.add c,pick:=s.pick.put c}):=O (fun hl=>by unfold Qf.add;rw[if_pos Z,hl];rfl);have ag:Hi (c.leaf=true→s.add c={s with tree:=s.tree.add c,pick:=s.pick.put c,aI:=s.aI++[⟨c.id,c.pk.toNat,c.bt.toNat,[],Xl c.real⟩]}):=O (fun hl=>by unfold Qf.add;rw[if_pos Z,hl];rfl);have aj:Hi (c.leaf=true→∃I z:Nat,c.pk=(I:Int)∧c.bt=(z:Int)∧1≤I∧I≤4096∧1≤z∧z≤16777216):=O (fun hl=>by
   obtain⟨k1,k2,k3,k4⟩:=Qam af hl;exact⟨c.pk.toNat,c.bt.toNat,by omega,by omega,by omega,by omega,by omega,by omega⟩)
  have a5:Hi (∀w3 w4 V I z pv,Qi A w3 (Qn F W w3) b {s with tree:=s.tree.add c,pick:=s.pick.put c}→Qc F W w3→Jz w4 (w3.heap.size+1) w3.heap.size I z []→Qc Qb w3 w4→Kv V (Qn Qb w4 V) (.pointer pv) (Xl c.real)→Qc Qb w4 V→w3.heap.size+1<w4.heap.size→
    ∃w6,(Instr.mapUpdate 93 (.map (some A.m)) (ZI c.id) (ZP V.heap.size)).run prog (V.alloc (.cells #[ptr (w3.heap.size+1),.pointer pv] 107))=.ok () w6∧
     Qt w6 (Qn F W w6) b {s with tree:=s.tree.add c,pick:=s.pick.put c,aI:=s.aI++[⟨c.id,I,z,[],Xl c.real⟩]}∧Qc F W w6):=O (by
   intro w3 w4 V I z pv h3 c3 hQ a6 hD am Xg;have an:Qc Qb V (V.alloc (.cells #[ptr (w3.heap.size+1),.pointer pv] 107)):=(Zg _ _).alloc _;have a7:Qh (V.alloc (.cells #[ptr (w3.heap.size+1),.pointer pv] 107)) V.heap.size #[ptr (w3.heap.size+1),.pointer pv] 107:=Qh.new _ _ _;generalize V.alloc (.cells #[ptr (w3.heap.size+1),.pointer pv] 107)=bi at*;have hL:=Yj.made (w:=w3) (w1:=w3) (l:=⟨c.id,I,z,[],Xl c.real⟩) (Zg _ _) hQ ⟨by omega,Xg⟩ ⟨by omega,by omega⟩ am hD an a7 (Zv _);obtain⟨w6,r6,h6,c6⟩:=h3.newLeaf (l:=⟨c.id,I,z,[],Xl c.real⟩) E ((a6.aA am).aA an) hL;obtain⟨n1,n2⟩:=(Qi.obj _).two h6 B c3 c6;exact⟨w6,r6,⟨_,n1⟩,n2⟩)
  have ax:=O (fun w=>Qgx c.real aq w);rw[Z]at HT;have bh:=O U;have E0:=O Z;rw[Z];unfold Fb ptr cV at*;clear h ok hP ac hq au bc av i1 af E aq U B Z;go_enter func59,ntmps59;go_wp2_with fail;rw[←hW];clear hW;refine Zy HN ?_;rintro w1 rfl;go_wp2_with fail;refine ZB [0,1,2,3,4,205,206] ?_;simp only[Z8,Zf,Ze,Zd];iterate 5 (refine Jq (h:=?_))
  clear a0 a1 a2 a3 a4 g0 g1 g2 g3 g4 g5 g6 g7 g8 g9 K R d k;refine J7 ?_;go_wp2_with fail;refine Zy HT ?_;rintro w2⟨h2,c2⟩;have H2:=O h2;have C2:=O c2;have S2:Hi (Xx w2 w.heap.size c):=O (c2.blk S0.o NF.o);clear h2 c2;go_wp2_with fail;refine J7 ?_;go_wp2_with fail;refine Jo ?_;go_wp2_with fail;obtain⟨a0,a1,a2,a3,a4⟩:=Ym H2.o.drew.blk;obtain⟨g0,g1,g2,g3,g4,g5,g6,g7,g8,g9,K,R,d,k⟩:=(show Xx w2.drew w.heap.size c from S2.o.aB (Zg Qb w2).drew).cells;refine ZB [0,1,2,3,4,205] ?_;simp only[Z8,Zf,Ze,Zd];iterate 5 (refine Jq (h:=?_))
  clear a0 a1 a2 a3 a4 g0 g1 g2 g3 g4 g5 g6 g7 g8 g9 K R d k;refine J7 ?_;go_wp2_with fail;refine Zz (ay.o w2 H2.o C2.o) ?_;rintro w3⟨h3,c3,al⟩;have H3:=O h3;have C3:=O c3;have S3:Hi (Xx w3 w.heap.size c):=O (al.blk S2.o (fun hk=>hk.elim NF.o (fun hk=>by
   have h1:=az.o;omega)))
  clear h3 c3 al;go_wp2_with fail;refine Jo ?_;have l2:=(show Xx w3 w.heap.size c from S3.o).cells.2.2.1;cases u:c.leaf with
  |false=> have J:Hi (Qt w3 (Qn F w w3) b (s.add c)∧Qc F w w3):=O (aa.o w3 _ (by rw[aw.o u];exact⟨A,H3.o⟩) C3.o);rw[u]at l2;clear u;go_wp2_with fail;go_ret;exact⟨rfl,J.o⟩
  |true=>
   obtain⟨I,z,ar,ap,p1,p2,p3,p4⟩:=aj.o u;have EQ:=O (ag.o u);have HQ:=O (fun w=>Qt7 I z w p1 p2 p3 p4);rw[u]at l2;have ak:Hi (c.pk.toNat=I∧c.bt.toNat=z):=O (⟨by omega,by omega⟩);have ah:=O (Zt ar ap);clear u p1 p2 p3 p4 ar ap;go_wp2_with fail;clear l2;obtain⟨a0,a1,a2,a3,a4⟩:=Ym H3.o.drew.blk;obtain⟨g0,g1,g2,g3,g4,g5,g6,g7,g8,g9,K,R,d,k⟩:=(show Xx w3.drew w.heap.size c from S3.o.aB (Zg Qb w3).drew).cells;rw[ah.o.1]at d;rw[ah.o.2]at k;refine ZC [100,101,102,103,104,105,6,7,8,9,111,112,210,213,14,215,316] (fun wv=>Qc (Qb) (w3) wv) ?_;simp only[Z8,Zf,Ze,Zd];iterate 3 (refine Qy (h:=?_);try simp only[Act.put,Za,Zc,Zb])
   iterate 1 (refine Qy (by kernel_rfl) (fun wv hv=>by(obtain⟨z0,z1,z2,z3,z4⟩:=Ym (hv.blk H3.o.blk (fun h=>h)));go_simp;try rfl) ?_;try simp only[Act.put,Za,Zc,Zb])
   (refine Qy (h:=?_);try simp only[Act.put,Za,Zc,Zb]);iterate 1 (refine Qy (by kernel_rfl) (fun wv hv=>by(obtain⟨z0,z1,z2,z3,z4,z5,z6,z7,z8,z9,bd,be,bf,bg⟩:=(show Xx wv w.heap.size c from hv.blk S3.o (fun h=>h)).cells);go_simp;try rfl) ?_;try simp only[Act.put,Za,Zc,Zb])
   iterate 4 (refine Xe (h:=?_))
   (refine Qy (h:=?_);try simp only[Act.put,Za,Zc,Zb]);iterate 1 (refine Qy (by kernel_rfl) (fun wv hv=>by(obtain⟨z0,z1,z2,z3,z4,z5,z6,z7,z8,z9,bd,be,bf,bg⟩:=(show Xx wv w.heap.size c from hv.blk S3.o (fun h=>h)).cells);go_simp;try rfl) ?_;try simp only[Act.put,Za,Zc,Zb])
   clear a0 a1 a2 a3 a4 g0 g1 g2 g3 g4 g5 g6 g7 g8 g9 K R d k;refine Yb ?_;go_wp2_with fail;refine Zz (HQ.o _) ?_;rintro w4⟨ao,c4⟩;have C4:=O c4.aT;have ai:Hi (Jz w4 (w3.heap.size+1) w3.heap.size I z []):=O (ao);clear ao c4;go_wp2_with fail;refine⟨C4.o,?_⟩;refine Yb ?_;go_wp2_with fail;refine(ax.o _).mono ?_;rintro e V⟨dv,rfl,ae,c5⟩;obtain⟨pv,rfl⟩:=ae.ptr;have C5:=O (C4.o.aA c5);obtain⟨w6,r6,h6,c6⟩:=a5.o w3 w4 V I z pv H3.o C3.o ai.o C4.o ae c5 ai.o.lt.1;have J:=O (aa.o w6 _ h6 c6);clear ae c5 h6 c6;go_wp2_with fail;refine⟨C5.o,?_⟩;refine Xe (h:=?_);refine Yb ?_;go_wp2_with fail;refine⟨C5.o.alloc _,?_⟩;refine Km ?_;go_wp2_with fail;refine Ky ?_;clear r6;go_wp2;go_ret;refine⟨rfl,?_,J.o.2⟩;rw[EQ.o,ak.o.1,ak.o.2];exact J.o.1
 ·have e1:s.tree.add c=s.tree:=Qgd Z;have e2:s.add c=s:=Qem Z;have hd:decide (s.aO c=0)=false:=by simpa using Z
  have bb:(s.aO c==0)=false:=by simpa using Z
  rw[e2];rw[e1]at HT;generalize s.aO c=er at HT hd bb⊢;unfold Fb ptr at*;clear h ok hP e1 e2 Z U B;go_enter func59,ntmps59;go_wp2_with fail;rw[←hW];clear hW;refine Zy HN ?_;rintro w1 rfl;go_wp2_with fail;refine ZB [0,1,2,3,4,205,206] ?_;simp only[Z8,Zf,Ze,Zd];iterate 5 (refine Jq (h:=?_))
  clear a0 a1 a2 a3 a4 g0 g1 g2 g3 g4 g5 g6 g7 g8 g9 K R d k;refine J7 ?_;go_wp2_with fail;refine Zy HT ?_;rintro w2⟨h2,c2⟩;have J:=O (aa.o w2 s ⟨A,h2⟩ c2);clear h2 c2;go_wp2_with fail;refine J7 ?_;go_wp2_with fail;refine Jo ?_;go_wp2;go_ret;exact⟨rfl,J.o⟩
end
section
variable{A:Tb}{w w1 w2:World}{F:Fp}{b a:Nat}{s:Qf}{N:Nat}{l:Qw}
theorem Qfp(h:Qt w F b s)(ok:Xp N s)(c:Yk):
  ZW 66 #[ptr b,Fb c] w (ZI (s.aG c)) fun w'=>Qt w' (Qn F w w') b (s.change c)∧Qc F w w':=by
 obtain⟨A,h⟩:=h;have ah:=(Qi.obj A).bd h;obtain⟨W,hW⟩:=Zx (w.alloc (.cells (Z4 c.leaf c) 29));have S0:Hi (Xx W w.heap.size c):=O (by rw[hW];exact Xx.new w c);have C0:Hi (Qc Qb w W):=O (by rw[hW];exact(Zg _ _).alloc _);have hP:=(Qi.obj A).aB h C0.o (Jl.none F);have HN:=O (Ku hP ok.most.1);have NF:Hi (¬F w.heap.size):=O (fun hk=>by have:=ah _ hk;omega);have ae:Bd F W:=ah.later C0.o;have a5:Hi (w.heap.size<W.heap.size):=O (Qh.lt S0.o);have ab:=O (fun w'(c:Qc Qb W w')=>(Qi.obj A).aB hP c (Jl.none F));have J:Hi (∀w' t,Qt w' (Qn F W w') b t→Qc F W w'→Qt w' (Qn F w w') b t∧Qc F w w'):=O (fun w' t h1 h2=>by
  have cc:Qc F w w':=C0.o.none.aA h2;exact⟨Qt.obj.more h1 (Ke C0.o.size) (ah.ext cc),cc⟩)
 have ai:Hi (∀w',Qc Qb W w'→s.change c=s→Qt w' (Qn F w w') b (s.change c)∧Qc F w w'):=O (fun w' cc e=>by
  rw[e];obtain⟨p1,p2⟩:=Qt.obj.same ⟨A,hP⟩ cc;exact J.o w' _ p1 p2)
 have HG:Hi (∀w',Qc Qb W w'→ZW 23 #[ptr A.tb,ZI c.id] w' (.tuple #[.agg (Es (s.tree.get c.id).sp),.bool (s.tree.at c.id).isSome]) fun af=>Qc Qb w' af):=O (fun w' cc=>by
  obtain⟨G,hT,_⟩:=(ab.o w' cc).treeOf;exact Ob hT c.id)
 have ax:Hi (∀w',Qc Qb W w'→ZW 119 #[ptr A.tb,Fb c] w' (ZI (s.tree.aG c)) fun af=>Qi A af (Qn F W af) b {s with tree:=s.tree.change c}∧Qc F W af):=O (fun w' cc=>by
  obtain⟨G,hT,_,z⟩:=(ab.o w' cc).treeOf;refine Zz (Qe1 hT ok.tree c) ?_;rintro w2⟨ba,c2⟩;obtain⟨m1,m2⟩:=z w2 _ ba c2;have m3:Qc F W w2:=cc.none.aA m2;exact⟨rfl,(Qi.obj A).more m1 (Ke cc.size) (ae.ext m3),m3⟩)
 have ak:Hi (s.aG c=0→(∀w2,Qi A w2 (Qn F W w2) b {s with tree:=s.tree.change c}→Qc F W w2→ZW 120 #[ptr A.pb,Fb c] w2.drew (.bool true) fun w3=>Qi A w3 (Qn F W w3) b {s with tree:=s.tree.change c,pick:=s.pick.aK c}∧Qc F W w3∧Qc (Qn F W w2) w2 w3)∧
   (∀w3,Cl 105 #[cV c.real] w3 fun e I=>∃pv,e=.returned (.pointer pv)∧Kv I (Qn Qb w3 I) (.pointer pv) (Xl c.real)∧Qc Qb w3 I)∧
   (s.leaf c.id=none→s.change c={s with tree:=s.tree.change c,pick:=s.pick.aK c})∧
   (∀l w3,s.leaf c.id=some l→Qi A w3 (Qn F W w3) b {s with tree:=s.tree.change c,pick:=s.pick.aK c}→Qc F W w3→∃qb dv,Qh w3 (A.ad c.id) #[ptr qb,dv] 107∧
    ∀I w5 u ac,Qc Qb w3 I→Qc Qb I w5→Kv w5 (Qn Qb I w5) ac (Xl c.real)→Qh u (A.ad c.id) #[ptr qb,ac] 107→Qc (fun k=>k=A.ad c.id) w5 u→Qt u (Qn F W u) b (s.change c)∧Qc F W u)):=O (fun B=>by
  obtain⟨hm,aq⟩:=L8 B;have ha:=ok.asleep hm;obtain⟨x,q,hx,i1,hq,mt,dd⟩:=ok.mt.aK ok.tree ok.pick aq ha;obtain⟨c1,be,aw⟩:=Gb aq;have bb:=(Md aw).1;have E:s.change c={s with tree:=s.tree.change c,pick:=s.pick.aK c,aI:=s.aI.map fun l=>if l.id=c.id then{l with debt:=Xl c.real}else l}:=by unfold Qf.change;rw[if_pos B]
  refine⟨fun w2 h2 c2=>?_,fun w3=>?_,fun hl=>?_,fun l w3 hl h3 c3=>?_⟩;·obtain⟨G,⟨AP,a9⟩,_,z⟩:=h2.drew.pickOf;refine Zz (Qii a9 ok.pick c i1 hx ha hq) ?_;rintro w3⟨a8,c3⟩;obtain⟨m1,m2⟩:=z w3 _ a8 c3;obtain⟨n1,n2⟩:=(Qi.obj A).two (w1:=w2) m1 ae c2 m2.aT;exact⟨rfl,n1,n2,m2.aT⟩
  ·refine(Qgx c.real bb w3).mono ?_;rintro e I⟨v,rfl,hD,c4⟩;obtain⟨pv,rfl⟩:=Kv.ptr (w:=I) (F:=Qn Qb w3 I) (o:=Xl c.real) hD;exact⟨pv,rfl,hD,c4⟩
  ·rw[E,Qh7 hl]
  ·obtain⟨G,hL,hG,z⟩:=h3.leafOf (i:=c.id) (l:=l) hl;obtain⟨qb,dv,hB,k⟩:=hL.owe;refine⟨qb,dv,hB,fun I w5 u ac ap a6 hD a7 ag=>?_⟩;obtain⟨p1,p2⟩:=k w5 u ac (Xl c.real) (ap.aA a6) ((Kv.good ac _).more hD (Ke ap.size) (fun k hk=>((Qr k).1 hk).2)) a7 ag;obtain⟨q1,q2⟩:=z u {l with debt:=Xl c.real} (Y3 (show Hn Qw.id c.id s.aI=some l from hl)).2 p1 p2;obtain⟨r1,r2⟩:=(Qi.obj A).two q1 ae c3 q2;refine⟨?_,r2⟩;rw[E];have e:=Qfr (s:={s with tree:=s.tree.change c,pick:=s.pick.aK c}) hP.nodup (i:=c.id) (l:=l) hl (Xl c.real);rw[e]at r1;exact⟨A,r1⟩)
 have bd:=O (fun w' t(h':Qi A w' (Qn F W w') b t)=>h'.drew.look1 c.id);have aa:=O (fun w'(cc:Qc Qb W w')=>Qbl (ab.o w' cc) ok c.id);have HA:=O hP.blk;have HE:Hi (s.aG c=if(s.tree.at c.id).isNone then 81 else if 0<s.many c.id then 230 else s.tree.aG c):=O (rfl);have NO:=O (fun(B:s.aG c≠0)=>Sj B);obtain⟨is,am⟩:=Zx ((s.tree.at c.id).isSome);rw[←am]at HG;have ao:=O am;clear am;obtain⟨gs,au⟩:=Zx ((s.tree.get c.id).sp);rw[←au]at HG;clear au;unfold Fb ptr at*;clear h ah;go_enter func66,ntmps66;go_wp2_with fail;rw[←hW];clear hW;refine Zy HN ?_;rintro w1 rfl;go_wp2_with fail;go_cut [5,6] (fun s5 s6 wz=>s6=.bool is∧Qc Qb W wz)
 case first=>
  refine Ui (.lookp 0 (.lookp 1 (.lookp 2 (.lookp 3 (.lookp 4 (.lookp 5 (.fork 6 (.lookp 7 (.lookp 8 (.lookp 9 (.walk 10 (.walk 11 (.walk 12 .nil)))))) 10 (.walk 6 (.look 7 (.look 8 (.lookp 9 (.walk 11 (.walk 12 .nil))))))))))))) (fun wv=>Qc (Qb) (W) wv) Zq (by kernel_rfl) (fun _ _ _ _ _ h=>h) Z0 ?_;simp only[O0,Zf,Ze,Zd];iterate 3 (first|refine Vd (h:=?_)|refine Xi (h:=?_);try simp only[Act.put,Za,Zc,Zb])
  iterate 1 (refine Xi (by kernel_rfl) (fun wv hv=>by(obtain⟨z0,z1,z2,z3,z4⟩:=Ym (hv.blk HA.o (fun h=>h)));go_simp;try rfl) ?_;try simp only[Act.put,Za,Zc,Zb])
  iterate 1 (first|refine Vd (h:=?_)|refine Xi (h:=?_);try simp only[Act.put,Za,Zc,Zb])
  iterate 1 (refine Xi (by kernel_rfl) (fun wv hv=>by(obtain⟨z0,_⟩:=(show Xx wv w.heap.size c from hv.blk S0.o (fun h=>h)).cells);go_simp;try rfl) ?_;try simp only[Act.put,Za,Zc,Zb])
  refine Gn ?_ ?_
  ·go_wp2_with fail;refine Zz (HG.o _ (Zg Qb W).drew) ?_;intro w2 c2;have C2:=O ((Zg Qb W).drew.aA c2);clear c2;go_wp2_with fail;refine⟨C2.o,?_⟩;iterate 3 (first|refine Vd (h:=?_)|refine Xi (h:=?_);try simp only[Act.put,Za,Zc,Zb])
   refine Xt ?_;go_wp2_with fail;refine⟨C2.o.alloc _,?_⟩;obtain⟨W3,s3,al,C3⟩:=Q0 (P:=prog) (vs:=Es gs) (Qh.new w2 Z5 29) rfl (Hl _);have D3:Hi (Qc Qb W W3):=O ((C2.o.alloc _).trans C3 (fun k e=>.inr (by have:=C2.o.size;omega)));clear al C3;refine Xt ?_;go_wp2_with fail;refine⟨D3.o,?_⟩;refine Xt ?_;go_wp2_with fail;refine⟨D3.o,?_⟩;refine U9 ?_;clear s3;go_wp2_with fail;go_meet;exact⟨rfl,D3.o⟩
  ·go_wp2_with fail;refine⟨((Zg Qb W).drew.alloc _),?_⟩;have CA:=O ((Zg Qb W).drew.alloc (.cells Z5 29));have BA:Hi (Qh (W.drew.alloc (.cells Z5 29)) W.heap.size Z5 29):=O (Qh.new W.drew _ _);refine Xt ?_;go_wp2_with fail;refine(HG.o _ CA.o).mono ?_;rintro e w2⟨rfl,c2⟩;obtain⟨W3,s3,al,C3⟩:=Q0 (P:=prog) (vs:=Es gs) (c2.blk BA.o (fun h=>h)) rfl (Hl _);have C2:=O (CA.o.aA c2);have D3:Hi (Qc Qb W W3):=O (C2.o.trans C3 (fun k e=>.inr (by omega)));clear al C3 c2;go_wp2_with fail;refine⟨C2.o,?_⟩;iterate 3 (first|refine Vd (h:=?_)|refine Xi (h:=?_);try simp only[Act.put,Za,Zc,Zb])
   refine Xt ?_;go_wp2_with fail;refine⟨D3.o,?_⟩;refine Xt ?_;go_wp2_with fail;refine⟨D3.o,?_⟩;refine U9 ?_;clear s3;go_wp2_with fail;go_meet;exact⟨rfl,D3.o⟩
 case rest=>
  obtain⟨rfl,cW⟩:=hcut;obtain⟨V,hV⟩:=Zx wc;rw[←hV]at cW⊢;clear hV;have CV:=O cW;clear cW;cases is with
  |false=>
   have E:=O (show s.aG c=81 by
    have h1:=ao.o;rw[HE.o,if_pos (by
     cases hc:s.tree.at c.id with
     |none=>rfl
     |some x=>rw[hc]at h1;cases h1)])
   have d:=O (ai.o V CV.o (NO.o (by rw[E.o];decide)));go_wp2_with fail;go_ret;exact⟨by rw[E.o];rfl,d.o⟩
  |true=>
   have HS:=O (show(s.tree.at c.id).isNone=false by
    have h1:=ao.o;cases hc:s.tree.at c.id with
    |none=>rw[hc]at h1;cases h1
    |some x=>rfl)
   obtain⟨m,av⟩:=Zx (s.many c.id);rw[←av]at HE aa;clear av;obtain⟨g0,_⟩:=(show Xx V w.heap.size c from CV.o.blk S0.o (fun h=>h)).cells;by_cases hm:0<m
   ·have E:=O (show s.aG c=230 by rw[HE.o,HS.o,if_neg (by decide),if_pos hm]);have dm:decide (0<m)=true:=by simpa using hm
    rw[dm]at aa;clear hm dm;go_wp2_with fail;refine Zz (aa.o V CV.o) ?_;intro I c4;have d:=O (ai.o I (CV.o.aA c4) (NO.o (by rw[E.o];decide)));clear c4;go_wp2_with fail;go_ret;exact⟨by rw[E.o];rfl,d.o⟩
   ·have E:=O (show s.aG c=s.tree.aG c by rw[HE.o,HS.o,if_neg (by decide),if_neg hm]);have dm:decide (0<m)=false:=by simpa using hm
    rw[dm]at aa;clear hm dm;go_wp2_with fail;refine Zz (aa.o V CV.o) ?_;intro I c4;have C4:=O (CV.o.aA c4);clear c4 g0;go_wp2_with fail;obtain⟨a0,a1,a2,a3,a4⟩:=Ym (C4.o.drew.blk HA.o (fun h=>h));obtain⟨g0,g1,g2,g3,g4,g5,g6,g7,g8,g9,K,R,U,Z⟩:=(show Xx I.drew w.heap.size c from C4.o.drew.blk S0.o (fun h=>h)).cells;refine ZB [0,1,2,3,4,205,206] ?_;simp only[Z8,Zf,Ze,Zd];iterate 5 (refine Jq (h:=?_))
    clear a0 a1 a2 a3 a4 g0 g1 g2 g3 g4 g5 g6 g7 g8 g9 K R U Z;refine J7 ?_;go_wp2_with fail;refine Zz (ax.o _ C4.o.drew) ?_;rintro w5⟨h5,c5⟩;have H5:=O h5;have C5:=O c5;have S5:Hi (Xx w5 w.heap.size c):=O (c5.blk S0.o NF.o);clear h5 c5;go_wp2_with fail;refine J7 ?_;go_wp2_with fail;refine Jo ?_;by_cases B:s.tree.aG c=0
    ·have HT:=O (ak.o (E.o.trans B));have hd:decide (s.tree.aG c=0)=true:=by simpa using B
     rw[B];rw[B]at hd;have E0:=O (E.o.trans B);clear B hd E;go_wp2_with fail;obtain⟨a0,a1,a2,a3,a4⟩:=Ym H5.o.drew.blk;obtain⟨g0,g1,g2,g3,g4,g5,g6,g7,g8,g9,K,R,U,Z⟩:=(show Xx w5.drew w.heap.size c from S5.o.aB (Zg Qb w5).drew).cells;refine ZB [0,1,2,3,4,205] ?_;simp only[Z8,Zf,Ze,Zd];iterate 5 (refine Jq (h:=?_))
     clear a0 a1 a2 a3 a4 g0 g1 g2 g3 g4 g5 g6 g7 g8 g9 K R U Z;refine J7 ?_;go_wp2_with fail;refine Zz (HT.o.1 w5 H5.o C5.o) ?_;rintro u⟨h6,c6,ag⟩;have H6:=O h6;have C6:=O c6;have S6:Hi (Xx u w.heap.size c):=O (ag.blk S5.o (fun hk=>hk.elim NF.o (fun hk=>by
      have h1:=a5.o;omega)))
     have aj:=O HT.o.2;clear h6 c6 ag;go_wp2_with fail;refine Jo ?_;go_wp2_with fail;obtain⟨a0,a1,a2,a3,a4⟩:=Ym H6.o.drew.blk;obtain⟨g0,g1,g2,g3,g4,g5,g6,g7,g8,g9,K,R,U,Z⟩:=(show Xx u.drew w.heap.size c from S6.o.aB (Zg Qb u).drew).cells;have lk:=H6.o.drew.look1 c.id;cases hl:s.leaf c.id with
     |none=>
      rw[Qae (s:={s with tree:=s.tree.change c,pick:=s.pick.aK c}) hl]at lk;have d:=O (J.o u.drew (s.change c) (by rw[aj.o.2.1 hl];exact⟨A,H6.o.drew⟩) C6.o.drew);clear hl;refine ZB [0,1,2,3,4,5,6,207] ?_;simp only[Z8,Zf,Ze,Zd];iterate 7 (refine Jq (h:=?_))
      clear a0 a1 a2 a3 a4 g0 g1 g2 g3 g4 g5 g6 g7 g8 g9 K R U Z lk;refine J7 ?_;go_wp2_with fail;refine Jo ?_;go_wp2_with fail;go_ret;exact⟨by rw[E0.o];rfl,d.o⟩
     |some l=>
      rw[G7 (s:={s with tree:=s.tree.change c,pick:=s.pick.aK c}) hl]at lk;obtain⟨qb,dv,ar,hk⟩:=aj.o.2.2 l u hl H6.o C6.o;have HK:=O hk;have az:=O ar;have ay:=O aj.o.1;clear hl hk ar;refine ZB [0,1,2,3,4,5,6,207] ?_;simp only[Z8,Zf,Ze,Zd];iterate 7 (refine Jq (h:=?_))
      clear a0 a1 a2 a3 a4 lk;refine J7 ?_;go_wp2_with fail;refine Jo ?_;go_wp2_with fail;refine(ay.o u.drew).mono ?_;rintro e w7⟨pv,rfl,hD,c7⟩;have B7:=O (((Zg Qb u).drew.aA c7).blk az.o (fun h=>h));obtain⟨y0,y1⟩:=Q4 B7.o;have fz:=B7.o.frozen;have d:=O (HK.o u.drew w7 (w7.setCell ⟨A.ad c.id,1,none⟩ (.pointer pv)) (.pointer pv) (Zg Qb u).drew c7 hD (B7.o.set 1 _) ((Zg _ w7).setCell _ (.inl rfl)));have an:=O (J.o _ _ d.o.1 d.o.2);clear hD c7 g0 g1 g2 g3 g4 g5 g6 g7 g8 g9 K R U Z;go_wp2_with fail;go_ret;exact⟨by rw[E0.o];rfl,an.o⟩
    ·have e1:s.tree.change c=s.tree:=Fq B;have e2:s.change c=s:=NO.o (by rw[E.o];exact B);have d:=O (J.o w5 (s.change c) (by rw[e2];have h5:=H5.o;rw[e1]at h5;exact⟨A,h5⟩) C5.o);have hd:decide (s.tree.aG c=0)=false:=by simpa using B
     have bc:(s.tree.aG c==0)=false:=by simpa using B
     generalize s.tree.aG c=er at hd bc E⊢;clear B e1 e2;go_wp2_with fail;go_ret;exact⟨by rw[E.o];rfl,d.o⟩
end
section
variable{A:Tb}{w w1 w2:World}{F:Fp}{b a:Nat}{s:Qf}{N:Nat}{l:Qw}
theorem Qi.openLeaf(h:Qi A w F b s){i:Int}(Z:s.leaf i=some l):∃k d,Qh w (A.ad i) #[ptr k,d] 107∧
  (∃G:Fp,quS k l.pk l.bt l.q w G∧∀w' B,quS k l.pk l.bt B w' (Qn G w w')→Qc G w w'→Qi A w' (Qn F w w') b (s.aR {l with q:=B})∧Qc F w w'∧Qh w' (A.ad i) #[ptr k,d] 107)∧
  (∃G:Fp,Kv w G d l.debt∧∀w' u,Kv w' (Qn G w w') d u→Qc G w w'→Qi A w' (Qn F w w') b (s.aR {l with debt:=u})∧Qc F w w'∧Qh w' (A.ad i) #[ptr k,d] 107):=by
 have V:=(Y3 (show Hn Qw.id i s.aI=some l from Z)).2;obtain⟨K,hL,hK,c⟩:=h.leafOf Z;obtain⟨k,d,E,⟨Gq,gq,sq,nq,pq⟩,⟨Gd,gd,sd,nd,pd⟩⟩:=hL.opn;refine⟨k,d,E,⟨Gq,gq,fun w' B hq z=>?_⟩,⟨Gd,gd,fun w' u hd z=>?_⟩⟩;·obtain⟨I,J⟩:=pq w' B hq z;obtain⟨R,U⟩:=c w' {l with q:=B} V I J;exact⟨R,U,z.blk E nq⟩
 ·obtain⟨I,J⟩:=pd w' u hd z;obtain⟨R,U⟩:=c w' {l with debt:=u} V I J;exact⟨R,U,z.blk E nd⟩
theorem Rz{l1 l2:Qw}(e:l2.id=l1.id):(s.aR l1).aR l2=s.aR l2:=by
 unfold Qf.aR;simp only[List.map_map,e];congr 1;refine List.map_congr_left fun x c=>?_;dsimp only[Function.comp];by_cases c:x.id=l1.id;·simp[c]
 ·simp[c]
theorem Oz{l1:Qw}{i:Int}(c:s.leaf i=some l)(e:l1.id=i):(s.aR l1).leaf i=some l1:=by subst e;have:=Qeo (key:=Qw.id) (x:=l1) (show Hn Qw.id l1.id s.aI=some l from c) l1.id;rw[if_pos rfl]at this;exact this
theorem Qsx{h:Qm}{i:Int}{c:Vm}(d:h.at i=some c):i∈h.map Vm.id:=Z3.2 ⟨c,(Qm.aE d).1,(Qm.aE d).2⟩
theorem Xp.row_len(q:Xp N s)(J:Ol s.row):s.row.length≤64:=by
 have u:=J.length_le_of_subset (l₂:=s.tree.map Vm.id) (fun i E=>by
  obtain⟨⟨x,j,y⟩,B,rfl⟩:=Z3.1 E;obtain⟨l,d,I,_⟩:=(q.row x j y).1 B;obtain⟨k,K,_⟩:=q.at (show s.leaf j=some l from I);obtain⟨c,z,_⟩:=k.sp;rw[K]at z;exact Qsx z)
 simp only[List.length_map]at u;exact Zp u q.tree.many
theorem Qi.row_len(h:Qi A w F b s)(d:Xp N s):s.row.length≤64:=by obtain⟨p,G,_,c⟩:=h.once;exact d.row_len c.1
theorem Qi.qPush(h:Qi A w F b s){i:Int}(hl:s.leaf i=some l)(p:Jr):∃c u,Qh w (A.ad i) #[ptr c,u] 107∧(∃G:Fp,Kv w G u l.debt)∧
  ∀w1,Qc Qb w w1→Cl 107 #[ptr c,.agg (ZL p)] w1 fun e w2=>e=.returned (ZI (D8 l.pk l.bt l.q p))∧
   (D8 l.pk l.bt l.q p≠0→Qc Qb w1 w2)∧
   (D8 l.pk l.bt l.q p=0→Qc F w w2∧Qi A w2 (Qn F w w2) b (s.aR {l with q:=l.q++[p]})∧Qh w2 (A.ad i) #[ptr c,u] 107∧∃r,Jz w2 c r l.pk l.bt (l.q++[p])):=by
 obtain⟨c,u,hB,⟨G,U,B⟩,Z,hd,_⟩:=h.openLeaf hl;refine⟨c,u,hB,⟨Z,hd⟩,fun w1 E=>?_⟩;obtain⟨r,R,g1,g2,g3⟩:=(Lm c l.pk l.bt l.q).aB U E (Jl.none _);by_cases z:D8 l.pk l.bt l.q p=0;·refine Zz (Qsj R p z) ?_;rintro w2⟨V,J,d,I⟩;have K:Qc G w w2:=(E.none (F:=G)).aA (I.sub fun k hk=>by rcases hk with rfl|rfl<;>assumption);have s1:=E.size;have lt:=d.lt;obtain⟨m1,m2,m3⟩:=B w2 (l.q++[p]) ⟨V,d,.inl g1,J.elim (fun e=>.inl (e▸g2)) (fun e=>.inr ⟨by omega,lt.2⟩),((Lm c l.pk l.bt l.q).bd U).ext K⟩ K;exact⟨by rw[z],fun h=>absurd z h,fun _=>⟨m2,m1,m3,V,d⟩⟩
 ·refine Zz (Qsi R p z) ?_;intro w2 I;exact⟨rfl,fun _=>I,fun h=>absurd h z⟩
theorem Qi.noDebt(h:Qi A w F b s){i:Int}(E:s.leaf i=some l){I:Nat}{k:Value}(z:Qh w (A.ad i) #[ptr I,k] 107)(B:l.debt=none):k=.pointer none:=by obtain⟨J,u,d,_,G,q,_⟩:=h.openLeaf E;have e:=z.inj d;injection e with e;injection e with K c;injection c with c;rw[B]at q;rw[c];exact q.1
theorem Qi.debtStep(h:Qi A w F b s){i:Int}(hl:s.leaf i=some l){I:Nat}{u:Value}(V:Qh w (A.ad i) #[ptr I,u] 107){d:Ju}(hd:l.debt=some d):∃q,u=ptr q∧∃G:Fp,Ye w G q d∧
  ∀w' k,Ye w' (Qn G w w') q k→Qc G w w'→Qi A w' (Qn F w w') b (s.aR {l with debt:=some k})∧Qc F w w'∧Qh w' (A.ad i) #[ptr I,u] 107:=by
 obtain⟨aa,J,B,_,G,E,K⟩:=h.openLeaf hl;have e:=V.inj B;injection e with e;injection e with c z;injection c with c;injection c with c;injection c with c _;injection z with z;subst z;subst c;rw[hd]at E;obtain⟨q,hq,Z⟩:=E;subst hq;exact⟨q,rfl,G,Z,fun w' k R U=>K w' (some k) ⟨q,rfl,R⟩ U⟩
theorem Qi.wakeDebt(h:Qi A w F b s){i:Int}(R:s.leaf i=some l){V:Nat}{B:Value}(J:Qh w (A.ad i) #[ptr V,B] 107){d:Ju}(K:l.debt=some d)(hn:d.run.l.length+1<549755813888)(hg:d.got≤Xw)(now:Nat)(hw:now<18446744073709551616)(k:Int):
  ∃q,B=ptr q∧∀w1,Qc Qb w w1→ZW 108 #[ptr q,ZU now,ZI k] w1 (.tuple #[]) fun w2=>Qi A w2 (Qn F w w2) b (s.aR {l with debt:=some (d.wake now k)})∧Qc F w w2∧Qh w2 (A.ad i) #[ptr V,B] 107:=by
 obtain⟨q,U,_⟩:=h.debtStep R J K;refine⟨q,U,fun w1 z=>?_⟩;have h1:=(Qi.obj A).aB h z (Jl.none F);obtain⟨q',c,G,hD,u⟩:=h1.debtStep R (z.blk J (fun h=>h)) K;rw[U]at c;injection c with c;injection c with c;injection c with c _;subst c;refine Zz (Qj6 hD hn hg now hw k) ?_;rintro w2⟨E,Z⟩;obtain⟨m1,m2,m3⟩:=u w2 _ E Z;have I:Qc F w w2:=z.none.aA m2;exact⟨rfl,(Qi.obj A).more m1 (Ke z.size) (((Qi.obj A).bd h).ext I),I,m3⟩
theorem Qi.noteDebt(h:Qi A w F b s){i:Int}(V:s.leaf i=some l){qb q:Nat}(J:Qh w (A.ad i) #[ptr qb,ptr q] 107){d:Ju}(U:l.debt=some d)(hr:s.row.length≤64):
  ∀w1,Qc Qb w w1→ZW 99 #[ptr A.rb,ZI i,ptr q] w1 (.tuple #[]) fun w2=>Qi A w2 (Qn F w w2) b {s with row:=Hj s.row i d}∧Qc F w w2:=by
 intro w1 u;have E:=(Qi.obj A).aB h u (Jl.none F);obtain⟨q',c,G,K,_⟩:=E.debtStep V (u.blk J (fun h=>h)) U;injection c with c;injection c with c;injection c with c _;subst c;obtain⟨H,R,_,k⟩:=E.rowOf;refine Zz (Qkb R K (by omega) i) ?_;rintro w2⟨z,I⟩;obtain⟨Z,m2⟩:=k w2 _ z I;have B:Qc F w w2:=u.none.aA m2;exact⟨rfl,(Qi.obj A).more Z (Ke u.size) (((Qi.obj A).bd h).ext B),B⟩
theorem Qi.pickWake(h:Qi A w F b s){dep:Int→Nat}(U:Qs dep N s.pick)(J:N<549755813000)(i:Int)(now:Nat)(c:now<18446744073709551616):
  ∀w1,Qc Qb w w1→ZW 109 #[ptr A.pb,ZI i,ZU now] w1 (.tuple #[]) fun w2=>Qi A w2 (Qn F w w2) b {s with pick:=s.pick.wake i now}∧Qc F w w2:=by
 intro w1 k;have E:=(Qi.obj A).aB h k (Jl.none F);obtain⟨H,⟨z,I⟩,_,d⟩:=E.pickOf;refine Zz (Qlo I U J i now c) ?_;rintro w2⟨q,B⟩;obtain⟨K,R⟩:=d w2 _ ⟨z,q⟩ B;have u:Qc F w w2:=k.none.aA R;exact⟨rfl,(Qi.obj A).more K (Ke k.size) (((Qi.obj A).bd h).ext u),u⟩
end
section
variable{A:Tb}{w w1 w2:World}{F:Fp}{b a:Nat}{s:Qf}{N:Nat}{l:Qw}
theorem Qlq{p:Jr}(c:s.tree.at p.cls=none):s.aQ p=81:=by unfold Qf.aQ;rw[c]
theorem Qil{p:Jr}{c:Vm}(d:s.tree.at p.cls=some c)(k:c.sp.leaf=false):s.aQ p=162:=by unfold Qf.aQ;rw[d];simp[k]
theorem Qlp{p:Jr}{c:Vm}(u:s.tree.at p.cls=some c)(d:c.sp.leaf=true)(z:s.leaf p.cls=some l)(E:s.most<65536):s.aQ p=if Eo p.len s.most≠0 then Eo p.len s.most else D8 l.pk l.bt l.q p:=by
 unfold Qf.aQ;rw[u];simp only[d,z];rw[if_neg (by simp)];split;·rfl
 ·rename_i k;have q:¬(p.len<1∨65535<p.len):=by
   unfold Eo at k;intro B;apply k;split;·decide
   ·rw[if_pos (by omega)];decide
  unfold D8;rw[if_neg q]
theorem Qbn(h:Qt w F b s)(ok:Xp N s)(hN:N<549755813000)(p:Jr)(now:Nat)(aj:now<18446744073709551616):
  ZW 60 #[ptr b,.agg (ZL p),ZU now] w (ZI (s.aQ p)) fun w'=>Qt w' (Qn F w w') b (s.push p now)∧Qc F w w':=by
 obtain⟨A,h⟩:=h;have ag:=(Qi.obj A).bd h;obtain⟨W,hW⟩:=Zx (w.alloc (.cells (ZL p) 31));have S0:Hi (Qh W w.heap.size (ZL p) 31):=O (by rw[hW];exact Qh.new _ _ _);have C0:Hi (Qc Qb w W):=O (by rw[hW];exact(Zg _ _).alloc _);have hP:=(Qi.obj A).aB h C0.o (Jl.none F);have HN:=O (Ku hP ok.most.1);have NF:Hi (¬F w.heap.size):=O (fun hk=>by have:=ag _ hk;omega);have ai:Bd F W:=ag.later C0.o;have bp:Hi (w.heap.size<W.heap.size):=O (Qh.lt S0.o);have ah:=O (fun w'(c:Qc Qb W w')=>(Qi.obj A).aB hP c (Jl.none F));have K:Hi (∀w' t,Qt w' (Qn F W w') b t→Qc F W w'→Qt w' (Qn F w w') b t∧Qc F w w'):=O (fun w' t z h2=>by
  have cc:Qc F w w':=C0.o.none.aA h2;exact⟨Qt.obj.more z (Ke C0.o.size) (ag.ext cc),cc⟩)
 have R:Hi (∀w',Qc Qb W w'→s.aQ p≠0→Qt w' (Qn F w w') b (s.push p now)∧Qc F w w'):=O (fun w' cc e=>by
  rw[Qnm e];obtain⟨p1,p2⟩:=Qt.obj.same ⟨A,hP⟩ cc;exact K.o w' _ p1 p2)
 have HG:Hi (∀w',Qc Qb W w'→ZW 23 #[ptr A.tb,ZI p.cls] w' (.tuple #[.agg (Es (s.tree.get p.cls).sp),.bool (s.tree.at p.cls).isSome]) fun bo=>Qc Qb w' bo):=O (fun w' cc=>by
  obtain⟨G,hT,_⟩:=(ah.o w' cc).treeOf;exact Ob hT p.cls)
 have az:=O (fun w'=>Rn p s.most w');have EM:Hi (Cp p s.most=Eo p.len s.most):=O (rfl);have HA:=O hP.blk;obtain⟨is,au⟩:=Zx ((s.tree.at p.cls).isSome);rw[←au]at HG;have ax:=O au;clear au;obtain⟨gs,ar⟩:=Zx ((s.tree.get p.cls).sp);rw[←ar]at HG;have be:=O ar;clear ar;have OK:=O ok;have HP:=O hP;have I:=O ai;have an:=O hN;have aa:=O aj;clear h ag ok hP ai hN aj;go_enter func60,ntmps60;go_wp2_with fail;rw[←hW];clear hW;refine Zy HN ?_;rintro w1 rfl;go_wp2_with fail;go_cut [7,8] (fun s7 s8 wz=>(∃r,s7=ZP r∧Qh wz r (Es gs) 29)∧s8=.bool is∧Qc Qb W wz)
 case first=>
  refine Ui (.lookp 0 (.lookp 1 (.lookp 2 (.lookp 3 (.lookp 4 (.lookp 5 (.fork 6 (.lookp 7 (.lookp 8 (.lookp 9 (.walk 10 (.walk 11 (.walk 12 .nil)))))) 10 (.walk 6 (.look 7 (.look 8 (.lookp 9 (.walk 11 (.walk 12 .nil))))))))))))) (fun wv=>Qc (Qb) (W) wv) Zq (by kernel_rfl) (fun _ _ _ _ _ h=>h) Z0 ?_;simp only[O0,Zf,Ze,Zd];iterate 3 (first|refine Vd (h:=?_)|refine Xi (h:=?_);try simp only[Act.put,Za,Zc,Zb])
  iterate 1 (refine Xi (by kernel_rfl) (fun wv hv=>by(obtain⟨z0,z1,z2,z3,z4⟩:=Ym (hv.blk HA.o (fun h=>h)));go_simp;try rfl) ?_;try simp only[Act.put,Za,Zc,Zb])
  iterate 1 (first|refine Vd (h:=?_)|refine Xi (h:=?_);try simp only[Act.put,Za,Zc,Zb])
  iterate 1 (refine Xi (by kernel_rfl) (fun wv hv=>by(obtain⟨z0,z1,_⟩:=(X9 (hv.blk S0.o (fun h=>h))));go_simp;try rfl) ?_;try simp only[Act.put,Za,Zc,Zb])
  refine Gn ?_ ?_
  ·go_wp2_with fail;refine Zz (HG.o _ (Zg Qb W).drew) ?_;intro w2 c2;have C2:=O ((Zg Qb W).drew.aA c2);clear c2;go_wp2_with fail;refine⟨C2.o,?_⟩;iterate 3 (first|refine Vd (h:=?_)|refine Xi (h:=?_);try simp only[Act.put,Za,Zc,Zb])
   refine Xt ?_;go_wp2_with fail;refine⟨C2.o.alloc _,?_⟩;obtain⟨W3,s3,ac,C3⟩:=Q0 (P:=prog) (vs:=Es gs) (Qh.new w2 Z5 29) rfl (Hl _);have D3:Hi (Qc Qb W W3):=O ((C2.o.alloc _).trans C3 (fun k e=>.inr (by have:=C2.o.size;omega)));have al:=O ac;clear ac C3;refine Xt ?_;go_wp2_with fail;refine⟨D3.o,?_⟩;refine Xt ?_;go_wp2_with fail;refine⟨D3.o,?_⟩;refine U9 ?_;clear s3;go_wp2_with fail;go_meet;exact⟨⟨_,rfl,al.o⟩,rfl,D3.o⟩
  ·go_wp2_with fail;refine⟨((Zg Qb W).drew.alloc _),?_⟩;have CA:=O ((Zg Qb W).drew.alloc (.cells Z5 29));have BA:Hi (Qh (W.drew.alloc (.cells Z5 29)) W.heap.size Z5 29):=O (Qh.new W.drew _ _);refine Xt ?_;go_wp2_with fail;refine(HG.o _ CA.o).mono ?_;rintro e w2⟨rfl,c2⟩;obtain⟨W3,s3,ac,C3⟩:=Q0 (P:=prog) (vs:=Es gs) (c2.blk BA.o (fun h=>h)) rfl (Hl _);have C2:=O (CA.o.aA c2);have D3:Hi (Qc Qb W W3):=O (C2.o.trans C3 (fun k e=>.inr (by omega)));have al:=O ac;clear ac C3 c2;go_wp2_with fail;refine⟨C2.o,?_⟩;iterate 3 (first|refine Vd (h:=?_)|refine Xi (h:=?_);try simp only[Act.put,Za,Zc,Zb])
   refine Xt ?_;go_wp2_with fail;refine⟨D3.o,?_⟩;refine Xt ?_;go_wp2_with fail;refine⟨D3.o,?_⟩;refine U9 ?_;clear s3;go_wp2_with fail;go_meet;exact⟨⟨_,rfl,al.o⟩,rfl,D3.o⟩
 case rest=>
  obtain⟨⟨r,rfl,hR⟩,rfl,cW⟩:=hcut;obtain⟨V,hV⟩:=Zx wc;rw[←hV]at cW hR⊢;clear hV;have CV:=O cW;clear cW;cases is with
  |false=>
   have E:=O (show s.aQ p=81 by
    have z:=ax.o;cases hc:s.tree.at p.cls with
    |none=>exact Qlq hc
    |some x=>rw[hc]at z;cases z)
   have u:=O (R.o V CV.o (by rw[E.o];decide));clear hR;go_wp2_with fail;go_ret;exact⟨by rw[E.o];rfl,u.o⟩
  |true=>
   obtain⟨c,hc,bm⟩:∃c,s.tree.at p.cls=some c∧gs=c.sp:=by
    have z:=ax.o;cases hc:s.tree.at p.cls with
    |none=>rw[hc]at z;cases z
    |some x=>exact⟨x,rfl,by rw[be.o,Qda _ hc]⟩
   subst bm;obtain⟨y0,y1,y2,_⟩:=(show Xx V r c.sp from hR).cells;cases B:c.sp.leaf with
   |false=> have E:Hi (s.aQ p=162):=O (Qil hc B);have u:=O (R.o V CV.o (by rw[E.o];decide));rw[B]at y2;clear hR hc B y0 y1;go_wp2_with fail;go_ret;exact⟨by rw[E.o];rfl,u.o⟩
   |true=>
    obtain⟨l,hl⟩:=OK.o.lv _ _ hc B;have E:=O (Qlp hc B hl OK.o.most.2);rw[B]at y2;clear hR hc B y0 y1;go_wp2_with fail;clear y2;obtain⟨a0,a1,a2,a3,a4⟩:=Ym (CV.o.drew.blk HA.o (fun h=>h));obtain⟨U,Z,g2,g3⟩:=X9 (CV.o.drew.blk S0.o (fun h=>h));refine ZB [0,1,2,3,4,205,206] ?_;simp only[Z8,Zf,Ze,Zd];iterate 5 (refine Jq (h:=?_))
    clear a0 a1 a2 a3 a4 U Z g2 g3;refine J7 ?_;go_wp2_with fail;refine Zz (az.o _) ?_;intro w4 c4;rw[EM.o];have C4:=O (CV.o.drew.aA c4);clear c4;go_wp2_with fail;refine J7 ?_;go_wp2_with fail;refine Jo ?_;by_cases h0:Eo p.len s.most=0
    ·have E1:=O (show s.aQ p=D8 l.pk l.bt l.q p by rw[E.o,if_neg (by rw[h0];decide)]);rw[h0];clear h0;go_wp2_with fail;obtain⟨qb,dv,ba,⟨Gd,bl⟩,ae⟩:=HP.o.qPush hl p;have bj:=O ae;have bg:=O ba;have HL:=O hl;have lk:=(ah.o _ C4.o.drew).look1 p.cls;rw[G7 hl]at lk;obtain⟨a0,a1,a2,a3,a4⟩:=Ym (C4.o.drew.blk HA.o (fun h=>h));obtain⟨U,Z,g2,g3⟩:=X9 (C4.o.drew.blk S0.o (fun h=>h));clear ba bl ae hl;refine ZB [0,1,2,3,4,5,6,207] ?_;simp only[Z8,Zf,Ze,Zd];iterate 7 (refine Jq (h:=?_))
     clear a0 a1 a2 a3 a4 U Z g2 g3 lk;refine J7 ?_;go_wp2_with fail;refine Jo ?_;go_wp2_with fail;obtain⟨y0,y1⟩:=Q4 (C4.o.drew.drew.blk bg.o (fun h=>h));obtain⟨U,Z,g2,g3⟩:=X9 (C4.o.drew.drew.blk S0.o (fun h=>h));refine ZB [0,1,2,3,4,205,206] ?_;simp only[Z8,Zf,Ze,Zd];iterate 5 (refine Jq (h:=?_))
     clear y0 y1 U Z g2 g3;refine J7 ?_;go_wp2_with fail;refine Zz (bj.o _ C4.o.drew.drew) ?_;rintro w5⟨bd,ak⟩;have bh:=O bd;have a6:=O ak;clear bd ak;go_wp2_with fail;refine J7 ?_;go_wp2_with fail;refine Jo ?_;by_cases z:D8 l.pk l.bt l.q p=0
     ·have E0:=O (E1.o.trans z);have PS:=O (Ct (now:=now) E0.o HL.o);obtain⟨c5,h5,a8,rq,bb⟩:=a6.o z;have H5:=O h5;have C5:=O c5;have af:=O a8;have J:=O (Qin bb);obtain⟨n1,av⟩:=Zx ((l.q++[p]).length);rw[←av]at J;have a5:=O av;rw[z];obtain⟨y0,y1⟩:=Q4 af.o;clear z h5 c5 a8 bb av;by_cases hq:l.q=[]
      ·have hz:n1=1:=by rw[a5.o,hq];rfl
       subst hz;rw[show((1:Nat):Int)=1 from rfl]at J;have a7:=O (PS.o.trans (if_neg (by simpa using hq)));clear hq;go_wp2_with fail;refine Zy J ?_;rintro w6 rfl;have am:Hi (l.id=p.cls):=O ((Y3 (show Hn Qw.id p.cls s.aI=some l from HL.o)).2);have ay:Hi ((s.aR {l with q:=l.q++[p]}).leaf p.cls=some {l with q:=l.q++[p]}):=O (Oz HL.o am.o);cases hd:l.debt with
       |none=>
        have aq:dv=.pointer none:=H5.o.noDebt ay.o af.o hd;have ab:=O (show s.owe {l with q:=l.q++[p]} (fun d=>d.wake now p.len)=s.aR {l with q:=l.q++[p]} by unfold Qf.owe;dsimp only;rw[hd]);subst aq;clear hd;go_wp2_with fail;clear y0 y1;obtain⟨a0,a1,a2,a3,a4⟩:=Ym H5.o.drew.blk;obtain⟨U,Z,g2,g3⟩:=X9 (Qc.blk C5.o.drew S0.o NF.o);have ao:=O (H5.o.pickWake (dep:=Xk s.tree) OK.o.pick an.o p.cls now aa.o);refine ZB [0,1,2,3,4,5,6,207] ?_;simp only[Z8,Zf,Ze,Zd];iterate 7 (refine Jq (h:=?_))
        clear a0 a1 a2 a3 a4 U Z g2 g3;refine J7 ?_;go_wp2_with fail;refine Zz (ao.o _ (Zg Qb w5).drew) ?_;rintro w9⟨h9,c9⟩;obtain⟨n1,n2⟩:=(Qi.obj A).two h9 I.o C5.o c9;have u:=O (K.o w9 (s.push p now) (by rw[a7.o,ab.o];exact⟨A,n1⟩) n2);clear h9 c9 n1 n2;go_wp2_with fail;refine Jo ?_;go_wp2;go_ret;exact⟨by rw[E0.o];rfl,u.o⟩
       |some d=>
        obtain⟨dg,dn,_⟩:=(OK.o.at HL.o).1.debt d hd;obtain⟨q,aq,bc⟩:=H5.o.wakeDebt ay.o af.o (d:=d) hd (by have:=an.o;omega) dg now aa.o p.len;have ab:=O (show s.owe {l with q:=l.q++[p]} (fun d=>d.wake now p.len)={s.aR {l with q:=l.q++[p],debt:=some (d.wake now p.len)}with row:=Hj s.row p.cls (d.wake now p.len)} by unfold Qf.owe;dsimp only;rw[hd,am.o]);have bk:=O bc;subst aq;clear hd bc dg dn;go_wp2_with fail;clear y0 y1;obtain⟨y0,y1⟩:=Q4 af.o.drew;obtain⟨U,Z,g2,g3⟩:=X9 (Qc.blk C5.o.drew S0.o NF.o);refine ZB [0,1,2,3,4,5,6,207] ?_;simp only[Z8,Zf,Ze,Zd];iterate 7 (refine Jq (h:=?_))
        clear y0 y1 U Z g2 g3;refine J7 ?_;go_wp2_with fail;refine Zz (bk.o _ (Zg Qb w5).drew) ?_;rintro w7⟨h7,c7,a9⟩;obtain⟨m1,m2⟩:=(Qi.obj A).two h7 I.o C5.o c7;have H7:=O (show Qi A w7 (Qn F W w7) b (s.aR {l with q:=l.q++[p],debt:=some (d.wake now p.len)}) by
         rw[←Rz (s:=s) (l1:={l with q:=l.q++[p]}) (l2:={l with q:=l.q++[p],debt:=some (d.wake now p.len)}) rfl];exact m1)
        have C7:=O m2;have aw:=O a9;have bf:Hi ((s.aR {l with q:=l.q++[p],debt:=some (d.wake now p.len)}).leaf p.cls=some {l with q:=l.q++[p],debt:=some (d.wake now p.len)}):=O (Oz HL.o am.o);have bi:=O (H7.o.noteDebt bf.o aw.o rfl (HP.o.row_len OK.o));clear h7 c7 a9 m1 m2;go_wp2_with fail;refine Jo ?_;go_wp2_with fail;obtain⟨a0,a1,a2,a3,a4⟩:=Ym H7.o.drew.blk;obtain⟨y0,y1⟩:=Q4 aw.o.drew;obtain⟨U,Z,g2,g3⟩:=X9 (Qc.blk C7.o.drew S0.o NF.o);refine ZB [0,1,2,3,4,5,6,7,8,9,210] ?_;simp only[Z8,Zf,Ze,Zd];iterate 10 (refine Jq (h:=?_))
        clear a0 a1 a2 a3 a4 y0 y1 U Z g2 g3;refine J7 ?_;go_wp2_with fail;refine Zz (bi.o _ (Zg Qb w7).drew) ?_;rintro w8⟨h8,c8⟩;obtain⟨m1,m2⟩:=(Qi.obj A).two h8 I.o C7.o c8;have H8:=O m1;have C8:=O m2;clear h8 c8 m1 m2;go_wp2_with fail;refine Jo ?_;go_wp2_with fail;obtain⟨a0,a1,a2,a3,a4⟩:=Ym H8.o.drew.blk;obtain⟨U,Z,g2,g3⟩:=X9 (Qc.blk C8.o.drew S0.o NF.o);have ao:=O (H8.o.pickWake (dep:=Xk s.tree) OK.o.pick an.o p.cls now aa.o);refine ZB [0,1,2,3,4,5,6,207] ?_;simp only[Z8,Zf,Ze,Zd];iterate 7 (refine Jq (h:=?_))
        clear a0 a1 a2 a3 a4 U Z g2 g3;refine J7 ?_;go_wp2_with fail;refine Zz (ao.o _ (Zg Qb w8).drew) ?_;rintro w9⟨h9,c9⟩;obtain⟨n1,n2⟩:=(Qi.obj A).two h9 I.o C8.o c9;have u:=O (K.o w9 (s.push p now) (by rw[a7.o,ab.o];exact⟨A,n1⟩) n2);clear h9 c9 n1 n2;go_wp2_with fail;refine Jo ?_;go_wp2;go_ret;exact⟨by rw[E0.o];rfl,u.o⟩
      ·have hd:decide ((1:Int)<(n1:Int))=true:=by have:=a5.o;have h0:l.q.length≠0:=fun e=>hq (List.eq_nil_of_length_eq_zero e);simp at this⊢;omega
       have bq:decide (1<n1)=true:=by simp at hd⊢;omega
       have u:=O (K.o w5 (s.push p now) (by rw[PS.o,if_pos hq];exact⟨A,H5.o⟩) C5.o);clear hq;go_wp2_with fail;refine Zy J ?_;rintro w6 rfl;go_wp2_with fail;go_ret;exact⟨by rw[E0.o];rfl,u.o⟩
     ·have u:=O (R.o w5 (C4.o.drew.drew.aA (bh.o z)) (by rw[E1.o];exact z));have hd:decide (D8 l.pk l.bt l.q p=0)=false:=by simpa using z
      have ap:(D8 l.pk l.bt l.q p==0)=false:=by simpa using z
      generalize D8 l.pk l.bt l.q p=er at hd ap E1⊢;clear z;go_wp2_with fail;go_ret;exact⟨by rw[E1.o];rfl,u.o⟩
    ·have E1:=O (show s.aQ p=Eo p.len s.most by rw[E.o,if_pos h0]);have u:=O (R.o w4 C4.o (by rw[E1.o];exact h0));have hd:decide (Eo p.len s.most=0)=false:=by simpa using h0
     have ap:(Eo p.len s.most==0)=false:=by simpa using h0
     generalize Eo p.len s.most=er at hd ap E1⊢;clear h0;go_wp2_with fail;go_ret;exact⟨by rw[E1.o];rfl,u.o⟩
end
def Pm(l:List Jr):Jr:=l.headD Jr.zero
def Qhg(l:List Jr):Bool:=!l.isEmpty
theorem Qse{w}{b r d c:Nat}{l:List Jr}(h:Jz w b r d c l):
  ZW 96 #[ZP b] w (.tuple #[.agg #[ZU (Pm l).id,ZI (Pm l).cls,ZI (Pm l).len,ZU (Pm l).at_],.bool (Qhg l)]) fun w'=>Qc Qb w w':=by
 cases l with
 |nil=>exact Qa9 h
 |cons p l=>exact Qba h
theorem Qpr{w}{b r q c:Nat}{l:List Jr}(h:Jz w b r q c l):
  Cl 95 #[ZP b] w fun e w'=>e=.returned (.tuple #[.agg #[ZU (Pm l).id,ZI (Pm l).cls,ZI (Pm l).len,ZU (Pm l).at_],.bool (Qhg l)])∧
   Jz w' b r q c l.tail∧Qc (fun k=>k=b) w w':=by
 cases l with
 |nil=>exact(Qps h).mono fun e w'⟨u,d⟩=>⟨u,h.aB d (fun h=>h) (fun h=>h),d.mono fun _ h=>h.elim⟩
 |cons p l=>exact Qpt h
def pkA(p:Jr):Array Value:=(ZL p)
theorem Qt5(p:Jr):∀v∈(pkA p).toList,v.oneCell'=true:=by intro v c;simp only[pkA,Zu,List.not_mem_nil,or_false]at c;rcases c with rfl|rfl|rfl|rfl<;>rfl
def chA(p:Jr)(rule c:Nat):Array Value:=#[ZU p.id,ZI p.cls,ZI p.len,ZU p.at_,.int .u8 rule,ZU c]
theorem Iy(p:Jr)(r d:Nat):∀v∈(chA p r d).toList,v.oneCell'=true:=by intro v c;simp only[chA,Zu,List.not_mem_nil,or_false]at c;rcases c with rfl|rfl|rfl|rfl|rfl|rfl<;>rfl
section
variable{A:Tb}{w w1 w2:World}{F:Fp}{b a:Nat}{s:Qf}{N:Nat}{l:Qw}
theorem Qtl(l:List Jr):Qhg l=decide (l≠[]):=by cases l<;>simp[Qhg]
theorem Qi.qPop(h:Qi A w F b s){i:Int}(hl:s.leaf i=some l):∃c z,Qh w (A.ad i) #[ptr c,z] 107∧
  ∀w1,Qc Qb w w1→Cl 95 #[ptr c] w1 fun e w2=>e=.returned (.tuple #[.agg (pkA (Pm l.q)),.bool (Qhg l.q)])∧
   Qc F w w2∧Qi A w2 (Qn F w w2) b (s.aR {l with q:=l.q.tail})∧Qh w2 (A.ad i) #[ptr c,z] 107∧∃r,Jz w2 c r l.pk l.bt l.q.tail:=by
 obtain⟨c,z,U,⟨G,I,u⟩,_⟩:=h.openLeaf hl;refine⟨c,z,U,fun w1 B=>?_⟩;obtain⟨r,V,K,R,g3⟩:=(Lm c l.pk l.bt l.q).aB I B (Jl.none _);refine Zz (Qpr V) ?_;rintro w2⟨d,J⟩;have E:Qc G w w2:=(B.none (F:=G)).aA (J.sub fun k Z=>by rcases Z with rfl;assumption);obtain⟨m1,m2,m3⟩:=u w2 l.q.tail ⟨r,d,.inl K,.inl R,((Lm c l.pk l.bt l.q).bd I).ext E⟩ E;exact⟨rfl,m2,m1,m3,r,d⟩
theorem Qi.serveDebt(h:Qi A w F b s){i:Int}(hl:s.leaf i=some l){K:Nat}{I:Value}(V:Qh w (A.ad i) #[ptr K,I] 107){d:Ju}(Z:l.debt=some d)(hn:d.run.l.length<549755813888)(hg:d.got≤Xw)(rule:Nat)(B u:Int):
  ∃q,I=ptr q∧(∀w1,Qc Qb w w1→ZW 97 #[ptr q] w1 (ZU (d.dueAt:Nat)) fun w2=>w1=w2)∧
   ∀w1,Qc Qb w w1→ZW 98 #[ptr q,.int .u8 rule,ZI B,ZI u] w1 (.tuple #[]) fun w2=>Qi A w2 (Qn F w w2) b (s.aR {l with debt:=some (d.serve rule B u)})∧Qc F w w2∧Qh w2 (A.ad i) #[ptr K,I] 107:=by
 obtain⟨q,hq,_⟩:=h.debtStep hl V Z;have key:∀w1,Qc Qb w w1→∃G:Fp,Ye w1 G q d∧∀w' U,Ye w' (Qn G w1 w') q U→Qc G w1 w'→Qi A w' (Qn F w1 w') b (s.aR {l with debt:=some U})∧Qc F w1 w'∧Qh w' (A.ad i) #[ptr K,I] 107:=by intro w1 z;have h1:=(Qi.obj A).aB h z (Jl.none F);obtain⟨q',c,G,E,k⟩:=h1.debtStep hl (z.blk V (fun h=>h)) Z;rw[hq]at c;injection c with c;injection c with c;injection c with c _;subst c;exact⟨G,E,k⟩
 refine⟨q,hq,fun w1 z=>?_,fun w1 z=>?_⟩;·obtain⟨G,E,_⟩:=key w1 z;exact Cb E
 ·obtain⟨G,E,k⟩:=key w1 z;refine Zz (Qgw E hn hg rule B u) ?_;rintro w2⟨J,c2⟩;obtain⟨m1,m2,m3⟩:=k w2 _ J c2;have R:Qc F w w2:=z.none.aA m2;exact⟨rfl,(Qi.obj A).more m1 (Ke z.size) (((Qi.obj A).bd h).ext R),R,m3⟩
theorem Qi.pickSent(h:Qi A w F b s){dep:Int→Nat}(V:Qs dep N s.pick)(J:N<549755813000)(i:Int)(g:Nat)(K:g<18446744073709551616)(c:Bool):
  ∀w1,Qc Qb w w1→ZW 100 #[ptr A.pb,ZI i,ZU g,.bool c] w1 (.tuple #[]) fun w2=>Qi A w2 (Qn F w w2) b {s with pick:=s.pick.sent i g c}∧Qc F w w2:=by
 intro w1 k;have E:=(Qi.obj A).aB h k (Jl.none F);obtain⟨H,⟨z,I⟩,_,d⟩:=E.pickOf;refine Zz (Qlm I V J i g K c) ?_;rintro w2⟨q,B⟩;obtain⟨R,U⟩:=d w2 _ ⟨z,q⟩ B;have u:Qc F w w2:=k.none.aA U;exact⟨rfl,(Qi.obj A).more R (Ke k.size) (((Qi.obj A).bd h).ext u),u⟩
end
section
variable{A:Tb}{w w1 w2:World}{F:Fp}{b a:Nat}{s:Qf}{N:Nat}{l:Qw}
theorem Lv{d:Func}{p:Tmp}{ty:TypeId}(h:d.results=#[.cell p ty])(c:Array Value)(P:Program)(w):
  (results d c).run P w=((asAddr (c.getD p undef)).run P w).andThen fun a k=>(loadVar ty a).run P k:=by
 simp only[results,h];simp[Sem.run_bind,Result.andThen]
theorem Qme(h:Qt w F b s)(ok:Xp N s)(hN:N<549755813000){id:Int}{l:Qw}(hl:s.leaf id=some l)(rule:Nat)(ay:rule<256):
  ZW 56 #[ptr b,ZI id,.int .u8 rule] w (.agg (chA (s.aX id rule).p (s.aX id rule).rule (s.aX id rule).due)) fun w'=>Qt w' (Qn F w w') b (s.take id rule)∧Qc F w w':=by
 obtain⟨A,h⟩:=h;have a7:=(Qi.obj A).bd h;obtain⟨W,hW⟩:=Zx (w.alloc (.cells ZK 70));have S0:Hi (Qh W w.heap.size ZK 70):=O (by rw[hW];exact Qh.new _ _ _);have C0:Hi (Qc Qb w W):=O (by rw[hW];exact(Zg _ _).alloc _);have hP:=(Qi.obj A).aB h C0.o (Jl.none F);have NF:Hi (¬F w.heap.size):=O (fun u=>by have:=a7 _ u;omega);have a9:Bd F W:=a7.later C0.o;have bm:Hi (w.heap.size<W.heap.size):=O (Qh.lt S0.o);obtain⟨qb,dv,bz,bb⟩:=hP.qPop hl;obtain⟨y0,y1⟩:=Q4 bz;have bw:=O bb;have lk:=hP.look1 id;rw[G7 hl]at lk;obtain⟨a0,a1,a2,a3,a4⟩:=Ym hP.blk;have HP:=O hP;have OK:=O ok;have HL:=O hl;have am:=O a9;have b3:=O a7;have ao:=O hN;have HR:=O ay;clear h a7 ok hP a9 hN ay bb hl bz;go_enter func56,ntmps56;rw[hW]at a0 a1 a2 a3 a4 y0 y1 lk;go_wp2_with fail;rw[←hW];rw[←hW]at a0 a1 a2 a3 a4 y0 y1 lk;clear hW;refine Zz (bw.o W (Zg _ _)) ?_;rintro w2⟨c2,h2,bo,rq,b0⟩;obtain⟨W3,s3,a6,C3⟩:=Q0 (P:=prog) (vs:=pkA (Pm l.q)) (Qh.new w2 #[ZU 0,ZI 0,ZI 0,ZU 0] 31) rfl (Qt5 _);obtain⟨c,bq⟩:=Zx (Pm l.q);rw[←bq]at s3 a6⊢;have ac:=O bq;clear bq;have b2:Hi (Qc Qb w2 W3):=O (((Zg Qb w2).alloc _).trans C3 (fun k e=>.inr (by omega)));obtain⟨p0,p1,p2,p3⟩:=X9 (show Qh W3 w2.heap.size (ZL c) 31 from a6);obtain⟨W4,aw⟩:=Zx (W3.alloc (.cells #[ZU c.id,ZI c.cls,ZI c.len,ZU c.at_,.int .u8 rule,ZU (0:Int)] 70));have bv:Hi (Qh W4 W3.heap.size #[ZU c.id,ZI c.cls,ZI c.len,ZU c.at_,.int .u8 rule,ZU (0:Int)] 70):=O (by rw[aw];exact Qh.new _ _ _);have bs:Hi (Qc Qb W3 W4):=O (by rw[aw];exact(Zg _ _).alloc _);have CV:=O (b2.o.aA bs.o);have HH:=O (Qse (b0.aB CV.o (fun h=>h) (fun h=>h)));obtain⟨nx,br⟩:=Zx (Pm l.q.tail);rw[←br]at HH;have b4:=O br;have H2:=O h2;have C2:=O c2;have bt:=O bo;have bu:=O a6;obtain⟨z0,U⟩:=Q4 (CV.o.blk bo (fun h=>h));rw[aw]at z0 U;clear h2 c2 bo a6 b0 C3 a0 a1 a2 a3 a4 y0 y1 lk br;go_wp2_with fail;rw[←aw];clear aw z0 U s3 p0 p1 p2 p3;refine Zy HH ?_;intro w5 c5;obtain⟨W6,I⟩:=Zx (w5.alloc (.cells (ZL nx) 31));have be:Hi (Qc Qb W4 W6):=O (by rw[I];exact c5.alloc _);have CN:=O (CV.o.aA be.o);have a5:Hi (Qh W6 w5.heap.size (ZL nx) 31):=O (by rw[I];exact Qh.new _ _ _);have ai:=O (be.o.blk bv.o (fun h=>h));have T8:Hi (Qh W6 w2.heap.size (ZL c) 31):=O ((bs.o.aA be.o).blk bu.o (fun h=>h));have T6:=O ((C2.o.aA (CN.o.none (F:=F))).blk S0.o NF.o);have B:=O (CN.o.blk bt.o (fun h=>h));have H6:=O ((Qi.obj A).aB H2.o CN.o (Jl.none _));have bc:=O ((am.o.ext C2.o).later CN.o);have bg:Hi ((s.aR {l with q:=l.q.tail}).leaf id=some {l with q:=l.q.tail}):=O (Oz HL.o (Y3 (show Hn Qw.id id s.aI=some l from HL.o)).2);have bi:Hi (l.id=id):=O ((Y3 (show Hn Qw.id id s.aI=some l from HL.o)).2);have SZ:Hi (W.heap.size≤w2.heap.size∧w2.heap.size<W3.heap.size∧W3.heap.size<w5.heap.size∧w5.heap.size<W6.heap.size):=O (⟨C2.o.size,bu.o.lt,Nat.lt_of_lt_of_le bv.o.lt c5.size,a5.o.lt⟩);clear c5;have ak:Hi (∀V w7 w8 t,Qc Qb w2 V→Qi A w7 (Qn (Qn F W w2) V w7) b t→Qc (Qn F W w2) V w7→Qc (fun k=>k=w.heap.size) w7 w8→Qt w8 (Qn F w w8) b t∧Qc F w w8):=O (fun V w7 w8 t cV h1 h2 h3=>by
  have U:=C0.o.size;have z2:=C2.o.size;have z3:=cV.size;have z4:=h2.size;have z5:=h3.size;have z6:=bm.o;have c1:Qc F w V:=((C0.o.none (F:=F)).aA C2.o).aA cV.none;have c2:Qc F w w7:=c1.trans h2 (fun k u=>u.elim .inl (fun u=>.inr (by omega)));have c3:Qc F w w8:=c2.trans h3 (fun k e=>.inr (by omega));have h4:=(Qi.obj A).aB h1 h3 (fun k u e=>by
   subst e;rcases u with(u|u)|u;·exact NF.o u
   ·omega
   ·omega)
  refine⟨⟨A,(Qi.obj A).more h4 (fun k u=>?_) (b3.o.ext c3)⟩,c3⟩;rcases u with(u|u)|u;·exact .inl u
  ·exact .inr (by omega)
  ·exact .inr (by omega))
 have bl:=O (Fd (rule:=rule) HL.o);have bj:=O (Qtl l.q.tail);have b8:Hi (∀V t,Qc Qb w2 V→Qi A V (Qn F W w2) b t→Qi A V (Qn (Qn F W w2) V V) b t):=O (fun V t _ h=>(Qi.obj A).more h (fun k u=>.inl u) (fun k u=>u.elim ((Qi.obj A).bd h k) (fun u=>u.2)));have J:=O (show 0≤c.len∧c.len≤65535 by
  rw[ac.o];have hg:=(OK.o.at HL.o).1.good;cases hq:l.q with
  |nil=>exact⟨by decide,by decide⟩
  |cons x t=>
   have:=(hg x (by rw[hq];simp)).1;exact⟨by have:=this.1;show 0≤x.len;omega,this.2⟩)
 have N8:Hi (¬Qn F W w2 w2.heap.size):=O (fun u=>u.elim (fun u=>by have:=am.o _ u;have:=C2.o.size;omega) (fun u=>by omega));have az:Hi (¬Qn F W w2 W3.heap.size):=O (fun u=>u.elim (fun u=>by have:=am.o _ u;have:=SZ.o;omega) (fun u=>by have:=SZ.o;omega));have N6:Hi (¬Qn F W w2 w.heap.size):=O (fun u=>u.elim NF.o (fun u=>by have:=bm.o;omega));cases hd:l.debt with
 |none=>
  have bp:dv=.pointer none:=H6.o.noDebt bg.o B.o hd;subst bp;obtain⟨z0,U⟩:=Q4 B.o;rw[I]at z0 U;have R:=O (show s.aX id rule=⟨c,rule,0⟩ by unfold Qf.aX;rw[HL.o,ac.o];dsimp only;rw[hd];rfl);have ag:=O (show s.owe {l with q:=l.q.tail} (fun d=>d.serve rule (l.q.headD Jr.zero).len (l.q.tail.headD Jr.zero).len)=s.aR {l with q:=l.q.tail} by unfold Qf.owe;dsimp only;rw[hd]);clear hd;go_wp2_with fail;rw[←I];clear I z0 U;have CR:=O (Zg (Qn F W w2) W6);obtain⟨a0,a1,a2,a3,a4⟩:=Ym H6.o.drew.blk;obtain⟨g0,g1,g2,g3⟩:=X9 (Qc.blk CR.o.drew T8.o N8.o);have q1:=J.o.1;have q2:=J.o.2;have ab:=O (H6.o.pickSent (dep:=Xk s.tree) OK.o.pick ao.o id (c.len*256).toNat (by omega) (Qhg l.q.tail));rw[show(((c.len*256).toNat:Nat):Int)=c.len*256 from by omega]at ab;refine ZB [0,1,2,3,4,5,6,7,8,9,210] ?_;simp only[Z8,Zf,Ze,Zd];iterate 10 (refine Jq (h:=?_))
  clear a0 a1 a2 a3 a4 g0 g1 g2 g3;refine J7 ?_;go_wp2_with fail;refine Zz (ab.o _ (Zg Qb W6).drew) ?_;rintro w9⟨h9,c9⟩;have m1:=h9;have m2:=c9;have H9:=O m1;have Z:=O m2;clear h9 c9 m1 m2 q1 q2;go_wp2_with fail;refine Jo ?_;obtain⟨t0,t1,t2,t3,t4,t5⟩:=Lf (Z.o.blk ai.o az.o);obtain⟨u0,u1,u2,u3,u4,u5⟩:=Lf (Z.o.blk T6.o N6.o);have fz:=(Z.o.blk T6.o N6.o).frozen;have aa:=O (ak.o W6 w9 ((((((w9.setCell ⟨w.heap.size,0,none⟩ (ZU c.id)).setCell ⟨w.heap.size,1,none⟩ (ZI c.cls)).setCell ⟨w.heap.size,2,none⟩ (ZI c.len)).setCell ⟨w.heap.size,3,none⟩ (ZU c.at_)).setCell ⟨w.heap.size,4,none⟩ (.int .u8 rule)).setCell ⟨w.heap.size,5,none⟩ (ZU (0:Int))) _ CN.o H9.o Z.o (by
   refine(((((((Zg (fun k=>k=w.heap.size) w9).setCell _ (.inl rfl)).setCell _ (.inl rfl)).setCell _ (.inl rfl)).setCell _ (.inl rfl)).setCell _ (.inl rfl)).setCell _ (.inl rfl))))
  have TB:Hi (Qh ((((((w9.setCell ⟨w.heap.size,0,none⟩ (ZU c.id)).setCell ⟨w.heap.size,1,none⟩ (ZI c.cls)).setCell ⟨w.heap.size,2,none⟩ (ZI c.len)).setCell ⟨w.heap.size,3,none⟩ (ZU c.at_)).setCell ⟨w.heap.size,4,none⟩ (.int .u8 rule)).setCell ⟨w.heap.size,5,none⟩ (ZU (0:Int))) w.heap.size #[ZU c.id,ZI c.cls,ZI c.len,ZU c.at_,.int .u8 rule,ZU (0:Int)] 70):=O (((((((Z.o.blk T6.o N6.o).set 0 _).set 1 _).set 2 _).set 3 _).set 4 _).set 5 _);go_wp2_with fail;clear t0 t1 t2 t3 t4 t5 u0 u1 u2 u3 u4 u5 fz;obtain⟨b1,z⟩:=Zx ((((((w9.setCell ⟨w.heap.size,0,none⟩ (ZU c.id)).setCell ⟨w.heap.size,1,none⟩ (ZI c.cls)).setCell ⟨w.heap.size,2,none⟩ (ZI c.len)).setCell ⟨w.heap.size,3,none⟩ (ZU c.at_)).setCell ⟨w.heap.size,4,none⟩ (.int .u8 rule)).setCell ⟨w.heap.size,5,none⟩ (ZU (0:Int)));rw[←z]at TB aa⊢;clear z;obtain⟨r0,r1,r2,r3,r4,r5⟩:=Lf TB.o;refine bodyPost_ret (v:=.agg #[ZU c.id,ZI c.cls,ZI c.len,ZU c.at_,.int .u8 rule,ZU (0:Int)]) (by rw[Lv (p:=6) (ty:=70) (by kernel_rfl)];go_simp;try rfl) rfl ?_;rw[R.o];refine⟨rfl,?_⟩;rw[bl.o,ag.o,←bj.o];have e:=ac.o;subst e;exact aa.o
 |some d=>
  obtain⟨dg,dn,_⟩:=(OK.o.at HL.o).1.debt d hd;obtain⟨q,bp,ba,E⟩:=H6.o.serveDebt bg.o B.o (d:=d) hd (by have:=ao.o;omega) dg rule c.len nx.len;have a8:=O ba;have R:=O (show s.aX id rule=⟨c,rule,if rule=1 then d.dueAt else 0⟩ by unfold Qf.aX;rw[HL.o,ac.o];dsimp only;rw[hd];rfl);have ag:=O (show s.owe {l with q:=l.q.tail} (fun d=>d.serve rule (l.q.headD Jr.zero).len (l.q.tail.headD Jr.zero).len)={s.aR {l with q:=l.q.tail,debt:=some (d.serve rule c.len nx.len)}with row:=Hj s.row id (d.serve rule c.len nx.len)} by rw[ac.o,b4.o];unfold Qf.owe;dsimp only;rw[hd,bi.o];rfl);subst bp;have bf:=O (Zt hd (Zt dg dn));clear ba hd dg dn;obtain⟨z0,U⟩:=Q4 B.o;rw[I]at z0 U;by_cases ax:rule=1
  ·have b5:decide ((rule:Int)=1)=true:=by simp;omega
   have b6:((rule:Int)==1)=true:=by simp;omega
   have b7:=O ax;have aq:=O (R.o.trans (by rw[if_pos ax]));clear ax E;go_wp2_with fail;rw[←I];clear I z0 U;refine Zz (a8.o W6 (Zg _ _)) ?_;rintro w7 rfl;obtain⟨v0,v1,v2,v3,v4,v5⟩:=Lf ai.o;have fz:=ai.o.frozen;go_wp2_with fail;clear v0 v1 v2 v3 v4 v5 fz;have NA:Hi (¬A.ad id=W3.heap.size):=O (fun e=>by have:=bt.o.lt;have:=SZ.o;omega);have N5:Hi (¬w5.heap.size=W3.heap.size):=O (fun e=>by have:=SZ.o;omega);have N2:Hi (¬w2.heap.size=W3.heap.size):=O (fun e=>by have:=SZ.o;omega);have NW:Hi (¬w.heap.size=W3.heap.size):=O (fun e=>by have:=SZ.o;have:=bm.o;omega);have CS:Hi (Qc (fun k=>k=W3.heap.size) W6 (W6.setCell ⟨W3.heap.size,5,none⟩ (ZU d.dueAt))):=O ((Zg _ W6).setCell _ (.inl rfl));have ah:Hi (Qh (W6.setCell ⟨W3.heap.size,5,none⟩ (ZU d.dueAt)) W3.heap.size #[ZU c.id,ZI c.cls,ZI c.len,ZU c.at_,.int .u8 rule,ZU d.dueAt] 70):=O (ai.o.set 5 _);obtain⟨V,hV⟩:=Zx (W6.setCell ⟨W3.heap.size,5,none⟩ (ZU d.dueAt));rw[←hV]at CS ah⊢;clear hV;have ae:=O (CS.o.blk T6.o NW.o);have au:=O (CS.o.blk T8.o N2.o);have ar:=O (CS.o.blk a5.o N5.o);have K:=CS.o.blk B.o NA.o;have aj:=O (bc.o.later CS.o);have bd:=O (CN.o.trans CS.o (fun k e=>.inr (by have:=SZ.o;omega)));have HV:=O ((Qi.obj A).aB H6.o CS.o (fun k u e=>az.o (e▸u)));obtain⟨q',af,_,E⟩:=HV.o.serveDebt bg.o K (d:=d) bf.o.1 (by have:=ao.o;have:=bf.o.2.2;omega) bf.o.2.1 rule c.len nx.len;injection af with af;injection af with af;injection af with af _;subst af;have R:=aq;have an:=O K;have ap:=O E;have bh:Hi ((s.aR {l with q:=l.q.tail,debt:=some (d.serve rule c.len nx.len)}).leaf id=some {l with q:=l.q.tail,debt:=some (d.serve rule c.len nx.len)}):=O (Oz HL.o bi.o);clear K E;obtain⟨z0,U⟩:=Q4 an.o.drew;obtain⟨g0,g1,g2,g3⟩:=X9 au.o.drew;obtain⟨k0,k1,k2,k3⟩:=X9 ar.o.drew;refine ZB [0,1,2,3,4,5,6,7,8,209] ?_;simp only[Z8,Zf,Ze,Zd];iterate 9 (refine Jq (h:=?_))
   clear z0 U g0 g1 g2 g3 k0 k1 k2 k3;refine J7 ?_;go_wp2_with fail;refine Zz (ap.o _ (Zg Qb V).drew) ?_;rintro w7⟨h7,c7,av⟩;have H7:=O (show Qi A w7 (Qn (Qn F W w2) V w7) b (s.aR {l with q:=l.q.tail,debt:=some (d.serve rule c.len nx.len)}) by
    rw[←Rz (s:=s) (l1:={l with q:=l.q.tail}) (l2:={l with q:=l.q.tail,debt:=some (d.serve rule c.len nx.len)}) rfl];exact h7)
   have C7:=O c7;have al:=O av;have bk:=O (H7.o.noteDebt bh.o al.o rfl (HP.o.row_len OK.o));clear h7 c7 av;go_wp2_with fail;refine Jo ?_;go_wp2_with fail;obtain⟨a0,a1,a2,a3,a4⟩:=Ym H7.o.drew.blk;obtain⟨z0,U⟩:=Q4 al.o.drew;refine ZB [0,1,2,3,4,5,6,7,8,209] ?_;simp only[Z8,Zf,Ze,Zd];iterate 9 (refine Jq (h:=?_))
   clear a0 a1 a2 a3 a4 z0 U;refine J7 ?_;go_wp2_with fail;refine Zz (bk.o _ (Zg Qb w7).drew) ?_;rintro w8⟨h8,c8⟩;obtain⟨m1,m2⟩:=(Qi.obj A).two h8 aj.o C7.o c8;have H8:=O m1;have C8:=O m2;clear h8 c8 m1 m2;go_wp2_with fail;refine Jo ?_;go_wp2_with fail;obtain⟨a0,a1,a2,a3,a4⟩:=Ym H8.o.drew.blk;obtain⟨g0,g1,g2,g3⟩:=X9 (Qc.blk C8.o.drew au.o N8.o);have q1:=J.o.1;have q2:=J.o.2;have ab:=O (H8.o.pickSent (dep:=Xk s.tree) OK.o.pick ao.o id (c.len*256).toNat (by omega) (Qhg l.q.tail));rw[show(((c.len*256).toNat:Nat):Int)=c.len*256 from by omega]at ab;refine ZB [0,1,2,3,4,5,6,7,8,9,210] ?_;simp only[Z8,Zf,Ze,Zd];iterate 10 (refine Jq (h:=?_))
   clear a0 a1 a2 a3 a4 g0 g1 g2 g3;refine J7 ?_;go_wp2_with fail;refine Zz (ab.o _ (Zg Qb w8).drew) ?_;rintro w9⟨h9,c9⟩;obtain⟨m1,m2⟩:=(Qi.obj A).two h9 aj.o C8.o c9;have H9:=O m1;have Z:=O m2;clear h9 c9 m1 m2 q1 q2;go_wp2_with fail;refine Jo ?_;obtain⟨t0,t1,t2,t3,t4,t5⟩:=Lf (Z.o.blk ah.o az.o);obtain⟨u0,u1,u2,u3,u4,u5⟩:=Lf (Z.o.blk ae.o N6.o);have fz:=(Z.o.blk ae.o N6.o).frozen;have aa:=O (ak.o V w9 ((((((w9.setCell ⟨w.heap.size,0,none⟩ (ZU c.id)).setCell ⟨w.heap.size,1,none⟩ (ZI c.cls)).setCell ⟨w.heap.size,2,none⟩ (ZI c.len)).setCell ⟨w.heap.size,3,none⟩ (ZU c.at_)).setCell ⟨w.heap.size,4,none⟩ (.int .u8 rule)).setCell ⟨w.heap.size,5,none⟩ (ZU d.dueAt)) _ bd.o H9.o Z.o (by
    refine(((((((Zg (fun k=>k=w.heap.size) w9).setCell _ (.inl rfl)).setCell _ (.inl rfl)).setCell _ (.inl rfl)).setCell _ (.inl rfl)).setCell _ (.inl rfl)).setCell _ (.inl rfl))))
   have TB:Hi (Qh ((((((w9.setCell ⟨w.heap.size,0,none⟩ (ZU c.id)).setCell ⟨w.heap.size,1,none⟩ (ZI c.cls)).setCell ⟨w.heap.size,2,none⟩ (ZI c.len)).setCell ⟨w.heap.size,3,none⟩ (ZU c.at_)).setCell ⟨w.heap.size,4,none⟩ (.int .u8 rule)).setCell ⟨w.heap.size,5,none⟩ (ZU d.dueAt)) w.heap.size #[ZU c.id,ZI c.cls,ZI c.len,ZU c.at_,.int .u8 rule,ZU d.dueAt] 70):=O (((((((Z.o.blk ae.o N6.o).set 0 _).set 1 _).set 2 _).set 3 _).set 4 _).set 5 _);go_wp2_with fail;clear t0 t1 t2 t3 t4 t5 u0 u1 u2 u3 u4 u5 fz;obtain⟨b1,z⟩:=Zx ((((((w9.setCell ⟨w.heap.size,0,none⟩ (ZU c.id)).setCell ⟨w.heap.size,1,none⟩ (ZI c.cls)).setCell ⟨w.heap.size,2,none⟩ (ZI c.len)).setCell ⟨w.heap.size,3,none⟩ (ZU c.at_)).setCell ⟨w.heap.size,4,none⟩ (.int .u8 rule)).setCell ⟨w.heap.size,5,none⟩ (ZU d.dueAt));rw[←z]at TB aa⊢;clear z;obtain⟨r0,r1,r2,r3,r4,r5⟩:=Lf TB.o;refine bodyPost_ret (v:=.agg #[ZU c.id,ZI c.cls,ZI c.len,ZU c.at_,.int .u8 rule,ZU d.dueAt]) (by rw[Lv (p:=6) (ty:=70) (by kernel_rfl)];go_simp;try rfl) rfl ?_;rw[R.o];refine⟨rfl,?_⟩;rw[bl.o,ag.o,←bj.o];have e:=ac.o;subst e;exact aa.o
  ·have b5:decide ((rule:Int)=1)=false:=by simp;omega
   have b6:((rule:Int)==1)=false:=by simp;omega
   have aq:=O (R.o.trans (by rw[if_neg ax]));clear ax;go_wp2_with fail;rw[←I];clear I z0 U R;have R:=aq;obtain⟨V,hV⟩:=Zx W6;rw[←hV]at T6 T8 ai a5 H6 bc B CN E a8⊢;clear hV;have K:=B.o;have ae:=T6;have au:=T8;have ah:=ai;have ar:=a5;have aj:=bc;have bd:=CN;have an:=O K;have ap:=O E;have bh:Hi ((s.aR {l with q:=l.q.tail,debt:=some (d.serve rule c.len nx.len)}).leaf id=some {l with q:=l.q.tail,debt:=some (d.serve rule c.len nx.len)}):=O (Oz HL.o bi.o);clear K E;obtain⟨z0,U⟩:=Q4 an.o.drew;obtain⟨g0,g1,g2,g3⟩:=X9 au.o.drew;obtain⟨k0,k1,k2,k3⟩:=X9 ar.o.drew;refine ZB [0,1,2,3,4,5,6,7,8,209] ?_;simp only[Z8,Zf,Ze,Zd];iterate 9 (refine Jq (h:=?_))
   clear z0 U g0 g1 g2 g3 k0 k1 k2 k3;refine J7 ?_;go_wp2_with fail;refine Zz (ap.o _ (Zg Qb V).drew) ?_;rintro w7⟨h7,c7,av⟩;have H7:=O (show Qi A w7 (Qn (Qn F W w2) V w7) b (s.aR {l with q:=l.q.tail,debt:=some (d.serve rule c.len nx.len)}) by
    rw[←Rz (s:=s) (l1:={l with q:=l.q.tail}) (l2:={l with q:=l.q.tail,debt:=some (d.serve rule c.len nx.len)}) rfl];exact h7)
   have C7:=O c7;have al:=O av;have bk:=O (H7.o.noteDebt bh.o al.o rfl (HP.o.row_len OK.o));clear h7 c7 av;go_wp2_with fail;refine Jo ?_;go_wp2_with fail;obtain⟨a0,a1,a2,a3,a4⟩:=Ym H7.o.drew.blk;obtain⟨z0,U⟩:=Q4 al.o.drew;refine ZB [0,1,2,3,4,5,6,7,8,209] ?_;simp only[Z8,Zf,Ze,Zd];iterate 9 (refine Jq (h:=?_))
   clear a0 a1 a2 a3 a4 z0 U;refine J7 ?_;go_wp2_with fail;refine Zz (bk.o _ (Zg Qb w7).drew) ?_;rintro w8⟨h8,c8⟩;obtain⟨m1,m2⟩:=(Qi.obj A).two h8 aj.o C7.o c8;have H8:=O m1;have C8:=O m2;clear h8 c8 m1 m2;go_wp2_with fail;refine Jo ?_;go_wp2_with fail;obtain⟨a0,a1,a2,a3,a4⟩:=Ym H8.o.drew.blk;obtain⟨g0,g1,g2,g3⟩:=X9 (Qc.blk C8.o.drew au.o N8.o);have q1:=J.o.1;have q2:=J.o.2;have ab:=O (H8.o.pickSent (dep:=Xk s.tree) OK.o.pick ao.o id (c.len*256).toNat (by omega) (Qhg l.q.tail));rw[show(((c.len*256).toNat:Nat):Int)=c.len*256 from by omega]at ab;refine ZB [0,1,2,3,4,5,6,7,8,9,210] ?_;simp only[Z8,Zf,Ze,Zd];iterate 10 (refine Jq (h:=?_))
   clear a0 a1 a2 a3 a4 g0 g1 g2 g3;refine J7 ?_;go_wp2_with fail;refine Zz (ab.o _ (Zg Qb w8).drew) ?_;rintro w9⟨h9,c9⟩;obtain⟨m1,m2⟩:=(Qi.obj A).two h9 aj.o C8.o c9;have H9:=O m1;have Z:=O m2;clear h9 c9 m1 m2 q1 q2;go_wp2_with fail;refine Jo ?_;obtain⟨t0,t1,t2,t3,t4,t5⟩:=Lf (Z.o.blk ah.o az.o);obtain⟨u0,u1,u2,u3,u4,u5⟩:=Lf (Z.o.blk ae.o N6.o);have fz:=(Z.o.blk ae.o N6.o).frozen;have aa:=O (ak.o V w9 ((((((w9.setCell ⟨w.heap.size,0,none⟩ (ZU c.id)).setCell ⟨w.heap.size,1,none⟩ (ZI c.cls)).setCell ⟨w.heap.size,2,none⟩ (ZI c.len)).setCell ⟨w.heap.size,3,none⟩ (ZU c.at_)).setCell ⟨w.heap.size,4,none⟩ (.int .u8 rule)).setCell ⟨w.heap.size,5,none⟩ (ZU (0:Int))) _ bd.o H9.o Z.o (by
    refine(((((((Zg (fun k=>k=w.heap.size) w9).setCell _ (.inl rfl)).setCell _ (.inl rfl)).setCell _ (.inl rfl)).setCell _ (.inl rfl)).setCell _ (.inl rfl)).setCell _ (.inl rfl))))
   have TB:Hi (Qh ((((((w9.setCell ⟨w.heap.size,0,none⟩ (ZU c.id)).setCell ⟨w.heap.size,1,none⟩ (ZI c.cls)).setCell ⟨w.heap.size,2,none⟩ (ZI c.len)).setCell ⟨w.heap.size,3,none⟩ (ZU c.at_)).setCell ⟨w.heap.size,4,none⟩ (.int .u8 rule)).setCell ⟨w.heap.size,5,none⟩ (ZU (0:Int))) w.heap.size #[ZU c.id,ZI c.cls,ZI c.len,ZU c.at_,.int .u8 rule,ZU (0:Int)] 70):=O (((((((Z.o.blk ae.o N6.o).set 0 _).set 1 _).set 2 _).set 3 _).set 4 _).set 5 _);go_wp2_with fail;clear t0 t1 t2 t3 t4 t5 u0 u1 u2 u3 u4 u5 fz;obtain⟨b1,z⟩:=Zx ((((((w9.setCell ⟨w.heap.size,0,none⟩ (ZU c.id)).setCell ⟨w.heap.size,1,none⟩ (ZI c.cls)).setCell ⟨w.heap.size,2,none⟩ (ZI c.len)).setCell ⟨w.heap.size,3,none⟩ (ZU c.at_)).setCell ⟨w.heap.size,4,none⟩ (.int .u8 rule)).setCell ⟨w.heap.size,5,none⟩ (ZU (0:Int)));rw[←z]at TB aa⊢;clear z;obtain⟨r0,r1,r2,r3,r4,r5⟩:=Lf TB.o;refine bodyPost_ret (v:=.agg #[ZU c.id,ZI c.cls,ZI c.len,ZU c.at_,.int .u8 rule,ZU (0:Int)]) (by rw[Lv (p:=6) (ty:=70) (by kernel_rfl)];go_simp;try rfl) rfl ?_;rw[R.o];refine⟨rfl,?_⟩;rw[bl.o,ag.o,←bj.o];have e:=ac.o;subst e;exact aa.o
end
end Go.Proofs.YtigcnnkagkbflaaGreat
