/- A part of the proof: no condition. -/
import Derived.Test.YtigcnnkagkbflaaGreatWf21
import Derived.OwnWalk
import Derived.Deep.MidRow
import Derived.Defers
import Derived.ArgAppend
namespace Go.Proofs.YtigcnnkagkbflaaGreat
set_option linter.unusedVariables false
set_option maxRecDepth 100000
set_option maxHeartbeats 4000000
open Go.RowKit
open Go.Proofs.Tryz
attribute [local go_sem] Qp
attribute [local irreducible] Kl J9 Xo
section
variable{A:Tb}{w w1 w2:World}{F:Fp}{b a:Nat}{s:Qf}{N:Nat}{l:Qw}
theorem Qcl(h:Qi A w F b s){q u:Nat}(c:Qh w q #[ptr b] 48)(now:Nat)(d:Qh w u #[ZU now] 22):
  ZW 52 #[ZP q,ZP u] w (.tuple #[ZI ((Jt now s.row).getD (0,0)).2,.bool (Jt now s.row).isSome]) fun w'=>Qc Qb w w':=by
 have k:Hi (ZW 53 #[ptr A.rb,ZU now] w.drew (.tuple #[ZI ((Jt now s.row).getD (0,0)).2,.bool (Jt now s.row).isSome]) fun w'=>Qc Qb w.drew w'):=O (by
  obtain⟨G,U,_⟩:=h.drew.rowOf;exact Qka U now)
 obtain⟨E,I,J,K,R⟩:=Ym h.drew.blk;have V:=Jf c.drew;have Z:=Jf d.drew;generalize((Jt now s.row).getD (0,0)).2=id at k⊢;generalize(Jt now s.row).isSome=ok at k⊢;clear h c d;go_enter func52,ntmps52;go_wp2_with fail;refine ZB [0,1,2,3,4,205,6,7,208,209] ?_;simp only[Z8,Zf,Ze,Zd];iterate 5 (refine Jq (h:=?_))
 clear E I J K R V Z;refine J7 ?_;go_wp2_with fail;refine Zy k ?_;intro w1 z;have B:Hi (Qc Qb w w1):=O ((Zg Qb w).drew.aA z);clear z;go_wp2_with fail;iterate 2 (refine Jq (h:=?_))
 refine J7 ?_;go_wp2_with fail;refine J7 ?_;go_wp2_with fail;refine Jo ?_;go_wp2;go_ret2;exact⟨rfl,B.o⟩
theorem Qbm(h:Qi A w F b s)(B:Xp N s){q u:Nat}(c:Qh w q #[ptr b] 48)(now:Nat)(d:Qh w u #[ZU now] 22):
  ZW 54 #[ZP q,ZP u] w (.tuple #[ZI ((s.pick.next now 10 0).getD 0),.bool (s.pick.next now 10 0).isSome]) fun w'=>Qc Qb w w':=by
 have k:Hi (ZW 55 #[ptr A.pb,ZU now] w.drew (.tuple #[ZI ((s.pick.next now 10 0).getD 0),.bool (s.pick.next now 10 0).isSome]) fun w'=>Qc Qb w.drew w'):=O (by
  obtain⟨G,⟨AP,V⟩,_⟩:=h.drew.pickOf;exact Qll V B.pick now)
 obtain⟨I,J,K,R,U⟩:=Ym h.drew.blk;have Z:=Jf c.drew;have x1:=Jf d.drew;generalize(s.pick.next now 10 0).getD 0=id at k⊢;generalize(s.pick.next now 10 0).isSome=kk at k⊢;clear h c d B;go_enter func54,ntmps54;go_wp2_with fail;refine ZB [0,1,2,3,4,205,6,7,208,209] ?_;simp only[Z8,Zf,Ze,Zd];iterate 5 (refine Jq (h:=?_))
 clear I J K R U Z x1;refine J7 ?_;go_wp2_with fail;refine Zy k ?_;intro w1 z;have E:Hi (Qc Qb w w1):=O ((Zg Qb w).drew.aA z);clear z;go_wp2_with fail;iterate 2 (refine Jq (h:=?_))
 refine J7 ?_;go_wp2_with fail;refine J7 ?_;go_wp2_with fail;refine Jo ?_;go_wp2;go_ret2;exact⟨rfl,E.o⟩
end
section
def Bq:Option ChM→Array Value
 |none=>chA Jr.zero 0 0
 |some c=>chA c.p c.rule c.due
theorem Qv3(v1 v2:Value)(w):(Instr.index 118 (.agg #[.nilFunc,v1,v2]) (ZI 0)).run prog w=.ok .nilFunc w:=by kernel_rfl
theorem Qv4(v1 v2:Value)(w):(Instr.index 118 (.agg #[.nilFunc,v1,v2]) (ZI 1)).run prog w=.ok v1 w:=by kernel_rfl
theorem Qv5(v1 v2:Value)(w):(Instr.index 118 (.agg #[.nilFunc,v1,v2]) (ZI 2)).run prog w=.ok v2 w:=by kernel_rfl
theorem Qv0(w):(binOp .eql 117 .nilFunc .nilFunc).run prog w=.ok (.bool true) w:=by kernel_rfl
theorem Qv1(c:Array Value)(w):(binOp .eql 117 (.func (.func (52)) #[] c) .nilFunc).run prog w=.ok (.bool false) w:=by kernel_rfl
theorem Qv2(c:Array Value)(w):(binOp .eql 117 (.func (.func (54)) #[] c) .nilFunc).run prog w=.ok (.bool false) w:=by kernel_rfl
attribute [local go_sem] Qv3 Qv4 Qv5
attribute [local go_sem ↓] Qv0 Qv1 Qv2
section
variable{A:Tb}{w w1 w2:World}{F:Fp}{b a:Nat}{s:Qf}{N:Nat}{l:Qw}
theorem Qpd{now:Nat}(c:Jt now s.row=none)(d:s.pick.next now 10 0=none):s.next now=(none,s):=by unfold Qf.next Qf.who;rw[c,d];rfl
theorem Qr6{now:Nat}{x:Nat×Int}(c:Jt now s.row=some x):s.who now=some (x.2,1)∧s.next now=(some (s.aX x.2 1),s.take x.2 1):=by
 have e:s.who now=some (x.2,1):=by unfold Qf.who;rw[c]
 exact⟨e,by unfold Qf.next;rw[e]⟩
theorem Qpe{now:Nat}{i:Int}(c:Jt now s.row=none)(d:s.pick.next now 10 0=some i):s.who now=some (i,2)∧s.next now=(some (s.aX i 2),s.take i 2):=by
 have e:s.who now=some (i,2):=by unfold Qf.who;rw[c,d];rfl
 exact⟨e,by unfold Qf.next;rw[e]⟩
theorem Pg(h:Qt w F b s)(ok:Xp N s)(hN:N<549755813000)(now:Nat):
  ZW 25 #[ptr b,ZU now] w (.tuple #[.agg (Bq (s.next now).1),.bool (s.next now).1.isSome]) fun w'=>Qt w' (Qn F w w') b (s.next now).2∧Qc F w w':=by
 obtain⟨A,h⟩:=h;have ah:=(Qi.obj A).bd h;obtain⟨W,hW⟩:=Zx (((w.alloc (.cells #[ZP b] 48)).alloc (.cells #[ZU now] 22)).alloc (.cells ZK 70));have C0:Hi (Qc Qb w W):=O (by rw[hW];exact(((Zg _ _).alloc _).alloc _).alloc _);have B2:Hi (Qh W w.heap.size #[ZP b] 48):=O (by rw[hW];exact((Qh.new _ _ _).alloc _).alloc _);have B3:Hi (Qh W (w.heap.size+1) #[ZU now] 22):=O (by rw[hW];exact(Qh.new' _ _ (by simp)).alloc _);have B4:Hi (Qh W (w.heap.size+1+1) ZK 70):=O (by rw[hW];exact Qh.new' _ _ (by simp));have hP:=(Qi.obj A).aB h C0.o (Jl.none F);have HN:=O (Ku hP ok.most.1);have N4:Hi (¬F (w.heap.size+1+1)):=O (fun q=>by have:=ah _ q;omega);have HP:=O hP;have OK:=O ok;have ai:=O ah;have al:=O hN;have aj:=O (fun w'(c:Qc Qb W w')=>Qcl ((Qi.obj A).aB HP.o c (Jl.none F)) (c.blk B2.o (fun h=>h)) now (c.blk B3.o (fun h=>h)));have af:=O (fun w'(c:Qc Qb W w')=>Qbm ((Qi.obj A).aB HP.o c (Jl.none F)) ok (c.blk B2.o (fun h=>h)) now (c.blk B3.o (fun h=>h)));have x0:=Jf (hW▸B2.o);have ab:Hi (∀w5 i(r:Nat),r<256→s.who now=some (i,r)→Qc Qb W w5→ZW 56 #[ptr b,ZI i,.int .u8 r] w5 (.agg (chA (s.aX i r).p (s.aX i r).rule (s.aX i r).due)) fun w6=>∃V,(storeCells ⟨w.heap.size+1+1,0,none⟩ (chA (s.aX i r).p (s.aX i r).rule (s.aX i r).due).toList 0).run prog w6=.ok () V∧Qh V (w.heap.size+1+1) (chA (s.aX i r).p (s.aX i r).rule (s.aX i r).due) 70∧Qt V (Qn F w V) b (s.take i r)∧Qc F w V):=O (fun w5 i r hr hw I=>by
  obtain⟨l,hl,_⟩:=OK.o.who hw;refine Zz (Qme ⟨A,(Qi.obj A).aB HP.o I (Jl.none F)⟩ ok hN hl r hr) ?_;rintro w6⟨h6,c6⟩;refine⟨rfl,?_⟩;have z0:=C0.o.size;have z5:=I.size;have z6:=c6.size;have z4:=B4.o.lt;have ak:=c6.blk (I.blk B4.o (fun h=>h)) N4.o;obtain⟨V,r7,J,c7⟩:=Q0 (P:=prog) (vs:=chA (s.aX i r).p (s.aX i r).rule (s.aX i r).due) ak rfl (Iy _ _ _);have z7:=c7.size;have cc:Qc F w V:=((C0.o.none (F:=F)).aA ((I.none (F:=F)).aA c6)).trans c7 (fun k e=>.inr (by omega));refine⟨V,r7,J,Qt.obj.more (Qt.obj.aB h6 c7 (fun k q e=>?_)) (fun k q=>?_) (ai.o.ext cc),cc⟩
  ·subst e;rcases q with q|q;·exact N4.o q
   ·omega
  ·rcases q with q|q;·exact .inl q
   ·exact .inr (by omega))
 clear h ah ok hP hN;go_enter func25,ntmps25;go_wp2_with fail;rw[←hW]at x0⊢;clear hW;refine Zy HN ?_;rintro w1 rfl;go_wp2_with fail;go_loopw [16] (fun i wr=>∃k:Nat,i=ZI k∧k≤3∧(2≤k→Jt now s.row=none)∧(3≤k→s.pick.next now 10 0=none)∧Qc Qb W wr) (fun i _=>3-(intOf i).toNat);case atStart=>exact⟨0,rfl,by omega,by omega,by omega,Zg _ _⟩
 case round=>
  obtain⟨k,rfl,q,h1,h2,hw⟩:=hrel;have HC:=O hw;clear hw;by_cases k0:k=0
  ·subst k0;clear q h1 h2;have e0:((0:Nat):Int)=0:=rfl;go_wp2_with fail;go_roundw;case measure=>simp only[intOf];omega
   case rel=>exact⟨1,by rfl,by omega,by omega,by omega,HC.o⟩
  by_cases k1:k=1
  ·subst k1;clear q h1 h2;have U:=O (aj.o wr HC.o);cases d:Jt now s.row with
   |none=>
    rw[d]at U;have R:=O d;clear d;dsimp only[Option.getD_none,Option.isSome_none]at U;go_wp2_with fail;refine Zy U ?_;intro w5 I;have C5:=O (HC.o.aA I);clear I;go_wp2_with fail;go_roundw;case measure=>simp only[intOf];omega
    case rel=>exact⟨2,by rfl,by omega,fun _=>by first|exact R.o|trivial,by omega,C5.o⟩
   |some x=> rw[d]at U;have R:=O d;clear d;dsimp only[Option.getD_some,Option.isSome_some]at U;go_wp2_with fail;refine Zy U ?_;intro w5 I;have C5:=O (HC.o.aA I);clear I;obtain⟨E,B⟩:=Qr6 R.o;have HT:=O (ab.o w5 _ 1 (by decide) E C5.o);have z:=O B;clear E B;have y0:=Jf (C5.o.blk B2.o (fun h=>h));go_wp2_with fail;refine Zy HT ?_;rintro w6⟨V,r7,J,h7,c7⟩;have Z:=O (Zt h7 c7);have TB:=O J;clear h7 c7 y0 J;obtain⟨ch,K⟩:=Zx (s.aX x.2 1);rw[←K]at r7 TB⊢;have ae:=O K;clear K;go_wp2_with fail;clear r7;obtain⟨cp,cr,cd⟩:=ch;obtain⟨r0,r1,r2,r3,r4,r5⟩:=Lf (show Qh V _ #[ZU cp.id,ZI cp.cls,ZI cp.len,ZU cp.at_,.int .u8 cr,ZU cd] _ from TB.o);refine bodyPost_ret (v:=.tuple #[.agg (chA cp cr cd),.bool true]) (by rw[results_cell_tmp (p:=4) (u:=5) (ty:=70) (by kernel_rfl)];go_simp;rfl) rfl ?_;exact⟨by rw[z.o,←ae.o];rfl,by rw[z.o];exact Z.o⟩
  by_cases k2:k=2
  ·subst k2;have R:=O (h1 (by omega));clear q h1 h2;have U:=O (af.o wr HC.o);cases d:s.pick.next now 10 0 with
   |none=>
    rw[d]at U;have ag:=O d;clear d;dsimp only[Option.getD_none,Option.isSome_none]at U;go_wp2_with fail;refine Zy U ?_;intro w5 I;have C5:=O (HC.o.aA I);clear I;go_wp2_with fail;go_roundw;case measure=>simp only[intOf];omega
    case rel=>exact⟨3,by rfl,by omega,fun _=>by first|exact R.o|trivial,fun _=>by first|exact ag.o|trivial,C5.o⟩
   |some x=> rw[d]at U;have ag:=O d;clear d;dsimp only[Option.getD_some,Option.isSome_some]at U;go_wp2_with fail;refine Zy U ?_;intro w5 I;have C5:=O (HC.o.aA I);clear I;obtain⟨E,B⟩:=Qpe R.o ag.o;have HT:=O (ab.o w5 _ 2 (by decide) E C5.o);have z:=O B;clear E B;have y0:=Jf (C5.o.blk B2.o (fun h=>h));go_wp2_with fail;refine Zy HT ?_;rintro w6⟨V,r7,J,h7,c7⟩;have Z:=O (Zt h7 c7);have TB:=O J;clear h7 c7 y0 J;obtain⟨ch,K⟩:=Zx (s.aX x 2);rw[←K]at r7 TB⊢;have ae:=O K;clear K;go_wp2_with fail;clear r7;obtain⟨cp,cr,cd⟩:=ch;obtain⟨r0,r1,r2,r3,r4,r5⟩:=Lf (show Qh V _ #[ZU cp.id,ZI cp.cls,ZI cp.len,ZU cp.at_,.int .u8 cr,ZU cd] _ from TB.o);refine bodyPost_ret (v:=.tuple #[.agg (chA cp cr cd),.bool true]) (by rw[results_cell_tmp (p:=4) (u:=5) (ty:=70) (by kernel_rfl)];go_simp;rfl) rfl ?_;exact⟨by rw[z.o,←ae.o];rfl,by rw[z.o];exact Z.o⟩
  have k3:k=3:=by omega
  subst k3;have B:=Qpd (h1 (by omega)) (h2 (by omega));have z:=O B;clear h1 h2 q B k0 k1 k2;have hB:=HC.o.blk B4.o (fun h=>h);obtain⟨t0,t1,t2,t3,t4,t5⟩:=Lf hB;have fz:=hB.frozen;go_wp2_with fail;have CF:Qc (fun k=>k=w.heap.size+1+1) wr ((((((wr.setCell ⟨w.heap.size+1+1,0,none⟩ (ZU 0)).setCell ⟨w.heap.size+1+1,1,none⟩ (ZI 0)).setCell ⟨w.heap.size+1+1,2,none⟩ (ZI 0)).setCell ⟨w.heap.size+1+1,3,none⟩ (ZU 0)).setCell ⟨w.heap.size+1+1,4,none⟩ (.int .u8 0)).setCell ⟨w.heap.size+1+1,5,none⟩ (ZU 0)):=((((((Zg (fun k=>k=w.heap.size+1+1) wr).setCell _ (.inl rfl)).setCell _ (.inl rfl)).setCell _ (.inl rfl)).setCell _ (.inl rfl)).setCell _ (.inl rfl)).setCell _ (.inl rfl);have TB:Qh ((((((wr.setCell ⟨w.heap.size+1+1,0,none⟩ (ZU 0)).setCell ⟨w.heap.size+1+1,1,none⟩ (ZI 0)).setCell ⟨w.heap.size+1+1,2,none⟩ (ZI 0)).setCell ⟨w.heap.size+1+1,3,none⟩ (ZU 0)).setCell ⟨w.heap.size+1+1,4,none⟩ (.int .u8 0)).setCell ⟨w.heap.size+1+1,5,none⟩ (ZU 0)) (w.heap.size+1+1) ZK 70:=(((((hB.set 0 _).set 1 _).set 2 _).set 3 _).set 4 _).set 5 _;obtain⟨aa,ac⟩:=Zx (((((((wr.setCell ⟨w.heap.size+1+1,0,none⟩ (ZU 0)).setCell ⟨w.heap.size+1+1,1,none⟩ (ZI 0)).setCell ⟨w.heap.size+1+1,2,none⟩ (ZI 0)).setCell ⟨w.heap.size+1+1,3,none⟩ (ZU 0)).setCell ⟨w.heap.size+1+1,4,none⟩ (.int .u8 0)).setCell ⟨w.heap.size+1+1,5,none⟩ (ZU 0)));rw[←ac]at CF TB⊢;clear ac t0 t1 t2 t3 t4 t5 fz hB;have cc:Qc F w aa:=((C0.o.aA HC.o).none (F:=F)).trans CF (fun k e=>.inr (by omega));have Z:Hi (Qt aa (Qn F w aa) b s∧Qc F w aa):=O (⟨Qt.obj.more ⟨A,(Qi.obj A).aB ((Qi.obj A).aB HP.o HC.o (Jl.none F)) CF (fun k q e=>N4.o (e▸q))⟩ (fun k q=>.inl q) (ai.o.ext cc),cc⟩);clear CF cc;obtain⟨r0,r1,r2,r3,r4,r5⟩:=Lf TB;refine bodyPost_ret (v:=.tuple #[.agg ZK,.bool false]) (by rw[results_cell_tmp (p:=4) (u:=5) (ty:=70) (by kernel_rfl)];go_simp;try rfl) rfl ?_;exact⟨by rw[z.o];rfl,by rw[z.o];exact Z.o⟩
end
end
section
variable{A:Tb}{w:World}{F:Fp}{b:Nat}{s:Qf}{N:Nat}
end
theorem Qgv{w}{F:Fp}{v:Value}{o:Option Ju}(h:Kv w F v o)(I:∀d,o=some d→d.run.l.length<549755813888):
  Cl 74 #[v] w fun e w'=>∃c,e=.returned c∧Kv w' (Qn Qb w w') c o∧Qc Qb w w':=by
 cases o with
 |none=> obtain⟨rfl,_⟩:=h;have q:=O (Zg Qb w);go_enter func74,ntmps74;go_wp2;go_ret;exact⟨_,rfl,⟨rfl,fun k E=>E.elim (fun h=>h.elim) (fun h=>h.2)⟩,q.o⟩
 |some d=> obtain⟨b,rfl,B⟩:=h;refine(Qj5 B (I d rfl)).mono ?_;rintro e w'⟨b',rfl,z,u⟩;exact⟨_,rfl,⟨b',rfl,z⟩,u⟩
section
variable{A:Tb}{w:World}{F:Fp}{b:Nat}{s:Qf}{N:Nat}
theorem Qi.perm(h:Qi A w F b s){s':Qf}(c:s'.most=s.most)(d:s'.tree=s.tree)(k:s'.row=s.row)(q:s'.pick=s.pick)(z:s.aI.Perm s'.aI):Qi A w F b s':=by
 obtain⟨L,u,B⟩:=h;refine⟨L,u.trans z,?_⟩;have:Lw A b L s'=Lw A b L s:=by unfold Lw Qfq;rw[c,d,k,q]
 rw[this];exact B
theorem Qi.fresh{w0 w4 w5:World}{V m rb R q:Nat}{s:Qf}{B u z:Fp}(hT:Q9 w4 B V s.tree)(hM:Xq w4 m [])(hE:Yq w4 u rb s.row)(hP:Yr w4 z R s.pick)
  (g1:∀k,B k→w0.heap.size≤k∧k<w4.heap.size)(gm:w0.heap.size≤m)(J:∀k,u k→w0.heap.size≤k∧k<w4.heap.size)(K:∀k,z k→w0.heap.size≤k∧k<w4.heap.size)
  (ab:¬B m)(ae:¬u m)(af:¬z m)(Z:Jl B u)(aa:Jl B z)(ac:Jl u z)(d:Qc Qb w4 w5)(hB:Qh w5 q #[ZI s.most,ptr V,.map (some m),ptr rb,ptr R] 97)(hq:w4.heap.size≤q)(ag:w0.heap.size≤w4.heap.size):
  Qi ⟨V,m,rb,R,fun _=>0⟩ w5 (fun k=>w0.heap.size≤k∧k<w5.heap.size) q {s with aI:=[]}:=by
 have s4:=d.size;have s5:=hB.lt;have ah:=hM.lt;refine⟨[],List.Perm.refl _,?_⟩;have t5:Q9 w5 B V s.tree:=Q9.obj.aB hT d (Jl.none _);have m5:Xq w5 m []:=hM.aB d (fun h=>h);have e5:Yq w5 u rb s.row:=Yq.obj.aB hE d (Jl.none _);have p5:Yr w5 z R s.pick:=Yr.obj.aB hP d (Jl.none _);have E:∀{U:Fp},(∀k,U k→w0.heap.size≤k∧k<w4.heap.size)→Bd U w5:=fun h k c=>Nat.lt_of_lt_of_le (h k c).2 s4;refine Q7 (G:=fun k=>k=q) (H:=fun k=>B k∨k=m∨u k∨z k) ⟨hB,rfl,fun k e=>e▸s5⟩ ?_ ?_ (fun k e=>by omega) ?_ (fun k c=>c.2)
 ·refine Q7 (G:=B) (H:=fun k=>k=m∨u k∨z k) t5 ?_ ?_ (fun k c=>.inl c) (fun k c=>.inr c) ?_
  ·refine Q7 (G:=fun k=>k=m) (H:=fun k=>u k∨z k) (Yn.new m5 (fun k e=>by rw[e];exact m5.lt) rfl) ?_ ?_ (fun k c=>.inl c) (fun k c=>.inr c) ?_;·refine Q7 (G:=u) (H:=z) e5 (Y6 p5 (Yr.obj.bd p5)) ac (fun k c=>.inl c) (fun k c=>.inr c) ?_;exact fun k c=>c.elim (E J k) (E K k)
   ·rintro k rfl(c|c);·exact ae c
    ·exact af c
   ·rintro k(rfl|c|c);·omega
    ·exact E J k c
    ·exact E K k c
  ·rintro k c(rfl|I|I);·exact ab c
   ·exact Z k c I
   ·exact aa k c I
  ·rintro k(c|rfl|c|c);·exact E g1 k c
   ·omega
   ·exact E J k c
   ·exact E K k c
 ·rintro k rfl(c|c|c|c);·have:=g1 k c;omega
  ·omega
  ·have:=J k c;omega
  ·have:=K k c;omega
 ·rintro k(c|rfl|c|c);·have:=g1 k c;omega
  ·omega
  ·have:=J k c;omega
  ·have:=K k c;omega
structure Qgb(A:Tb)(w:World)(s:Qf)(l:List Qw)(q r:Nat)(wr:World)(lm dn:List Qw):Prop where
 it:Kj wr A.m r (Xy Qw.id A.ad l) (Xy Qw.id A.ad lm)
 sub:lm.Sublist l
 perm:(dn++lm).Perm l
 chg:Qc Qb w wr
 co:∃(A':Tb)(G:Fp),Qi A' wr G q {s with aI:=dn}∧(∀k,G k→w.heap.size≤k∧k≠r)
 nr:w.heap.size≤r
theorem Qgb.step{l:List Qw}{q r:Nat}{wr}{V u:List Qw}(h:Qgb A w s l q r wr V u){Z:Tb}{G:Fp}(hA:Qi Z wr G q {s with aI:=u})(I:∀k,G k→w.heap.size≤k∧k≠r)(J:(l.map Qw.id).Nodup){x:Qw}(hx:x∈V){w2 w3 w4 w5}
  (d:Kj w2 A.m r (Xy Qw.id A.ad l) (Vu x.id (Xy Qw.id A.ad V))) (z:Qc (fun k=>k=r) wr w2) {qb rb:Nat} {dv:Value} (hq:Jz w3 qb rb x.pk x.bt x.q) (ae:w2.heap.size≤qb∧qb<w3.heap.size) (af:w2.heap.size≤rb∧rb<w3.heap.size)
  (c3:Qc Qb w2 w3) (hd:Kv w4 (Qn Qb w3 w4) dv x.debt) (c4:Qc Qb w3 w4) (R:w5=w4.alloc (.cells #[ptr qb,dv] 107)) (aj:A.m<w.heap.size):
  ∃w6,(Instr.mapUpdate 93 (.map (some Z.m)) (ZI x.id) (ZP w4.heap.size)).run prog w5=.ok () w6∧
   Qgb A w s l q r w6 (Kp Qw.id x.id V) (u++[x])∧Dq w6 r<Dq wr r:=by
 have s1:=h.chg.size;have s2:=z.size;have s3:=c3.size;have s4:=c4.size;have B:Qc Qb w4 w5:=by rw[R];exact(Zg _ _).alloc _
 have ab:Qh w5 w4.heap.size #[ptr qb,dv] 107:=by rw[R];exact Qh.new _ _ _
 have ah:r<w2.heap.size:=by obtain⟨o2,h2,_⟩:=d.walk;exact(Z2.1 h2).1
 have E:=(Qi.obj Z).aB hA z (fun k c e=>(I k c).2 e);have aa:Qc Qb w2 w5:=(c3.aA c4).aA B;have hL:Yj w5 (Qn Qb w2 w5) w4.heap.size x:=Yj.made (w:=w2) (w1:=w2) (Zg _ _) hq ae af c4 hd B ab (Zv _);have hn:Qf.leaf {s with aI:=u} x.id=none:=by
  show Hn Qw.id x.id u=none;cases ac:Hn Qw.id x.id u with
  |none=>rfl
  |some y=> obtain⟨hy,ag⟩:=Y3 ac;have hn:=((h.perm.map Qw.id).nodup_iff).2 J;rw[List.map_append,List.nodup_append]at hn;exact absurd ag (hn.2.2 _ (Z3.2 ⟨y,hy,rfl⟩) _ (Z3.2 ⟨x,hx,rfl⟩))
 obtain⟨w6,r6,h6,c6⟩:=E.newLeaf hn aa hL;have s6:=c6.size;have ai:∀k,G k→k<w2.heap.size:=(Qi.obj Z).bd E;have U:Kj w6 A.m r (Xy Qw.id A.ad l) (Vu x.id (Xy Qw.id A.ad V)):=d.aB c6 (fun c=>by have:=(I _ c).1;omega) (fun c=>(I r c).2 rfl);have K:=O8 (key:=Qw.id) (J.sublist (h.sub.map Qw.id)) hx;refine⟨w6,r6,⟨?_,List.filter_sublist.trans h.sub,?_,?_,⟨_,_,h6,fun k c=>?_⟩,h.nr⟩,?_⟩;·rw[←Hr];exact U
 ·refine List.Perm.trans ?_ h.perm;rw[List.append_assoc];exact List.Perm.append_left u K.symm
 ·exact(h.chg.trans z (fun k e=>.inr (by rw[e];exact h.nr))).trans c6 (fun k c=>.inr (I k c).1)
 ·rcases c with c|c;·exact I k c
  ·exact⟨by omega,by omega⟩
 ·rw[U.left_eq,h.it.left_eq,Hr];have:=K.length_eq;simp only[Xy,List.length_map,Zm]at*;omega
theorem Qmc(h:Qi A w F b s)(ok:Xp N s)(hN:N<549755813000):
  Cl 40 #[ptr b] w fun e w'=>∃b',e=.returned (ptr b')∧Qt w' (Qn Qb w w') b' s∧Qc Qb w w':=by
 have HH:=O h;have a9:=(Qi.obj A).bd h;have HN:=O (Ku h ok.most.1);obtain⟨L,hp,Gc,hC,ba,_⟩:=h.collOf;have be:A.m<w.heap.size:=a9 _ (ba _ hC.at_);have bi:=O be;have aq:=O hC.nodup;have HP:=O hp;have HC:=O (fun w'(c:Qc Qb w w')=>hC.map.aB c (fun h=>h));obtain⟨Gt,ht,_⟩:=h.treeOf;obtain⟨Gr,hr,_⟩:=h.rowOf;obtain⟨Gp,⟨AP,bf⟩,_⟩:=h.pickOf;have HT:=O (fun w'(c:Qc Qb w w')=>Ww (Q9.obj.aB ht c (Jl.none _)) (by have:=ok.tree.many;omega));have HE:=O (fun w'(c:Qc Qb w w')=>Qj8 (Yq.obj.aB hr c (Jl.none _)));have aj:=O (fun w'(c:Qc Qb w w')=>Qli ((Qo.obj AP).aB bf c (Jl.none _)) ok.pick (by omega));have HB:=O (fun w'(c:Qc Qb w w')=>c.blk h.blk (fun h=>h));have bj:=O ok.ok;have bv:=@run_makeMap prog;have C0:=O (Zg Qb w).drew;obtain⟨a0,a1,a2,a3,a4⟩:=Ym h.drew.blk;have ab:Hi (∀w4 tb m rb pb l1 h1 l2 h2 l3 h3,Qc Qb w w4→Q9 w4 (fun k=>l1≤k∧k<h1) tb s.tree→Xq w4 m []→Yq w4 (fun k=>l2≤k∧k<h2) rb s.row→Yr w4 (fun k=>l3≤k∧k<h3) pb s.pick→w.heap.size≤l1∧h1≤w4.heap.size∧w.heap.size≤m∧w.heap.size≤l2∧h2≤w4.heap.size∧w.heap.size≤l3∧h3≤w4.heap.size→(m<l1∨h1≤m)∧(m<l2∨h2≤m)∧(m<l3∨h3≤m)∧(h1≤l2∨h2≤l1)∧(h1≤l3∨h3≤l1)∧(h2≤l3∨h3≤l2)→
   ∃A',Qi A' (w4.alloc (.cells #[ZI s.most,ptr tb,.map (some m),ptr rb,ptr pb] 97)) (fun k=>w.heap.size≤k∧k<(w4.alloc (.cells #[ZI s.most,ptr tb,.map (some m),ptr rb,ptr pb] 97)).heap.size) w4.heap.size {s with aI:=[]}∧Qc Qb w (w4.alloc (.cells #[ZI s.most,ptr tb,.map (some m),ptr rb,ptr pb] 97))):=O (by
  intro w4 tb m rb pb l1 h1 l2 h2 l3 h3 a6 hT hM hE hP hb hd;have a7:Qc Qb w4 (w4.alloc (.cells #[ZI s.most,ptr tb,.map (some m),ptr rb,ptr pb] 97)):=(Zg _ _).alloc _;exact⟨_,Qi.fresh hT hM hE hP (fun k u=>by omega) (by omega) (fun k u=>by omega) (fun k u=>by omega) (fun u=>by omega) (fun u=>by omega) (fun u=>by omega) (fun k x y=>by omega) (fun k x y=>by omega) (fun k x y=>by omega) a7 (Qh.new _ _ _) (Zv _) a6.size,a6.aA a7⟩)
 have am:Hi (∀wa wb wc b',Q9 wb (Qn Qb wa wb) b' s.tree→Qc Qb wb wc→Q9 wc (fun k=>wa.heap.size≤k∧k<wb.heap.size) b' s.tree):=O (fun wa wb wc b' h c=>Q9.obj.aB (Q9.obj.more h (fun k u=>(Qr k).1 u) (fun k u=>u.2)) c (Jl.none _));have ak:Hi (∀wa wb wc b',Yq wb (Qn Qb wa wb) b' s.row→Qc Qb wb wc→Yq wc (fun k=>wa.heap.size≤k∧k<wb.heap.size) b' s.row):=O (fun wa wb wc b' h c=>Yq.obj.aB (Yq.obj.more h (fun k u=>(Qr k).1 u) (fun k u=>u.2)) c (Jl.none _));have al:Hi (∀wa wb wc b',Yr wb (Qn Qb wa wb) b' s.pick→Qc Qb wb wc→Yr wc (fun k=>wa.heap.size≤k∧k<wb.heap.size) b' s.pick):=O (fun wa wb wc b' h c=>Yr.obj.aB (Yr.obj.more h (fun k u=>(Qr k).1 u) (fun k u=>u.2)) c (Jl.none _));clear h ok hp hC ba ht hr bf a9 be;go_enter func40,ntmps40;go_wp2_with fail;refine Zy HN ?_;rintro w1 rfl;go_wp2_with fail;go_cut [3] (fun s3 wz=>∃q A',s3=ZP q∧w.heap.size≤q∧Qi A' wz (fun k=>w.heap.size≤k∧k<wz.heap.size) q {s with aI:=[]}∧Qc Qb w wz)
 case first=>
  refine Ui (.lookp 0 (.lookp 1 (.lookp 2 (.lookp 3 (.lookp 4 (.lookp 5 (.lookp 6 (.lookp 7 (.lookp 10 (.lookp 11 (.lookp 12 (.lookp 13 (.lookp 15 (.lookp 16 (.lookp 17 (.lookp 18 (.fork 8 (.fork 9 (.walk 14 (.walk 19 (.look 20 (.walk 21 (.walk 22 .nil))))) 14 (.fork 9 (.walk 19 (.look 20 (.walk 21 (.walk 22 .nil)))) 19 (.walk 9 (.look 20 (.walk 21 (.walk 22 .nil)))))) 9 (.walk 8 (.walk 14 (.walk 19 (.look 20 (.walk 21 (.walk 22 .nil))))))))))))))))))))))) (fun K=>Qc (Qb) (w) K) Zq (by kernel_rfl) (fun _ _ _ _ _ h=>h) Z0 ?_;simp only[O0,Zf,Ze,Zd];iterate 3 (first|refine Vd (h:=?_)|refine Xi (h:=?_);try simp only[Act.put,Za,Zc,Zb])
  iterate 1 (refine Xi (by kernel_rfl) (fun K U=>by(obtain⟨z0,z1,z2,z3,z4⟩:=Ym (HB.o K U));go_simp;try rfl) ?_;try simp only[Act.put,Za,Zc,Zb])
  iterate 3 (first|refine Vd (h:=?_)|refine Xi (h:=?_);try simp only[Act.put,Za,Zc,Zb])
  iterate 1 (refine Xi (by kernel_rfl) (fun K U=>by(obtain⟨z0,z1,z2,z3,z4⟩:=Ym (HB.o K U));go_simp;try rfl) ?_;try simp only[Act.put,Za,Zc,Zb])
  iterate 3 (first|refine Vd (h:=?_)|refine Xi (h:=?_);try simp only[Act.put,Za,Zc,Zb])
  iterate 1 (refine Xi (by kernel_rfl) (fun K U=>by(obtain⟨z0,z1,z2,z3,z4⟩:=Ym (HB.o K U));go_simp;try rfl) ?_;try simp only[Act.put,Za,Zc,Zb])
  iterate 3 (first|refine Vd (h:=?_)|refine Xi (h:=?_);try simp only[Act.put,Za,Zc,Zb])
  iterate 1 (refine Xi (by kernel_rfl) (fun K U=>by(obtain⟨z0,z1,z2,z3,z4⟩:=Ym (HB.o K U));go_simp;try rfl) ?_;try simp only[Act.put,Za,Zc,Zb])
  clear a0 a1 a2 a3 a4;refine Gn ?_ ?_
  ·go_wp2_with fail;refine(HT.o _ C0.o).mono ?_;rintro e w1⟨tb,rfl,hT,au⟩;have T0:=O hT;have E0:=O au;have D0:=O (C0.o.aA au);clear hT au;go_wp2_with fail;refine⟨D0.o,?_⟩;refine Gn ?_ ?_
   ·go_wp2_with fail;obtain⟨w2,ag⟩:=Zx (w1.alloc (.map #[] 0));have M1:Hi (Xq w2 w1.heap.size []):=O (by rw[ag];exact Xq.new w1);have E1:Hi (Qc Qb w1 w2):=O (by rw[ag];exact(Zg _ _).alloc _);have Z1:Hi (w2.heap.size=w1.heap.size+1):=O (by rw[ag];simp);have D1:=O (D0.o.aA E1.o);rw[←ag];clear ag;refine⟨D1.o,?_⟩;refine Xt ?_;go_wp2_with fail;refine(HE.o _ D1.o).mono ?_;rintro e w3⟨rb,rfl,hE,I⟩;have T2:=O hE;have R:=O I;have Z:=O (D1.o.aA I);clear hE I;go_wp2_with fail;refine⟨Z.o,?_⟩;refine Xt ?_;go_wp2_with fail;refine(aj.o _ Z.o).mono ?_;rintro e w4⟨pb,rfl,hP,J⟩;have T3:=O hP;have B:=O J;have E:=O (Z.o.aA J);clear hP J;go_wp2_with fail;refine⟨E.o,?_⟩;have FF:=O (ab.o w4 tb w1.heap.size rb pb w.drew.heap.size w1.heap.size w2.heap.size w3.heap.size w3.heap.size w4.heap.size E.o (am.o _ _ _ _ T0.o ((E1.o.aA R.o).aA B.o)) (M1.o.aB (R.o.aA B.o) (fun h=>h)) (ak.o _ _ _ _ T2.o B.o) (al.o _ _ _ _ T3.o (Zg _ _)) (by have s0:=E0.o.size;have s1:=E1.o.size;have s2:=R.o.size;have s3:=B.o.size;have z:=Z1.o;simp only[World.drew]at*;omega) (by have s0:=E0.o.size;have s1:=E1.o.size;have s2:=R.o.size;have s3:=B.o.size;have z:=Z1.o;simp only[World.drew]at*;omega));iterate 1 (first|refine Vd (h:=?_)|refine Xi (h:=?_);try simp only[Act.put,Za,Zc,Zb])
    refine Xt ?_;go_wp2_with fail;refine⟨E.o.alloc _,?_⟩;refine Xt ?_;go_wp2_with fail;refine⟨E.o.alloc _,?_⟩;refine U9 ?_;go_wp2_with fail;go_meet;obtain⟨A',f1,f2⟩:=FF.o;exact⟨w4.heap.size,A',rfl,by have:=E.o.size;omega,f1,f2⟩
   ·go_wp2_with fail;refine(HE.o _ D0.o).mono ?_;rintro e w2⟨rb,rfl,hE,aa⟩;have T1:=O hE;have E1:=O aa;have D1:=O (D0.o.aA aa);clear hE aa;go_wp2_with fail;refine⟨D1.o,?_⟩;refine Gn ?_ ?_
    ·go_wp2_with fail;obtain⟨w3,ah⟩:=Zx (w2.alloc (.map #[] 0));have M2:Hi (Xq w3 w2.heap.size []):=O (by rw[ah];exact Xq.new w2);have R:Hi (Qc Qb w2 w3):=O (by rw[ah];exact(Zg _ _).alloc _);have Z2:Hi (w3.heap.size=w2.heap.size+1):=O (by rw[ah];simp);have Z:=O (D1.o.aA R.o);rw[←ah];clear ah;refine⟨Z.o,?_⟩;refine Xt ?_;go_wp2_with fail;refine(aj.o _ Z.o).mono ?_;rintro e w4⟨pb,rfl,hP,J⟩;have T3:=O hP;have B:=O J;have E:=O (Z.o.aA J);clear hP J;go_wp2_with fail;refine⟨E.o,?_⟩;have FF:=O (ab.o w4 tb w2.heap.size rb pb w.drew.heap.size w1.heap.size w1.heap.size w2.heap.size w3.heap.size w4.heap.size E.o (am.o _ _ _ _ T0.o ((E1.o.aA R.o).aA B.o)) (M2.o.aB B.o (fun h=>h)) (ak.o _ _ _ _ T1.o (R.o.aA B.o)) (al.o _ _ _ _ T3.o (Zg _ _)) (by have s0:=E0.o.size;have s1:=E1.o.size;have s2:=R.o.size;have s3:=B.o.size;have z:=Z2.o;simp only[World.drew]at*;omega) (by have s0:=E0.o.size;have s1:=E1.o.size;have s2:=R.o.size;have s3:=B.o.size;have z:=Z2.o;simp only[World.drew]at*;omega));iterate 1 (first|refine Vd (h:=?_)|refine Xi (h:=?_);try simp only[Act.put,Za,Zc,Zb])
     refine Xt ?_;go_wp2_with fail;refine⟨E.o.alloc _,?_⟩;refine Xt ?_;go_wp2_with fail;refine⟨E.o.alloc _,?_⟩;refine U9 ?_;go_wp2_with fail;go_meet;obtain⟨A',f1,f2⟩:=FF.o;exact⟨w4.heap.size,A',rfl,by have:=E.o.size;omega,f1,f2⟩
    ·go_wp2_with fail;refine(aj.o _ D1.o).mono ?_;rintro e w3⟨pb,rfl,hP,I⟩;have T2:=O hP;have R:=O I;have Z:=O (D1.o.aA I);clear hP I;go_wp2_with fail;refine⟨Z.o,?_⟩;refine Xt ?_;go_wp2_with fail;obtain⟨w4,ai⟩:=Zx (w3.alloc (.map #[] 0));have M3:Hi (Xq w4 w3.heap.size []):=O (by rw[ai];exact Xq.new w3);have B:Hi (Qc Qb w3 w4):=O (by rw[ai];exact(Zg _ _).alloc _);have Z3:Hi (w4.heap.size=w3.heap.size+1):=O (by rw[ai];simp);have E:=O (Z.o.aA B.o);rw[←ai];clear ai;refine⟨E.o,?_⟩;have FF:=O (ab.o w4 tb w3.heap.size rb pb w.drew.heap.size w1.heap.size w1.heap.size w2.heap.size w2.heap.size w3.heap.size E.o (am.o _ _ _ _ T0.o ((E1.o.aA R.o).aA B.o)) (M3.o.aB (Zg Qb _) (fun h=>h)) (ak.o _ _ _ _ T1.o (R.o.aA B.o)) (al.o _ _ _ _ T2.o B.o) (by have s0:=E0.o.size;have s1:=E1.o.size;have s2:=R.o.size;have s3:=B.o.size;have z:=Z3.o;simp only[World.drew]at*;omega) (by have s0:=E0.o.size;have s1:=E1.o.size;have s2:=R.o.size;have s3:=B.o.size;have z:=Z3.o;simp only[World.drew]at*;omega));iterate 1 (first|refine Vd (h:=?_)|refine Xi (h:=?_);try simp only[Act.put,Za,Zc,Zb])
     refine Xt ?_;go_wp2_with fail;refine⟨E.o.alloc _,?_⟩;refine Xt ?_;go_wp2_with fail;refine⟨E.o.alloc _,?_⟩;refine U9 ?_;go_wp2_with fail;go_meet;obtain⟨A',f1,f2⟩:=FF.o;exact⟨w4.heap.size,A',rfl,by have:=E.o.size;omega,f1,f2⟩
  ·go_wp2_with fail;obtain⟨w1,af⟩:=Zx ((w.alloc (.map #[] 0)).drew);have M0:Hi (Xq w1 w.heap.size []):=O (by rw[af];exact(Xq.new w).aB (Zg Qb _).drew (fun h=>h));have E0:Hi (Qc Qb w w1):=O (by rw[af];exact((Zg _ _).alloc _).drew);have Z0:Hi (w1.heap.size=w.heap.size+1):=O (by rw[af];simp);have D0:=O E0.o;rw[←af];clear af;refine⟨D0.o,?_⟩;refine Xt ?_;go_wp2_with fail;refine(HT.o _ D0.o).mono ?_;rintro e w2⟨tb,rfl,hT,aa⟩;have T1:=O hT;have E1:=O aa;have D1:=O (D0.o.aA aa);clear hT aa;go_wp2_with fail;refine⟨D1.o,?_⟩;refine Xt ?_;go_wp2_with fail;refine(HE.o _ D1.o).mono ?_;rintro e w3⟨rb,rfl,hE,I⟩;have T2:=O hE;have R:=O I;have Z:=O (D1.o.aA I);clear hE I;go_wp2_with fail;refine⟨Z.o,?_⟩;refine Xt ?_;go_wp2_with fail;refine(aj.o _ Z.o).mono ?_;rintro e w4⟨pb,rfl,hP,J⟩;have T3:=O hP;have B:=O J;have E:=O (Z.o.aA J);clear hP J;go_wp2_with fail;refine⟨E.o,?_⟩;have FF:=O (ab.o w4 tb w.heap.size rb pb w1.heap.size w2.heap.size w2.heap.size w3.heap.size w3.heap.size w4.heap.size E.o (am.o _ _ _ _ T1.o (R.o.aA B.o)) (M0.o.aB ((E1.o.aA R.o).aA B.o) (fun h=>h)) (ak.o _ _ _ _ T2.o B.o) (al.o _ _ _ _ T3.o (Zg _ _)) (by have s0:=E0.o.size;have s1:=E1.o.size;have s2:=R.o.size;have s3:=B.o.size;have z:=Z0.o;simp only[World.drew]at*;omega) (by have s0:=E0.o.size;have s1:=E1.o.size;have s2:=R.o.size;have s3:=B.o.size;have z:=Z0.o;simp only[World.drew]at*;omega));iterate 1 (first|refine Vd (h:=?_)|refine Xi (h:=?_);try simp only[Act.put,Za,Zc,Zb])
   refine Xt ?_;go_wp2_with fail;refine⟨E.o.alloc _,?_⟩;refine Xt ?_;go_wp2_with fail;refine⟨E.o.alloc _,?_⟩;refine U9 ?_;go_wp2_with fail;go_meet;obtain⟨A',f1,f2⟩:=FF.o;exact⟨w4.heap.size,A',rfl,by have:=E.o.size;omega,f1,f2⟩
 case rest=>
  obtain⟨q,A1,rfl,hq,hS,c0⟩:=hcut;obtain⟨V,hV⟩:=Zx wc;rw[←hV]at hS c0⊢;clear hV a0 a1 a2 a3 a4;obtain⟨o,bs,bd⟩:=Er (P:=prog) (HC.o V c0) underlying93;have ar:Hi (∃lm dn,Qgb A w s L q V.heap.size (V.alloc o) lm dn):=O (by
   have cc:Qc Qb V (V.alloc o):=(Zg _ _).alloc _;exact⟨L,[],bd,List.Sublist.refl _,by simp,c0.aA cc,⟨A1,_,(Qi.obj A1).aB hS cc (Jl.none _),fun k u=>⟨u.1,by omega⟩⟩,c0.size⟩)
  obtain⟨z0,z1,z2,z3,z4⟩:=Ym (HB.o V c0);clear hS bd;go_wp2_with fail;clear bs z0 z1 z2 z3 z4;go_loopw [4,5] (fun _ _ wr=>∃lm dn,Qgb A w s L q V.heap.size wr lm dn) (fun _ _ wr=>Dq wr V.heap.size);case atStart=>exact ar.o
  case round=>
   obtain⟨lm,dn,PC⟩:=hrel;rcases Rx (P:=prog) PC.it 0 with⟨h0,hr⟩|⟨y,hy,w2,hr,ap,an,bc⟩
   ·have bo:lm=[]:=by
     cases lm with
     |nil=>rfl
     |cons a l=>cases h0
    subst bo;have ab:Hi (Qt wr (Qn Qb w wr) q s∧Qc Qb w wr):=O (by
     obtain⟨A2,G2,ac,ae⟩:=PC.co;have bp:dn.Perm L:=by simpa using PC.perm
     refine⟨⟨A2,(Qi.obj A2).more (ac.perm (s':=s) rfl rfl rfl rfl (bp.trans HP.o)) (fun k u=>(Qr k).2 ⟨(ae k u).1,(Qi.obj A2).bd ac k u⟩) (fun k u=>((Qr k).1 u).2)⟩,PC.chg⟩)
    clear PC;go_wp2_with fail;go_ret;exact⟨_,rfl,ab.o⟩
   ·obtain⟨x,hx,rfl⟩:=Z3.1 hy;have bg:=PC.sub.subset hx;have c2:Qc Qb w w2:=PC.chg.trans an (fun k e=>.inr (by rw[e];exact PC.nr));have h2:=(Qi.obj A).aB HH.o c2 (Jl.none F);have bm:s.leaf x.id=some x:=by rw[So HP.o aq.o];exact Ls (key:=Qw.id) aq.o bg rfl
    obtain⟨qb,dv,bb,⟨rq,hQ⟩,Gd,hD⟩:=h2.leafQ bm;obtain⟨pv,rfl⟩:=hD.ptr;obtain⟨A2,G2,ac,ae⟩:=PC.co;have ao:=(Qi.obj A2).aB ac an (fun k u e=>(ae k u).2 e);have ax:=O (fun w'(c:Qc Qb w2 w')=>c.blk bb (fun h=>h));have bk:=O (fun w'(c:Qc Qb w2 w')=>c.blk ao.blk (fun h=>h));have bl:=O (fun w'(c:Qc Qb w2 w')=>Qpo (hQ.aB c (fun h=>h) (fun h=>h)));have bh:=O (fun w'(c:Qc Qb w2 w')=>Qgv ((Kv.good _ _).aB hD c (Jl.none _)) (fun d hd=>by
     have:=((bj.o x (HP.o.mem_iff.1 bg)).debt d hd).2.1;omega))
    have a5:=O (fun w3 w4 w5 bu rb a8 hq bq br c3 hd c4 bt=>PC.step ac ae aq.o hx ap an (w3:=w3) (w4:=w4) (w5:=w5) (qb:=bu) (rb:=rb) (dv:=a8) hq bq br c3 hd c4 bt bi.o);have Z:=O (Zg Qb w2).drew;obtain⟨l0,l1⟩:=Q4 (ax.o _ Z.o);dsimp only at hr bc;clear PC ap an c2 h2 bb hQ hD ac ao ae hy;go_wp2_with fail;clear hr bc;refine ZC [100,101,102,103,104,5,6,7,8,110,111,112,113,209,214,15,216,317] (fun K=>Qc (Qb) (w2) K) ?_;simp only[Z8,Zf,Ze,Zd];iterate 3 (refine Qy (h:=?_);try simp only[Act.put,Za,Zc,Zb])
    iterate 1 (refine Qy (by kernel_rfl) (fun K U=>by(obtain⟨z0,z1,z2,z3,z4⟩:=Ym (bk.o K U));go_simp;try rfl) ?_;try simp only[Act.put,Za,Zc,Zb])
    (refine Qy (h:=?_);try simp only[Act.put,Za,Zc,Zb]);iterate 4 (refine Xe (h:=?_))
    iterate 3 (refine Qy (h:=?_);try simp only[Act.put,Za,Zc,Zb])
    iterate 1 (refine Qy (by kernel_rfl) (fun K U=>by(obtain⟨z0,z1⟩:=Q4 (ax.o K U));go_simp;try rfl) ?_;try simp only[Act.put,Za,Zc,Zb])
    clear l0 l1;refine Yb ?_;go_wp2_with fail;refine Zz (bl.o _ Z.o) ?_;rintro w3⟨aw,c3⟩;have C3:=O (Z.o.aA c3);have Q3:Hi (Jz w3 w2.heap.size (w2.heap.size+1) x.pk x.bt x.q):=O (aw);have LQ:=O aw.lt;clear aw c3;go_wp2_with fail;refine⟨C3.o,?_⟩;refine Yb ?_;go_wp2_with fail;refine(bh.o _ C3.o).mono ?_;rintro e w4⟨a8,rfl,av,c4⟩;obtain⟨bw,rfl⟩:=av.ptr;obtain⟨w6,r6,az,ay⟩:=a5.o w3 w4 _ _ _ _ Q3.o (by have h:=LQ.o;have e:w2.drew.heap.size=w2.heap.size:=rfl;rw[e]at h;omega) (by have h:=LQ.o;have e:w2.drew.heap.size=w2.heap.size:=rfl;rw[e]at h;omega) C3.o av c4 rfl;have C4:=O (C3.o.aA c4);have PP:=O (Zt az ay);clear av c4 az ay;go_wp2_with fail;refine⟨C4.o,?_⟩;refine Xe (h:=?_);refine Yb ?_;go_wp2_with fail;refine⟨C4.o.alloc _,?_⟩;refine Km ?_;go_wp2_with fail;refine Ky ?_;go_wp2;exact⟨⟨_,_,PP.o.1⟩,PP.o.2⟩
end
def Qx6(l:V2):Array Value:=#[ZU l.rate,ZU l.taken,.bool l.idles]
abbrev P3(w:World)(F:Fp)(b:Nat)(l:V2):Prop:=Tv b (Qx6 l) 125 w F
theorem P3.obj:Hf P3:=Qwp (fun b x=>Ks _ _ _) (fun h=>h.2.1)
theorem P3.set{w w'}{F:Fp}{b:Nat}{l l':V2}(h:P3 w F b l)(q:Qc (fun k=>k=b) w w')(d:Qh w' b (Qx6 l') 125):P3 w' (Qn F w w') b l'∧Qc F w w':=by have c:Qc F w w':=q.sub fun k e=>e▸h.2.1;exact⟨⟨d,.inl h.2.1,h.2.2.ext c⟩,c⟩
def Qye(s:Fr):List Value:=s.map fun(n:Nat)=>ZU n
def Qw0(s:Fr):Array Value:=(Qye s).toArray
def Qv7(b:V1):List (Int×Value):=b.map fun x=>(x.1,.agg (Qw0 x.2))
def Qxp(m b:Nat)(c:V1):List Ya:=[Tv b #[.map (some m)] 130,Qo8 m (Qv7 c)]
theorem Qwg(m b:Nat)(d:V1):∀P∈Qxp m b d,Uy P:=by
 intro P c;simp only[Qxp,Zu,List.not_mem_nil,or_false]at c;rcases c with rfl|rfl;·exact Ks _ _ _
 ·exact Qhd _ _
def Qau(w:World)(F:Fp)(b:Nat)(bk:V1):Prop:=∃m,Oh (Qxp m b bk) w F
theorem Qau.obj:Hf Qau:=Qwp (fun b x=>Qtk fun m=>Je (Qwg m b x)) fun⟨m,h⟩=>by obtain⟨G,c,d⟩:=J6 (Qwg _ _ _) 0 rfl h;exact d _ c.2.1
theorem Qw1(b:V1)(i:Int):look i (Qv7 b)=(b.at i).map fun s=>.agg (Qw0 s):=by
 unfold look V1.at Qv7
 suffices h:∀(b:V1)(n:Nat),(Oe i (b.map fun x=>(x.1,.agg (Qw0 x.2))) n).map (·.2)=((b.find? fun x=>decide (x.1=i)).map (·.2)).map fun s=>Value.agg (Qw0 s)from h b 0
 intro b;induction b with
 |nil=>intro n;rfl
 |cons x b c=>
  intro n;rw[List.map_cons,Oe,List.find?_cons];by_cases e:x.1=i;·rw[if_pos e.symm];simp[e]
  ·rw[if_neg (fun h=>e h.symm),c];simp[e]
theorem Qwk(i:Int)(s:Fr):∀b:V1,Oi i (.agg (Qw0 s)) (Qv7 b)=Qv7 (V1.set i s b)
 |[]=>rfl
 |x::b=>by
  unfold Qv7;rw[V1.set,List.map_cons,Oi];split;·rfl
  ·rw[List.map_cons];exact congrArg _ (Qwk i s b)
theorem Qxg(i:Int)(b:V1):Vu i (Qv7 b)=Qv7 (b.filter fun x=>!decide (x.1=i)):=by unfold Vu Qv7;rw[List.filter_map];rfl
def Qxe(x:D7):List Value:=[ZU x.p.id,ZI x.p.cls,ZI x.p.len,ZU x.p.at_,.int .u8 x.rule,ZU x.frm,ZU x.til,ZU x.due]
theorem Qws(x:D7):(Qxe x).length=8:=rfl
def Qyd:D7:=⟨Jr.zero,0,0,0,0⟩
abbrev Qxw(w:World)(v:Value)(l:List D7):Prop:=Own Qxe 8 51 w v l
def Qwq(v:Value)(l:List D7):Ya:=fun w F=>Qxw w v l∧(∀k,v.ownBlock=some k→F k)∧Bd F w
theorem Qww(v:Value)(l:List D7):Uy (Qwq v l) where
 bd:=fun h=>h.2.2
 aB:=fun h d u=>⟨h.1.aB d (fun k c=>u k (h.2.1 k c)),h.2.1,h.2.2.later d⟩
 more:=fun h z q=>⟨h.1,fun k c=>z k (h.2.1 k c),q⟩
theorem sentT:Qce prog Qxe 8 43 51 64 Qyd where
 ht:=underlying43
 hi:=Ee (by kernel_rfl)
 pos:=by decide
 hc:=Qws
 one:=fun x u c=>by simp only[Qxe,Zu,List.not_mem_nil,or_false]at c;rcases c with rfl|rfl|rfl|rfl|rfl|rfl|rfl|rfl<;>rfl
structure EAd where
 sb:Nat
 lb:Nat
 kb:Nat
 us:Value
 ss:Value
def Qyg(A:EAd)(e:Vi):Array Value:=#[ZU e.rate,ZI e.most,ZU e.hor,ZU e.now,ptr A.sb,ptr A.lb,ptr A.kb,A.us,A.ss]
def Qxi(cs:Array Value)(A:EAd)(b:Nat)(e:Vi):List Ya:=
 [Tv b cs 87,fun w F=>Qt w F A.sb e.sched,fun w F=>P3 w F A.lb e.link,fun w F=>Qau w F A.kb e.book,Qwq A.us e.aM.toList,Qwq A.ss e.sent]
theorem N3(cs:Array Value)(A:EAd)(b:Nat)(e:Vi):∀P∈Qxi cs A b e,Uy P:=by
 intro P c;simp only[Qxi,Zu,List.not_mem_nil,or_false]at c;rcases c with rfl|rfl|rfl|rfl|rfl|rfl;·exact Ks _ _ _
 ·exact Qt.obj.good _ _
 ·exact P3.obj.good _ _
 ·exact Qau.obj.good _ _
 ·exact Qww _ _
 ·exact Qww _ _
def V6(cs:Array Value)(A:EAd)(w:World)(F:Fp)(b:Nat)(e:Vi):Prop:=Oh (Qxi cs A b e) w F
abbrev Qyf(A:EAd)(w:World)(F:Fp)(b:Nat)(e:Vi):Prop:=V6 (Qyg A e) A w F b e
def Qxn(w:World)(F:Fp)(b:Nat)(e:Vi):Prop:=∃A,Qyf A w F b e
theorem Qw9{w}{F:Fp}{P0:Ya}{L:List Ya}{i:Nat}{P:Ya}(J:∀Q∈P0::L,Uy Q)(Z:(P0::L)[i+1]? =some P)(h:Oh (P0::L) w F):
  ∃c:Fp,P0 w c∧(∀k,c k→F k)∧∃G:Fp,P w G∧(∀k,G k→F k)∧Jl c G∧∀w' Q,Qc G w w'→Q w' (Qn G w w')→Oh (P0::L.set i Q) w' (Qn F w w'):=by
 obtain⟨I,c,K,E,U,d,B,s1⟩:=h;obtain⟨G,k1,z,k3,k4⟩:=Xv i (fun R V=>J R (Zr _ V)) (by simpa using Z) U;exact⟨c,E,B,G,k1,fun k q=>s1 k (z k q),d.subR z,fun w' Q u hq=>⟨I.ext u,c,Qn K w w',(J P0 (List.mem_cons_self ..)).aB E u (d.subR z),k4 w' Q u hq,Jl.extR d (I.sub B),fun k q=>.inl (B k q),fun k q=>Qn.mono s1 k q⟩⟩
section
variable{cs cs':Array Value}{A:EAd}{w w':World}{F:Fp}{b:Nat}{e:Vi}
theorem V6.good(cs:Array Value)(A:EAd)(b:Nat)(e:Vi):Uy (fun w F=>V6 cs A w F b e):=Je (N3 cs A b e)
theorem V6.blk(h:V6 cs A w F b e):Qh w b cs 87∧F b:=by obtain⟨G,c,d⟩:=J6 (N3 cs A b e) 0 rfl h;exact⟨c.1,d _ c.2.1⟩
theorem Qxn.obj:Hf Qxn:=Qwp (fun b x=>Qtk fun A=>V6.good _ A b x) fun⟨A,h⟩=>h.blk.2
theorem V6.aB(h:V6 cs A w F b e)(c:Qc Qb w w'):V6 cs A w' F b e:=(V6.good cs A b e).aB h c (Jl.none F)
theorem V6.cells(h:V6 cs A w F b e)(d:Qc (fun k=>k=b) w w')(c:Qh w' b cs' 87):V6 cs' A w' (Qn F w w') b e∧Qc F w w':=
 (Xv 0 (N3 cs A b e) rfl h).cells d c
theorem V6.part(h:V6 cs A w F b e)(i:Nat){P:Ya}(K:(Qxi cs A b e)[i+1]? =some P):
  ∃G:Fp,P w G∧(∀k,G k→F k)∧¬G b∧∀w' d q Q,Qxi cs d b q=(Qxi cs A b e).set (i+1) Q→Q w' (Qn G w w')→Qc G w w'→V6 cs d w' (Qn F w w') b q∧Qc F w w':=by
 obtain⟨V,z,_,G,B,u,E,I⟩:=Qw9 (N3 cs A b e) K h;refine⟨G,B,u,fun J=>E b z.2.1 J,fun w' d q Q U R c=>⟨?_,c.sub u⟩⟩;have:=I w' Q c R;rw[←Zb]at this;unfold V6;rw[U];exact this
theorem V6.schedOf(h:V6 cs A w F b e):∃G:Fp,Qt w G A.sb e.sched∧(∀k,G k→F k)∧¬G b∧∀w' s,Qt w' (Qn G w w') A.sb s→Qc G w w'→V6 cs A w' (Qn F w w') b {e with sched:=s}∧Qc F w w':=by obtain⟨G,c,d,q,u⟩:=h.part 0 rfl;exact⟨G,c,d,q,fun w' s B z=>u w' A {e with sched:=s} (fun w F=>Qt w F A.sb s) rfl B z⟩
theorem V6.linkOf(h:V6 cs A w F b e):∃G:Fp,P3 w G A.lb e.link∧(∀k,G k→F k)∧¬G b∧∀w' l,P3 w' (Qn G w w') A.lb l→Qc G w w'→V6 cs A w' (Qn F w w') b {e with link:=l}∧Qc F w w':=by obtain⟨G,c,d,q,u⟩:=h.part 1 rfl;exact⟨G,c,d,q,fun w' l B z=>u w' A {e with link:=l} (fun w F=>P3 w F A.lb l) rfl B z⟩
theorem V6.bookOf(h:V6 cs A w F b e):∃G:Fp,Qau w G A.kb e.book∧(∀k,G k→F k)∧¬G b∧∀w' l,Qau w' (Qn G w w') A.kb l→Qc G w w'→V6 cs A w' (Qn F w w') b {e with book:=l}∧Qc F w w':=by obtain⟨G,c,d,q,u⟩:=h.part 2 rfl;exact⟨G,c,d,q,fun w' l B z=>u w' A {e with book:=l} (fun w F=>Qau w F A.kb l) rfl B z⟩
theorem V6.underOf(h:V6 cs A w F b e):∃G:Fp,Qwq A.us e.aM.toList w G∧(∀k,G k→F k)∧¬G b∧∀w' v(x:Option D7),Qwq v x.toList w' (Qn G w w')→Qc G w w'→V6 cs {A with us:=v} w' (Qn F w w') b {e with aM:=x}∧Qc F w w':=by obtain⟨G,c,d,q,u⟩:=h.part 3 rfl;exact⟨G,c,d,q,fun w' v x B z=>u w' {A with us:=v} {e with aM:=x} (Qwq v x.toList) rfl B z⟩
theorem V6.sentOf(h:V6 cs A w F b e):∃G:Fp,Qwq A.ss e.sent w G∧(∀k,G k→F k)∧¬G b∧∀w' v l,Qwq v l w' (Qn G w w')→Qc G w w'→V6 cs {A with ss:=v} w' (Qn F w w') b {e with sent:=l}∧Qc F w w':=by obtain⟨G,c,d,q,u⟩:=h.part 4 rfl;exact⟨G,c,d,q,fun w' v l B z=>u w' {A with ss:=v} {e with sent:=l} (Qwq v l) rfl B z⟩
end
section
variable{w:World}{F:Fp}{b:Nat}{l:V2}
theorem Q1b(c:Nat)(w)(h:c<1∨1048576<c):ZW 29 #[ZU c] w (.tuple #[.pointer none,ZI 240]) fun w'=>Qc Qb w w':=by
 by_cases u:c<1
 ·have k:decide ((c:Int)<1)=true:=by simp;omega
  have d:decide (c<1)=true:=by simp;omega
  go_enter func29,ntmps29;go_wp2;go_ret2;refine⟨rfl,?_⟩;(exact Z0)
 ·have B:1048576<c:=h.resolve_left u;have k:decide ((c:Int)<1)=false:=by simp;omega
  have d:decide (c<1)=false:=by simp;omega
  have z:decide ((1048576:Int)<(c:Int))=true:=by simp;omega
  have q:decide (1048576<c)=true:=by simp;omega
  go_enter func29,ntmps29;go_wp2;go_ret2;refine⟨rfl,?_⟩;(exact Z0)
theorem Qzx(d:Nat)(w)(R:1≤d)(U:d≤1048576):Cl 29 #[ZU d] w fun e w'=>∃b,e=.returned (.tuple #[ptr b,ZI 0])∧P3 w' (Qn Qb w w') b (.new d)∧Qc Qb w w':=by
 have J:decide ((d:Int)<1)=false:=by simp;omega
 have B:decide (d<1)=false:=by simp;omega
 have K:decide ((1048576:Int)<(d:Int))=false:=by simp;omega
 have E:decide (1048576<d)=false:=by simp;omega
 have q:Hi (∀w1,Qc Qb w w1→P3 (w1.alloc (.cells #[ZU d,ZU 0,.bool true] 125)) (Qn Qb w (w1.alloc (.cells #[ZU d,ZU 0,.bool true] 125))) w1.heap.size (.new d)∧Qc Qb w (w1.alloc (.cells #[ZU d,ZU 0,.bool true] 125))):=O (fun w1 c=>by
  have u:Qh (w1.alloc (.cells #[ZU d,ZU 0,.bool true] 125)) w1.heap.size #[ZU d,ZU 0,.bool true] 125:=Qh.new _ _ _;exact⟨⟨u,.inr ⟨c.size,u.lt⟩,fun k I=>((Qr k).1 I).2⟩,c.alloc _⟩)
 have z:=O (Zg Qb w);unfold ptr;go_enter func29,ntmps29;go_wp2;go_ret2;exact⟨_,rfl,q.o _ z.o⟩
theorem Qy9{c:Nat}{v1 v2:Value}(h:Qh w b #[ZU c,v1,v2] 125)(z:1≤c):ZW 136 #[ptr b] w (.bool false) fun w'=>w=w':=by
 obtain⟨d,_⟩:=L6 h;have k:((c:Int)==0)=false:=by simp;omega
 have q:decide ((c:Int)=0)=false:=by simp;omega
 have u:decide (c=0)=false:=by simp;omega
 unfold ptr;clear h;go_enter func136,ntmps136;go_wp2;go_ret;exact⟨rfl,rfl⟩
theorem Q0e{c g:Nat}{v1 v2:Value}(h:Qh w b #[ZU c,v1,v2] 125)(R:1≤c)(U:c≤1048576)(K:g≤1152921504623624192):ZW 191 #[ptr b,ZU g] w (ZU (((g+c-1)/c:Nat):Int)) fun w'=>Qc Qb w w':=by
 obtain⟨E,_⟩:=L6 ((Zg Qb w).drew.blk h (fun h=>h));have B:IntKind.u64.wrap ((g:Int)+(c:Int))=((g+c:Nat):Int):=by rw[IntWalk.u64_in _ (by omega)];omega
 have d:IntKind.u64.wrap (((g+c:Nat):Int)-1)=((g+c-1:Nat):Int):=by rw[IntWalk.u64_in _ (by omega)];omega
 have I:((c:Int)==0)=false:=by simp;omega
 have J:(c:Int)≠0:=by omega
 have u:(g+c-1)/c≤g+c-1:=Nat.div_le_self _ _;have k:IntKind.u64.wrap (((g+c-1:Nat):Int)/(c:Int))=(((g+c-1)/c:Nat):Int):=by rw[←Int.natCast_ediv];generalize(g+c-1)/c=q at u⊢;rw[IntWalk.u64_in _ (by omega)]
 have V:¬c=0:=by omega
 have z:=O (Zg Qb w).drew;generalize(g+c-1)/c=q at k⊢;generalize g+c-1=p at d k;generalize g+c=Z at B d;unfold ptr;clear h u;go_enter func191,ntmps191;go_wp2_with fail;refine ZB [0,1,2,3,4,5,6,7,8,9,10,11,212] ?_;simp only[Z8,Zf,Ze,Zd];iterate 12 (refine Jq (h:=?_))
 refine J7 ?_;go_wp2_with fail;refine Jo ?_;go_wp2;go_ret;exact⟨rfl,z.o⟩
structure Qy6(l:V2):Prop where
 rate:1≤l.rate∧l.rate≤1048576
 taken:l.taken≤1152921504623624192
theorem Qy3(h:Qh w b (Qx6 l) 125)(c:Qy6 l):ZW 137 #[ptr b] w (ZU l.aU) fun w'=>Qc Qb w w':=by have z:=O (Qy9 h c.rate.1);have d:=O (Q0e h c.rate.1 c.rate.2 c.taken);obtain⟨B,E,I⟩:=L6 h;have q:(l.taken+l.rate-1)/l.rate=l.aU:=rfl;rw[q]at d;clear h c q;go_enter func137,ntmps137;go_wp2_with fail;refine Zy z ?_;rintro w1 rfl;go_wp2_with fail;refine Zy d ?_;intro w1 k;have u:=O k;clear k;go_wp2;go_ret;exact⟨rfl,u.o⟩
theorem Qzq(h:Qh w b (Qx6 l) 125)(d:Qy6 l)(now:Nat):ZW 82 #[ptr b,ZU now] w (.bool (l.free now)) fun w'=>Qc Qb w w':=by
 have E:=O (Qy9 h d.rate.1);have k:=O (Qy3 h d);have z:decide ((l.aU:Int)≤(now:Int))=l.free now:=by unfold V2.free;simp
 have c:decide (l.aU≤now)=l.free now:=rfl;generalize l.aU=u at k z c;generalize l.free now=v at z c⊢;clear h d;go_enter func82,ntmps82;go_wp2_with fail;refine Zy E ?_;rintro w1 rfl;go_wp2_with fail;refine Zy k ?_;intro w1 q;have B:=O q;clear q;go_wp2;go_ret;exact⟨rfl,B.o⟩
theorem Q0p(h:P3 w F b l)(E:Qy6 l)(now:Nat):ZW 45 #[ptr b,ZU now] w (.tuple #[]) fun w'=>P3 w' (Qn F w w') b (l.idle now)∧Qc F w w':=by
 have u:=O (Qzq h.1 E now);have B:=O (fun w1 w' l'(c:Qc Qb w w1)(U:Qc (fun k=>k=b) w1 w')R=>h.set (l':=l') (c.none.aA U) R);have q:=O (fun w1(c:Qc Qb w w1)=>P3.obj.same h c);have J:=O h.1;unfold V2.idle;cases d:l.free now with
 |true=> rw[d]at u;rw[if_pos rfl];unfold ptr Qx6 at*;clear h E d;go_enter func45,ntmps45;go_wp2_with fail;refine Zy u ?_;intro w1 c;have z:=O (c.blk J.o (fun h=>h));have I:=O c;clear c;obtain⟨V,Z,a2⟩:=L6 z.o;have f2:=z.o.frozen;go_wp2;refine bodyPost_end (by simp[*,results,Tryz.results45,go_sem]) rfl ⟨rfl,B.o _ _ _ I.o ((Zg _ _).setCell _ (.inl rfl)) (z.o.set' 2 _ rfl)⟩
 |false=> rw[d]at u;rw[if_neg Bool.false_ne_true];unfold ptr Qx6 at*;clear h E d;go_enter func45,ntmps45;go_wp2_with fail;refine Zy u ?_;intro w1 c;have K:=O (q.o _ c);clear c;go_wp2;refine bodyPost_end (by simp[*,results,Tryz.results45,go_sem]) rfl ⟨rfl,K.o⟩
theorem Q0f(h:Qh w b (Qx6 l) 125)(k:Qy6 l){now:Nat}{c:Int}(d:l.sendE now c=0):ZW 139 #[ptr b,ZU now,ZI c] w (ZI 0) fun w'=>Qc Qb w w':=by
 have E:=O (Qy9 h k.rate.1);have q:=O (Qzq h k now);unfold V2.sendE at d;split at d;·exact absurd d (by decide)
 split at d;·exact absurd d (by decide)
 split at d
 ·rename_i J K z;rw[z]at q;have R:decide ((1099511627776:Int)<(now:Int))=false:=by simp;omega
  have I:decide (1099511627776<now)=false:=by simp;omega
  have U:decide (c<1)=false:=by simp;omega
  have V:decide (65536≤c)=false:=by simp;omega
  clear h k d J K z;go_enter func139,ntmps139;go_wp2_with fail;refine Zy E ?_;rintro w1 rfl;go_wp2_with fail;refine Zy q ?_;intro w1 u;have B:=O u;clear u;go_wp2;go_ret;exact⟨rfl,B.o⟩
 ·exact absurd d (by decide)
end
def Qyv(k:Nat):FuncId:=match k with
 |0=>112
 |1=>111
 |2=>134
 |3=>135
 |4=>141
 |5=>140
 |6=>113
 |_=>114
theorem Q01(k:Nat)(u:k<8)(b:Nat)(cs:Array Value)(w)(h:Qh w b cs 46)(q:cs.size=8):Cl (Qyv k) #[ZP b] w fun e w'=>e=.returned (.pointer (some ⟨b,k,none⟩))∧w=w':=by
 have d:=h.cell 0;obtain⟨v,c⟩:∃v,cs[0]? =some v:=⟨_,Array.getElem?_eq_getElem (by omega)⟩;rw[c]at d;clear h c q;obtain rfl|rfl|rfl|rfl|rfl|rfl|rfl|rfl:k=0∨k=1∨k=2∨k=3∨k=4∨k=5∨k=6∨k=7:=by omega
 ·show Cl 112 _ _ _;go_enter func112,ntmps112;go_wp2;go_ret;exact⟨rfl,rfl⟩
 ·show Cl 111 _ _ _;go_enter func111,ntmps111;go_wp2;go_ret;exact⟨rfl,rfl⟩
 ·show Cl 134 _ _ _;go_enter func134,ntmps134;go_wp2;go_ret;exact⟨rfl,rfl⟩
 ·show Cl 135 _ _ _;go_enter func135,ntmps135;go_wp2;go_ret;exact⟨rfl,rfl⟩
 ·show Cl 141 _ _ _;go_enter func141,ntmps141;go_wp2;go_ret;exact⟨rfl,rfl⟩
 ·show Cl 140 _ _ _;go_enter func140,ntmps140;go_wp2;go_ret;exact⟨rfl,rfl⟩
 ·show Cl 113 _ _ _;go_enter func113,ntmps113;go_wp2;go_ret;exact⟨rfl,rfl⟩
 ·show Cl 114 _ _ _;go_enter func114,ntmps114;go_wp2;go_ret;exact⟨rfl,rfl⟩
theorem Q0c(k:Nat)(d:k<8)(c:Array Value)(w):(callFunc (Qyv k) c).run prog w=.ok (.enter (Qyv k) c) w:=by
 obtain rfl|rfl|rfl|rfl|rfl|rfl|rfl|rfl:k=0∨k=1∨k=2∨k=3∨k=4∨k=5∨k=6∨k=7:=by omega
 ·exact enters_of func112 (by kernel_rfl) rfl c w
 ·exact enters_of func111 (by kernel_rfl) rfl c w
 ·exact enters_of func134 (by kernel_rfl) rfl c w
 ·exact enters_of func135 (by kernel_rfl) rfl c w
 ·exact enters_of func141 (by kernel_rfl) rfl c w
 ·exact enters_of func140 (by kernel_rfl) rfl c w
 ·exact enters_of func113 (by kernel_rfl) rfl c w
 ·exact enters_of func114 (by kernel_rfl) rfl c w
theorem Q0x(n x:Nat)(d:Bool)(z o c:Nat)(w:World)(K:n≤Xw)(R:x<18446744073709551616)(ha:w.cell? ⟨z,o,none⟩=some (ZU x)):
  ZW 178 #[ZU n,.bool d,.slice (some ⟨z,o,none⟩) 1 c] w (ZU ((Qx9 d n x:Nat):Int)) fun w'=>Qc Qb w w':=by
 have q:=Yz;have B:=O (Zg Qb w);have J:=fun(U:Array TypeId)t k a b(w)=>X8 (P:=prog) U t k a b w;have E:IntKind.u64.wrap ((n:Int)-min (n:Int) (x:Int))=((Qx9 true n x:Nat):Int):=by unfold Qx9;rw[if_pos rfl,IntWalk.u64_in _ (by omega)];omega
 have I:IntKind.u64.wrap (4611686018427387904-(n:Int))=((Xw-n:Nat):Int):=by rw[IntWalk.u64_in _ (by omega)];omega
 have u:IntKind.u64.wrap ((n:Int)+min (x:Int) ((Xw-n:Nat):Int))=((Qx9 false n x:Nat):Int):=by unfold Qx9;rw[if_neg (by decide),IntWalk.u64_in _ (by omega)];omega
 cases d;all_goals
  generalize Qx9 true n x=s1 at E⊢;generalize Qx9 false n x=s2 at u⊢;generalize Xw-n=m at I u;clear K R q;go_enter func178,ntmps178;go_wp2_with fail;refine wp_loop_rounds 2 ?_;rw[rounds_succ];go_wp2;rw[rounds_succ];go_wp2;go_ret;exact⟨rfl,B.o⟩
section
def Q1f:Value:=.agg ZJ
theorem eight{s:Fr}(h:s.length=8):∃a b c d e f g i,s=[a,b,c,d,e,f,g,i]:=by
 match s,h with
 |[a,b,c,d,e,f,g,i],_=>exact⟨a,b,c,d,e,f,g,i,rfl⟩
theorem Q0t(w):(zeroValue 46).run prog w=.ok Q1f w:=by unfold Q1f;go_simp
theorem Qyu{s:Fr}(h:s.length=8):(Qw0 s).size=8:=by unfold Qw0 Qye;simpa using h
theorem Qy4(s:Fr):∀v∈(Qw0 s).toList,v.oneCell'=true:=by intro v c;simp only[Qw0,Qye,Z3]at c;obtain⟨n,_,rfl⟩:=c;rfl
theorem Qzb{s:Fr}{k:Nat}(c:k<s.length):(Qw0 s)[k]? =some (ZU ((s.getD k 0:Nat):Int)):=by unfold Qw0 Qye;simp[List.getD_eq_getElem?_getD,List.getElem?_eq_getElem c]
theorem Q06(s:Fr)(k n:Nat):(Qw0 s).setIfInBounds k (ZU n)=Qw0 (s.set k n):=by unfold Qw0 Qye;rw[Za,List.map_set]
theorem Q0b(m:Nat)(w):(binOp .eql 128 (.map (some m)) (.map none)).run prog w=.ok (.bool false) w:=by kernel_rfl
attribute [local go_sem] Q0b
section
variable{w w':World}{F:Fp}{b m:Nat}{bk:V1}
theorem Qy7(h:Qh w b #[.map (some m)] 130):ZW 70 #[ptr b] w (.bool false) fun w'=>w=w':=by have c:=Jf h;unfold ptr;clear h;go_enter func70,ntmps70;go_wp2;go_ret;exact⟨rfl,rfl⟩
theorem Qau.opn(h:Qau w F b bk):∃m,Qh w b #[.map (some m)] 130∧Xq w m (Qv7 bk)∧F b∧F m∧b≠m∧Bd F w∧
  ∀w' c,Qc (fun k=>k=m) w w'→Xq w' m (Qv7 c)→Qau w' (Qn F w w') b c∧Qc F w w':=by
 obtain⟨m,J⟩:=h;obtain⟨V,z,U,G,q,I,d,E⟩:=Qw9 (Qwg m b bk) (i:=0) rfl J;have B:=(Je (Qwg m b bk)).bd J;refine⟨m,z.1,q.1,U _ z.2.1,I _ q.2.1,fun e=>d b z.2.1 (e▸q.2.1),B,fun w' c K R=>?_⟩;have u:Qc G w w':=K.sub fun k e=>e▸q.2.1;exact⟨⟨m,E w' (Qo8 m (Qv7 c)) u ⟨R,.inl q.2.1,q.2.2.ext u⟩⟩,u.sub I⟩
theorem Qau.lookup(h:Xq w m (Qv7 bk))(i:Int):(Instr.lookup 128 (.map (some m)) (ZI i) false).run prog w=.ok (.agg (Qw0 (bk.get i))) w:=by
 rw[Du h underlying128 underlying3 (Q0t w) i,Qw1];unfold V1.get;cases bk.at i with
 |none=>rfl
 |some s=>rfl
theorem Qau.update(h:Xq w m (Qv7 bk))(i:Int)(s:Fr):∃w',(Instr.mapUpdate 128 (.map (some m)) (ZI i) (.agg (Qw0 s))).run prog w=.ok () w'∧Xq w' m (Qv7 (V1.set i s bk))∧Qc (fun k=>k=m) w w':=by obtain⟨w',d,c,q⟩:=X6 (P:=prog) h underlying128 underlying3 i (.agg (Qw0 s));rw[Qwk]at c;exact⟨w',d,c,q⟩
theorem Q1i(v1 v2:Value)(w):(Instr.index 236 (.agg #[v1,v2]) (ZI 0)).run prog w=.ok v1 w:=by kernel_rfl
theorem Q1j(v1 v2:Value)(w):(Instr.index 236 (.agg #[v1,v2]) (ZI 1)).run prog w=.ok v2 w:=by kernel_rfl
theorem Q0i{i:Int}{l:List P5}(h:i≤0):bk.tell i l=bk.upd 0 l:=by unfold V1.tell;rw[if_pos h]
theorem Q1d{i:Int}{l:List P5}(h:¬i≤0):bk.tell i l=(bk.upd 0 l).upd i l:=by unfold V1.tell;rw[if_neg h]
def Qzs(x:P5):List Value:=[.func (.func (Qyv x.k)) #[] #[],ZU x.n,.bool x.less]
def Qy0(w:World)(c:Nat)(l:List P5):Prop:=c<w.heap.size∧∀(i:Nat)(x:P5),l[i]? =some x→w.cell? ⟨c,i*3,none⟩=some (.func (.func (Qyv x.k)) #[] #[])∧w.cell? ⟨c,i*3+1,none⟩=some (ZU x.n)∧w.cell? ⟨c,i*3+2,none⟩=some (.bool x.less)
theorem Qy0.aB{l:List P5}{rb:Nat}{S:Fp}(h:Qy0 w rb l)(c:Qc S w w')(d:¬S rb):Qy0 w' rb l:=
 ⟨Nat.lt_of_lt_of_le h.1 c.size,fun i x z=>by
  obtain⟨k,q,u⟩:=h.2 i x z;exact⟨(c.cell (a:=⟨rb,i*3,none⟩) h.1 d).trans k,(c.cell (a:=⟨rb,i*3+1,none⟩) h.1 d).trans q,(c.cell (a:=⟨rb,i*3+2,none⟩) h.1 d).trans u⟩⟩
theorem Q02{l:List P5}{s:Fr}{k:Nat}{x:P5}(c:l[k]? =some x):(l.take (k+1)).foldl Qwa s=Qwa ((l.take k).foldl Qwa s) x:=by rw[List.take_add_one,c];simp
theorem Q0l(h:Qau w F b bk)(ok:BOk bk)(c:Int)(l:List P5)(rb cap:Nat)(hr:Qy0 w rb l)(hF:¬F rb)(hl:∀x∈l,x.k<8∧x.n<18446744073709551616)(hn:l.length≤8):
  ZW 110 #[ptr b,ZI c,.slice (some ⟨rb,0,none⟩) l.length cap] w (.tuple #[]) fun w'=>Qau w' (Qn F w w') b (bk.tell c l)∧Qc F w w':=by
 have a5:=O (Qau.obj.bd h);have u:=O (Zt (Qau.obj.more h (fun k hk=>.inl hk) ((Qau.obj.bd h).ext (Zg F w))) (Zt ok (Zg F w)));obtain⟨m,J,_⟩:=h.opn;have HN:=O (Qy7 J);have HR:=O hr;have HF:=O hF;have HL:=O hl;obtain⟨n,af⟩:=Zx (l.length);have av:=O af;have ba:=O (show n≤8 by rw[af];exact hn);rw[←af];clear h ok hr hF hl hn af J;go_enter func110,ntmps110;go_wp2_with fail;refine Zy HN ?_;rintro w1 rfl;go_wp2_with fail;go_loopw [7,8,10,11,16,27,28,29] (fun _ _ _ _ ti _ _ _ wr=>∃i:Nat,ti=ZI i∧i≤2∧∃B,((i=0∧B=bk)∨(i=1∧c≠0∧B=bk.upd 0 l)∨(i=2∧B=bk.tell c l))∧Qau wr (Qn F w wr) b B∧BOk B∧Qc F w wr) (fun _ _ _ _ ti _ _ _ _=>2-(intOf ti).toNat);case atStart=>exact⟨0,rfl,by omega,bk,.inl ⟨rfl,rfl⟩,u.o.1,u.o.2.1,u.o.2.2⟩
 case round=>
  obtain⟨i,rfl,hi,B,I,J,z,hC⟩:=hrel;obtain⟨V,hV⟩:=Zx wr;rw[←hV]at J hC⊢;clear hV;by_cases a2:i<2
  ·have hd:decide ((i:Int)<2)=true:=by simp;omega
   have bi:decide (i<2)=true:=by simpa using a2
   have bv:IntKind.i64.wrap ((i:Int)+1)=(i:Int)+1:=by rw[IntWalk.i64_in _ (by omega)]
   obtain⟨id,ae,bp,ag⟩:∃id:Int,(id=0∨(i=1∧id=c∧c≠0))∧(Instr.index 236 (.agg #[ZI 0,ZI c]) (ZI i)).run prog V=.ok (ZI id) V∧
     (id<0→B=bk.tell c l)∧(0≤id→(c=0→i=0∧B.upd id l=bk.tell c l)∧(c≠0→(i=0∧B.upd id l=bk.upd 0 l)∨(i=1∧B.upd id l=bk.tell c l))):=by
    rcases I with⟨rfl,rfl⟩|⟨rfl,hc,rfl⟩|⟨h,_⟩;·exact⟨0,.inl rfl,Q1i _ _ _,fun h=>absurd h (by decide),fun _=>⟨fun hc=>⟨rfl,by rw[Q0i (by omega)]⟩,fun _=>.inl ⟨rfl,rfl⟩⟩⟩
    ·exact⟨c,.inr ⟨rfl,rfl,hc⟩,Q1j _ _ _,fun h=>by rw[Q0i (by omega)],fun h=>⟨fun h0=>absurd h0 hc,fun _=>.inr ⟨rfl,by rw[Q1d (by omega)]⟩⟩⟩
    ·omega
   have CC:=O hC;by_cases q:id<0
   ·have bq:decide (id<0)=true:=by simpa using q
    have a9:=O (show i=1 by
     rcases ae with h|⟨h,_⟩;·omega
     ·exact h)
    have ak:=ag.1 q;rw[ak]at J z;have K:=O (Zt J z);clear I J z hC ag ae ak;go_wp2_with fail;go_roundw;case measure=>simp only[intOf];omega
    case rel=>exact⟨i+1,by rw[←Int.natCast_one,←Int.natCast_add],by omega,_,.inr (.inr ⟨by have:=a9.o;omega,rfl⟩),K.o.1,K.o.2,CC.o⟩
   ·have bq:decide (id<0)=false:=by simpa using q
    obtain⟨mb,an,hM,fb,fm,a1,bg,ai⟩:=J.opn;have ap:=Qau.lookup hM id;have S8:=O (z.get id);obtain⟨s0,ar⟩:=Zx (B.get id);rw[←ar]at ap S8;have bc:=O ar;obtain⟨W1,s1,az,c1⟩:=Q0 (P:=prog) (vs:=Qw0 s0) (Qh.new V ZJ 46) (by rw[Qyu S8.o.1];rfl) (Qy4 s0);have br:(Qw0 s0).size=8:=Qyu S8.o.1;have C1:=O (((Zg Qb V).alloc (.cells ZJ 46)).trans c1 (fun k e=>.inr (by omega)));have bd:=O az;have a0:=Jf an;have bs:=O ae;have aw:=O ag;have ax:=O ai;have HM:=O hM;have a6:=O (Zt an a1);have bb:=O z;have bu:=O I;have ah:=O q;obtain⟨sa,au⟩:=Zx (Qw0 s0);rw[←au]at ap s1 br;have bt:=O au;clear au az c1 ai hM an z ae ag ar I hC J fb fm a1 bg q;go_wp2_with fail;clear s1 ap a0 bp;go_loopw [10,11,29] (fun _ _ tk wk=>∃k:Nat,tk=ZI k∧k≤n∧Qh wk V.heap.size (Qw0 ((l.take k).foldl Qwa s0)) 46∧Qc (fun j=>j=V.heap.size) W1 wk) (fun _ _ tk _=>n-(intOf tk).toNat);case atStart=>exact⟨0,rfl,Nat.zero_le _,bd.o,Zg _ _⟩
    case round=>
     obtain⟨k,rfl,hk,aa,Z⟩:=hrel;have bw:IntKind.i64.wrap ((k:Int)+1)=(k:Int)+1:=by have:=ba.o;rw[IntWalk.i64_in _ (by omega)]
     have CK:=O Z;have SK:=O aa;have U:=O (S8.o.fold (l.take k));obtain⟨sk,E⟩:=Zx ((l.take k).foldl Qwa s0);rw[←E]at SK U;by_cases bz:k<n
     ·obtain⟨bj,bl⟩:=ZT (show k<n by omega);obtain⟨x,hx⟩:∃x,l[k]? =some x:=⟨_,List.getElem?_eq_getElem (by have:=av.o;omega)⟩;have CW:Hi (Qc F w V):=O (CC.o);have a4:Hi (Qc F w wr):=O ((CW.o.aA C1.o.none).trans Z (fun j e=>.inr (by have:=CW.o.size;omega)));obtain⟨r0,r1,r2⟩:=(HR.o.aB a4.o HF.o).2 k x hx;obtain⟨xk,xn⟩:=HL.o x (List.mem_of_getElem? hx);have XK:=O xk;have FX:=O (Q02 (s:=s0) hx);rw[←E]at FX;have bh:=Q0c x.k xk;have k0:(0:Int)≤(k:Int):=by omega
      have HX:=O hx;clear aa Z hx E xk xn;go_wp2_with fail;obtain⟨V1,ab⟩:=Zx (wr.alloc (.cells #[.func (.func (Qyv x.k)) #[] #[],ZU x.n,.bool x.less] 181));have C2:Hi (Qc Qb wr V1):=O (by rw[ab];exact(Zg _ _).alloc _);have XB:Hi (Qh V1 wr.heap.size #[.func (.func (Qyv x.k)) #[] #[],ZU x.n,.bool x.less] 181):=O (by rw[ab];exact Qh.new _ _ _);have SV:=O (C2.o.blk SK.o (fun h=>h));have a8:=O (Q01 x.k XK.o V.heap.size (Qw0 sk) V1 SV.o (Qyu U.o.1));rw[←ab];clear ab r0 r1 r2 bh;refine Zy a8 ?_;rintro w3 rfl;go_wp2_with fail;have R:=O (show x.k<sk.length by rw[U.o.1];exact XK.o);have CD:=O (Zg Qb V1).drew;obtain⟨g0,g1,g2⟩:=L6 (CD.o.blk XB.o (fun h=>h));have g3:=(CD.o.blk SV.o (fun h=>h)).at x.k (Qzb R.o);obtain⟨y,hy⟩:=Zx (sk.getD x.k 0);have HY:=O hy;rw[←hy]at g3;clear hy;refine ZC [100,101,102,103,104,105,6,7,208,209,10,311] (fun wv=>Qc (Qb) (V1) wv) ?_;simp only[Z8,Zf,Ze,Zd];iterate 3 (refine Qy (h:=?_);try simp only[Act.put,Za,Zc,Zb])
      iterate 1 (refine Qy (by kernel_rfl) (fun wv hv=>by(have z3:=(hv.blk SV.o (fun h=>h)).at x.k (Qzb R.o);rw[←HY.o]at z3;obtain⟨z0,z1,z2⟩:=L6 (hv.blk XB.o (fun h=>h)));go_simp;try rfl) ?_;try simp only[Act.put,Za,Zc,Zb])
      (refine Qy (h:=?_);try simp only[Act.put,Za,Zc,Zb]);iterate 1 (refine Qy (by kernel_rfl) (fun wv hv=>by(have z3:=(hv.blk SV.o (fun h=>h)).at x.k (Qzb R.o);rw[←HY.o]at z3;obtain⟨z0,z1,z2⟩:=L6 (hv.blk XB.o (fun h=>h)));go_simp;try rfl) ?_;try simp only[Act.put,Za,Zc,Zb])
      iterate 2 (refine Xe (h:=?_))
      refine Yb ?_;go_wp2_with fail;refine⟨((Zg Qb V1).alloc _).drew,?_⟩;have NB:Hi (Qh (V1.alloc (.cells #[ZU x.n] 22)).drew V1.heap.size #[ZU x.n] 22):=O ((Qh.new _ _ _).drew);have C3:Hi (Qc Qb V1 (V1.alloc (.cells #[ZU x.n] 22)).drew):=O (((Zg Qb V1).alloc _).drew);generalize(V1.alloc (.cells #[ZU x.n] 22)).drew=V2 at NB C3⊢;have XN:=O ((HL.o x (List.mem_of_getElem? HX.o)).2);have YC:=O (show y≤Xw by rw[HY.o,List.getD_eq_getElem?_getD,List.getElem?_eq_getElem R.o];exact U.o.2 _ (List.getElem_mem _));have ay:=O (Q0x y x.n x.less V1.heap.size 0 1 V2 YC.o XN.o (Jf NB.o));clear g0 g1 g2 g3;refine Yb ?_;go_wp2_with fail;refine Zy ay ?_;intro w4 c4;have C4:=O (C3.o.aA c4);clear c4;go_wp2_with fail;refine⟨C4.o,?_⟩;have am:=O (C4.o.blk SV.o (fun h=>h));have g3:=am.o.at x.k (Qzb R.o);have f3:=am.o.frozen x.k;refine Xe (h:=?_);refine Km ?_;go_wp2_with fail;refine Ky ?_;obtain⟨V5,ac⟩:=Zx (w4.setCell ⟨V.heap.size,x.k,none⟩ (ZU ((Qx9 x.less y x.n:Nat):Int)));have NS:=O (show Qh V5 V.heap.size (Qw0 (Qwa sk x)) 46 by
       rw[ac];have:=am.o.set' x.k (ZU ((Qx9 x.less y x.n:Nat):Int)) rfl;rw[Q06]at this;unfold Qwa;rw[←HY.o];exact this)
      have C5:=O (show Qc (fun j=>j=V.heap.size) W1 V5 by
       rw[ac];exact((CK.o.aA C2.o.none).aA C4.o.none).aA ((Zg _ _).setCell _ (.inl rfl)))
      rw[←ac];clear ac g3 f3;go_wp2_with fail;refine⟨⟨k+1,by rw[←Int.natCast_one,←Int.natCast_add],by omega,?_,C5.o⟩,by simp only[intOf];omega⟩;rw[FX.o];exact NS.o
     ·obtain⟨bj,bl⟩:=ZN (show¬k<n by omega);have a3:l.take k=l:=by have:=av.o;rw[List.take_of_length_le (by omega)]
      rw[a3]at E;have CV:Hi (Qc Qb V wr):=O (C1.o.trans Z (fun j e=>.inr (by omega)));have LT:Hi (V.heap.size<wr.heap.size):=O (aa.lt);obtain⟨w6,h6,ao,c6⟩:=Qau.update (w:=wr.drew) (HM.o.aB (CV.o.drew) (fun h=>h)) id sk;obtain⟨m0,m1,m2,m3,m4,m5,m6,m7,aq⟩:=eight U.o.1;have B8:Qh wr.drew V.heap.size #[ZU m0,ZU m1,ZU m2,ZU m3,ZU m4,ZU m5,ZU m6,ZU m7] 46:=by have:=SK.o.drew;rw[aq]at this;exact this
      obtain⟨g0,g1,g2,g3,g4,g5,g6,g7⟩:=Ja B8;rw[aq]at h6;have h6:(Instr.mapUpdate 128 (.map (some mb)) (ZI id) (.agg #[ZU m0,ZU m1,ZU m2,ZU m3,ZU m4,ZU m5,ZU m6,ZU m7])).run prog wr.drew=.ok () w6:=h6;have a0:=Jf (CV.o.drew.blk a6.o.1 (fun h=>h));have be:=O (show V1.set id sk B=B.upd id l by rw[E,bc.o];rfl);rw[be.o]at ao;obtain⟨p1,p2⟩:=ax.o w6 _ ((CV.o.drew.mono fun k h=>h.elim).trans c6 (fun k h=>.inl h)) ao;obtain⟨q1,q2⟩:=Qau.obj.two p1 a5.o CC.o p2;have K:=O (Zt q1 q2);have bf:=O (bb.o.upd id l);clear aa Z E a3 c6 ao p1 p2 q1 q2 B8 aq;go_wp2_with fail;refine ZB [0,1,2,3,4,5,206] ?_;simp only[Z8,Zf,Ze,Zd];iterate 6 (refine Jq (h:=?_))
      refine J7 ?_;go_wp2_with fail;clear h6 a0 g0 g1 g2 g3 g4 g5 g6 g7;refine Jo ?_;by_cases d:c=0
      ·have bo:decide (c=0)=true:=by simpa using d
       have bm:(c==0)=true:=by simpa using d
       have al:=O (show Qau w6 (Qn F w w6) b (bk.tell c l)∧Qc F w w6 by
        rw[←((aw.o.2 (by have:=ah.o;omega)).1 d).2];exact K.o)
       clear d;go_wp2;refine bodyPost_ret (results_none rfl _ _ _) rfl ⟨rfl,al.o⟩
      ·have bo:decide (c=0)=false:=by simpa using d
       have bm:(c==0)=false:=by simpa using d
       have al:=O ((aw.o.2 (by have:=ah.o;omega)).2 d);have a7:=O d;clear d;go_wp2_with fail;go_roundw;case measure=>simp only[intOf];omega
       case rel=>
        refine⟨i+1,by rw[←Int.natCast_one,←Int.natCast_add],by omega,_,?_,K.o.1,bf.o,K.o.2⟩;rcases al.o with⟨e1,e2⟩|⟨e1,e2⟩;·exact .inr (.inl ⟨by omega,a7.o,e2⟩)
        ·exact .inr (.inr ⟨by omega,e2⟩)
  ·have hd:decide ((i:Int)<2)=false:=by simp;omega
   have bi:decide (i<2)=false:=by simpa using a2
   have aj:B=bk.tell c l:=by
    rcases I with⟨h,_⟩|⟨h,_⟩|⟨_,h⟩;·omega
    ·omega
    ·exact h
   rw[aj]at J;have K:=O (Zt J hC);clear I J z hC aj;go_wp2;refine bodyPost_end (results_none rfl _ _ _) rfl ⟨rfl,K.o⟩
end
end
theorem Qz5(x:P5):(Qzs x).length=3:=rfl
theorem Qy0.of{w}{rb:Nat}{l:List P5}{cs:Array Value}{t:TypeId}(h:Qh w rb cs t)(k:cs=(Jm Qzs l).toArray):Qy0 w rb l:=by
 subst k;refine⟨h.lt,fun i x d=>?_⟩;obtain⟨q,d⟩:=Z1.1 d;have c:=fun j(u:j<3)=>Eb (cells:=Qzs) (sz:=3) Qz5 l i j q u;rw[d]at c;refine⟨h.at _ ?_,h.at _ ?_,h.at _ ?_⟩;·have:=c 0 (by decide);simpa[Qzs]using this
 ·have:=c 1 (by decide);simpa[Qzs]using this
 ·have:=c 2 (by decide);simpa[Qzs]using this
section
variable{w W:World}{F:Fp}{b rb:Nat}{bk:V1}{p:Jr}
theorem Qzc(h:Qau w F b bk)(R:BOk bk)(d:Qc Qb w W)(c:Int)(l:List P5){cs:Array Value}(B:Qh W rb cs 181)(k:cs=(Jm Qzs l).toArray)(U:w.heap.size≤rb)(I:∀x∈l,x.k<8∧x.n<18446744073709551616)(J:l.length≤8)(n:Int)(K:n=l.length)(cap:Nat):
  ZW 110 #[ZP b,ZI c,.slice (some ⟨rb,0,none⟩) l.length cap] W (.tuple #[]) fun w'=>Qau w' (Qn F w w') b (bk.tell c l)∧Qc F w w':=by
 have u:=Qau.obj.bd h;refine Zz (Q0l (Qau.obj.aB h d (Jl.none F)) R c l rb cap (Qy0.of B k) (fun E=>by have:=u _ E;omega) I J) ?_;rintro w'⟨h',z⟩;have q:Qc F w w':=d.none.aA z;exact⟨rfl,Qau.obj.more h' (Ke d.size) (u.ext q),q⟩
theorem Qzj{n:Int}(h:1≤n∧n≤65535):(Qx0 n:Int)=n∧Qx0 n<65536:=by unfold Qx0;omega
theorem Qy2(p:Jr)(c:Ll p)(w):ZW 115 #[.agg (ZL p)] w (ZU (Qx0 p.len:Int)) fun w'=>Qc Qb w w':=by
 have K:=fun(E:Array TypeId)t k a b(w)=>Yd (P:=prog) E t k a b w;obtain⟨q,u⟩:=Qzj c;have B:IntKind.u64.wrap (max p.len 0)=(Qx0 p.len:Int):=by obtain⟨I,J⟩:=c;rw[IntWalk.u64_in _ (by omega)];omega
 have d:=O ((Zg Qb w).alloc (.cells (ZL p) 31));have z:Qh (w.alloc (.cells (ZL p) 31)) w.heap.size (ZL p) 31:=Qh.new _ _ _;obtain⟨z0,R,U,V⟩:=X9 z;generalize Qx0 p.len=n at B⊢;clear z q u;go_enter func115,ntmps115;go_wp2;go_ret;exact⟨rfl,d.o⟩
theorem Qzt(h:Qau w F b bk)(u:BOk bk)(d:Int):ZW 61 #[ptr b,ZI d] w (.tuple #[]) fun w'=>Qau w' (Qn F w w') b (bk.tell d Qwx)∧Qc F w w':=by
 have z:=O (fun W(c:Qc Qb w W)B=>Qzc (W:=W) (rb:=w.heap.size) (cs:=#[.func (.func (Qyv 1)) #[] #[],ZU 1,.bool false]) h u c d Qwx B rfl (Zv _) (fun x E=>by
  obtain rfl:=List.mem_singleton.1 E;exact⟨by decide,by decide⟩) (by decide) 1 rfl 1)
 clear h u;go_enter func61,ntmps61;go_wp2_with fail;refine Zz (z.o _ ((Zg _ _).alloc _) (Qh.new _ _ _)) ?_;rintro w2⟨q,k⟩;have K:=O (Zt q k);clear q k;go_wp2;refine bodyPost_end (by simp[*,results,Tryz.results61,go_sem]) rfl ⟨rfl,K.o⟩
theorem Q1l{s:Fr}(h:St8 s)(k:Nat):s.getD k 0<18446744073709551616:=by
 have c:=Yz;rw[List.getD_eq_getElem?_getD];cases d:s[k]? with
 |none=>exact(by decide:(0:Nat)<18446744073709551616)
 |some y=> have:=h.2 y (List.mem_of_getElem? d);show y<_;omega
theorem Q0j(h:Qau w F b bk)(Z:BOk bk)(p:Jr)(U:Ll p):ZW 62 #[ptr b,.agg (ZL p)] w (.tuple #[]) fun w'=>Qau w' (Qn F w w') b (bk.tell p.cls (Qx4 p))∧Qc F w w':=by
 have k:=(Qzj U).2;obtain⟨n,z⟩:=Zx (Qx0 p.len);have HT:Hi (∀W rb,Qc Qb w W→w.heap.size≤rb→Qh W rb #[.func (.func (Qyv 0)) #[] #[],ZU 1,.bool false,.func (.func (Qyv 6)) #[] #[],ZU 1,.bool false,.func (.func (Qyv 7)) #[] #[],ZU n,.bool false] 181→
   ZW 110 #[ZP b,ZI p.cls,.slice (some ⟨rb,0,none⟩) 3 3] W (.tuple #[]) fun w'=>Qau w' (Qn F w w') b (bk.tell p.cls (Qx4 p))∧Qc F w w'):=O (fun W rb c hr hB=>Qzc h Z c p.cls (Qx4 p) hB (by rw[z];rfl) hr (fun x V=>by
  simp only[Qx4,Zu,List.not_mem_nil,or_false]at V;rcases V with rfl|rfl|rfl<;>exact⟨by dsimp only;omega,by dsimp only;omega⟩) (show 3≤8 by decide) 3 rfl 3)
 have d:=O (fun W=>Qy2 p U W);rw[←z]at d;obtain⟨W,u⟩:=Zx (w.alloc (.cells (ZL p) 31));have B:Hi (Qc Qb w W):=O (by rw[u];exact(Zg _ _).alloc _);have E:Hi (Qh W w.heap.size (ZL p) 31):=O (by rw[u];exact Qh.new _ _ _);clear h Z k z;go_enter func62,ntmps62;go_wp2_with fail;rw[←u];clear u;obtain⟨g0,g1,g2,g3⟩:=X9 (E.o.drew);refine ZC [100,101,102,103,104,5,206,7,208,309] (fun wv=>Qc (Qb) (W) wv) ?_;simp only[Z8,Zf,Ze,Zd];iterate 2 (refine Qy (h:=?_);try simp only[Act.put,Za,Zc,Zb])
 iterate 1 (refine Qy (by kernel_rfl) (fun wv hv=>by(obtain⟨z0,z1,z2,z3⟩:=X9 (hv.blk E.o (fun h=>h)));go_simp;try rfl) ?_;try simp only[Act.put,Za,Zc,Zb])
 iterate 2 (refine Qy (h:=?_);try simp only[Act.put,Za,Zc,Zb])
 refine Xe (h:=?_);clear g0 g1 g2 g3;refine Yb ?_;go_wp2_with fail;refine Zz (d.o _) ?_;intro w2 I;have q:=O ((Zg Qb W).drew.aA I);clear I;go_wp2_with fail;refine⟨q.o,?_⟩;refine Xe (h:=?_);refine Yb ?_;go_wp2_with fail;refine⟨q.o.alloc _,?_⟩;refine Km ?_;go_wp2_with fail;refine Zz (HT.o _ w2.heap.size (B.o.aA (q.o.alloc _)) (Zp B.o.size q.o.size) (Qh.new _ _ _)) ?_;rintro w4⟨R,J⟩;have K:=O (Zt R J);clear R J;go_wp2_with fail;refine Ky ?_;go_wp2;refine bodyPost_end (by simp[*,results,Tryz.results62,go_sem]) rfl ⟨rfl,K.o⟩
theorem Qzu(h:Qau w F b bk)(Z:BOk bk)(p:Jr)(U:Ll p):ZW 81 #[ptr b,.agg (ZL p)] w (.tuple #[]) fun w'=>Qau w' (Qn F w w') b (bk.tell p.cls (Qxv p))∧Qc F w w':=by
 have k:=(Qzj U).2;obtain⟨n,z⟩:=Zx (Qx0 p.len);have HT:Hi (∀W rb,Qc Qb w W→w.heap.size≤rb→Qh W rb #[.func (.func (Qyv 2)) #[] #[],ZU 1,.bool false,.func (.func (Qyv 3)) #[] #[],ZU n,.bool false] 181→
   ZW 110 #[ZP b,ZI p.cls,.slice (some ⟨rb,0,none⟩) 2 2] W (.tuple #[]) fun w'=>Qau w' (Qn F w w') b (bk.tell p.cls (Qxv p))∧Qc F w w'):=O (fun W rb c hr hB=>Qzc h Z c p.cls (Qxv p) hB (by rw[z];rfl) hr (fun x V=>by
  simp only[Qxv,Zu,List.not_mem_nil,or_false]at V;rcases V with rfl|rfl<;>exact⟨by dsimp only;omega,by dsimp only;omega⟩) (show 2≤8 by decide) 2 rfl 2)
 have d:=O (fun W=>Qy2 p U W);rw[←z]at d;obtain⟨W,u⟩:=Zx (w.alloc (.cells (ZL p) 31));have B:Hi (Qc Qb w W):=O (by rw[u];exact(Zg _ _).alloc _);have E:Hi (Qh W w.heap.size (ZL p) 31):=O (by rw[u];exact Qh.new _ _ _);clear h Z k z;go_enter func81,ntmps81;go_wp2_with fail;rw[←u];clear u;obtain⟨g0,g1,g2,g3⟩:=X9 (E.o.drew);refine ZC [100,101,102,103,4,205,6,207,308] (fun wv=>Qc (Qb) (W) wv) ?_;simp only[Z8,Zf,Ze,Zd];iterate 2 (refine Qy (h:=?_);try simp only[Act.put,Za,Zc,Zb])
 iterate 1 (refine Qy (by kernel_rfl) (fun wv hv=>by(obtain⟨z0,z1,z2,z3⟩:=X9 (hv.blk E.o (fun h=>h)));go_simp;try rfl) ?_;try simp only[Act.put,Za,Zc,Zb])
 (refine Qy (h:=?_);try simp only[Act.put,Za,Zc,Zb]);refine Xe (h:=?_);clear g0 g1 g2 g3;refine Yb ?_;go_wp2_with fail;refine Zz (d.o _) ?_;intro w2 I;have q:=O ((Zg Qb W).drew.aA I);clear I;go_wp2_with fail;refine⟨q.o,?_⟩;refine Xe (h:=?_);refine Yb ?_;go_wp2_with fail;refine⟨q.o.alloc _,?_⟩;refine Km ?_;go_wp2_with fail;refine Zz (HT.o _ w2.heap.size (B.o.aA (q.o.alloc _)) (Zp B.o.size q.o.size) (Qh.new _ _ _)) ?_;rintro w4⟨R,J⟩;have K:=O (Zt R J);clear R J;go_wp2_with fail;refine Ky ?_;go_wp2;refine bodyPost_end (by simp[*,results,Tryz.results81,go_sem]) rfl ⟨rfl,K.o⟩
end
section
open Go.Shelf
attribute [local go_sem] Q0b
section
variable{w W:World}{F:Fp}{b rb:Nat}{bk:V1}{p:Jr}
theorem Qau.mk'{w w':World}{m b:Nat}(q:Qh w' b #[.map (some m)] 130)(u:Xq w' m (Qv7 bk))(E:w.heap.size≤b)(I:w.heap.size≤m)(c:b≠m):Qau w' (Qn Qb w w') b bk:=by refine⟨m,?_⟩;have z:=q.lt;have d:=u.lt;exact Q7 (G:=fun k=>k=b) (H:=fun k=>k=m) ⟨q,rfl,fun k e=>e▸z⟩ (Y6 ⟨u,rfl,fun k e=>e▸d⟩ (fun k e=>e▸d)) (fun k e h=>c (e.symm.trans h)) (fun k e=>(Qr k).2 (by omega)) (fun k e=>(Qr k).2 (by omega)) (fun k B=>((Qr k).1 B).2)
theorem Q0v(h:Qau w F b bk)(E:BOk bk)(i:Int):ZW 39 #[ptr b,ZI i] w (.agg (Qw0 (bk.get i))) fun w'=>Qc Qb w w':=by obtain⟨m,K,hM,_⟩:=h.opn;have HN:=O (fun w'(c:Qc Qb w w')=>Qy7 (c.blk K (fun h=>h)));obtain⟨V,Z,n2,n3,n4,n5,n6,n7,R⟩:=eight (E.get i).1;obtain⟨J,d⟩:=Zx (w.alloc (.cells ZJ 46));have B:Hi (Qc Qb w J):=O (by rw[d];exact(Zg _ _).alloc _);have B0:Hi (Qh J w.heap.size ZJ 46):=O (by rw[d];exact Qh.new _ _ _);have z:=Qau.lookup (w:=J) (hM.aB B.o (fun h=>h)) i;have a0:=Jf (B.o.blk K (fun h=>h));obtain⟨W3,s3,q,c3⟩:=Q0 (P:=prog) (vs:=Qw0 (bk.get i)) B0.o (by rw[Qyu (E.get i).1];rfl) (Qy4 _);have U:(Qw0 (bk.get i)).size=8:=Qyu (E.get i).1;have C3:=O (B.o.trans c3 (fun k e=>.inr (by omega)));have B3:Hi (Qh W3 w.heap.size #[ZU V,ZU Z,ZU n2,ZU n3,ZU n4,ZU n5,ZU n6,ZU n7] 46):=O (by rw[R]at q;exact q);obtain⟨sa,u⟩:=Zx (Qw0 (bk.get i));have I:=O (show sa=#[ZU V,ZU Z,ZU n2,ZU n3,ZU n4,ZU n5,ZU n6,ZU n7] by rw[u,R];rfl);rw[←u]at z s3 U⊢;clear h E K hM R q c3 u;go_enter func39,ntmps39;go_wp2_with fail;rw[←d];clear d;refine Zz (HN.o _ B.o) ?_;rintro w1 rfl;go_wp2_with fail;clear s3 z a0;obtain⟨g0,g1,g2,g3,g4,g5,g6,g7⟩:=Ja B3.o;rw[I.o];refine bodyPost_ret (v:=.agg #[ZU V,ZU Z,ZU n2,ZU n3,ZU n4,ZU n5,ZU n6,ZU n7]) (by rw[Lv (p:=4) (ty:=46) (by kernel_rfl)];go_simp;try rfl) rfl ⟨rfl,C3.o⟩
theorem Q0w(w):Cl 31 #[] w fun e w'=>∃b,e=.returned (ptr b)∧Qau w' (Qn Qb w w') b V1.new∧Qc Qb w w':=by
 have E:=@run_makeMap prog;obtain⟨d,z,c,B⟩:=Qau.update (bk:=[]) (w:=w.alloc (.map #[] 0)) (Xq.new w) 0 Qwi;have z:(Instr.mapUpdate 128 (.map (some w.heap.size)) (ZI 0) (.agg ZJ)).run prog (w.alloc (.map #[] 0))=.ok () d:=z;have q:Qc Qb w d:=((Zg Qb w).alloc (.map #[] 0)).trans B (fun k e=>.inr (by omega));have Xg:=c.lt;have u:=O (show Qau (d.alloc (.cells #[.map (some w.heap.size)] 130)) (Qn Qb w (d.alloc (.cells #[.map (some w.heap.size)] 130))) d.heap.size V1.new∧Qc Qb w (d.alloc (.cells #[.map (some w.heap.size)] 130))from
  ⟨Qau.mk' (Qh.new _ _ _) (c.aB ((Zg Qb d).alloc _) (fun h=>h)) q.size (Zv _) (by omega),q.alloc _⟩)
 clear c B q Xg;unfold ptr;go_enter func31,ntmps31;go_wp2_with fail;clear z;go_wp2;go_ret;exact⟨_,rfl,u.o⟩
end
end
section
variable{w W:World}{F:Fp}{b rb:Nat}{bk:V1}
theorem Q0k(h:Qau w F b bk)(B:BOk bk)(i:Int)(hi:1≤i):ZW 68 #[ptr b,ZI i] w (.tuple #[]) fun w'=>Qau w' (Qn F w w') b (bk.drop i)∧Qc F w w':=by
 have ae:=O (Qau.obj.bd h);obtain⟨m,E,hM,_⟩:=h.opn;have HN:=O (Qy7 E);obtain⟨n0,n1,n2,n3,n4,n5,n6,n7,U⟩:=eight (B.get i).1;obtain⟨W0,d⟩:=Zx (w.alloc (.cells ZJ 46));have C0:Hi (Qc Qb w W0):=O (by rw[d];exact(Zg _ _).alloc _);have B0:Hi (Qh W0 w.heap.size ZJ 46):=O (by rw[d];exact Qh.new _ _ _);have R:=Qau.lookup hM i;have a0:=Jf E;obtain⟨W3,s3,u,c3⟩:=Q0 (P:=prog) (vs:=Qw0 (bk.get i)) B0.o (by rw[Qyu (B.get i).1];rfl) (Qy4 _);have ac:(Qw0 (bk.get i)).size=8:=Qyu (B.get i).1;have C3:=O (C0.o.trans c3 (fun k e=>.inr (by omega)));have B3:Hi (Qh W3 w.heap.size #[ZU n0,ZU n1,ZU n2,ZU n3,ZU n4,ZU n5,ZU n6,ZU n7] 46):=O (by rw[U]at u;exact u);have ah:=O (C3.o.blk E (fun h=>h));have aa:n6<18446744073709551616:=by have:=Q1l (B.get i) 6;rw[U]at this;exact this
 have ab:n7<18446744073709551616:=by have:=Q1l (B.get i) 7;rw[U]at this;exact this
 have HT:Hi (∀W rb,Qc Qb w W→w.heap.size≤rb→Qh W rb #[.func (.func (Qyv 6)) #[] #[],ZU n6,.bool true,.func (.func (Qyv 7)) #[] #[],ZU n7,.bool true] 181→
   ZW 110 #[ZP b,ZI 0,.slice (some ⟨rb,0,none⟩) 2 2] W (.tuple #[]) fun w'=>Qau w' (Qn F w w') b (bk.tell 0 (Qx5 (bk.get i)))∧Qc F w w'):=O (fun W rb c ag E=>by
  have:=Qzc h B c 0 [⟨6,n6,true⟩,⟨7,n7,true⟩] E rfl ag (fun x hx=>by
   simp only[Zu,List.not_mem_nil,or_false]at hx;rcases hx with rfl|rfl;·exact⟨by dsimp only;omega,aa⟩
   ·exact⟨by dsimp only;omega,ab⟩) (show 2≤8 by decide) 2 rfl 2
  rw[show Qx5 (bk.get i)=[⟨6,n6,true⟩,⟨7,n7,true⟩] by rw[U];rfl];exact this)
 have HD:=O (show bk.drop i=(bk.tell 0 (Qx5 (bk.get i))).filter fun y=>!decide (y.1=i) by unfold V1.drop;rw[if_neg (by omega)]);have ai:decide (i<1)=false:=by simp;omega
 obtain⟨sa,Z⟩:=Zx (Qw0 (bk.get i));rw[←Z]at R s3 ac;rw[d]at s3;obtain⟨g0,g1,g2,g3,g4,g5,g6,g7⟩:=Ja B3.o;clear h B E hM U u c3 Z aa ab hi d;go_enter func68,ntmps68;go_wp2_with fail;refine Zy HN ?_;rintro w1 rfl;go_wp2_with fail;clear s3 R a0 ac g0 g1 g2 g3 g4 g5 g6 g7;refine Zz (HT.o _ W3.heap.size (C3.o.alloc _) C3.o.size (Qh.new _ _ _)) ?_;rintro w4⟨h4,c4⟩;obtain⟨m4,I,J,f4,g4,V,af,q⟩:=h4.opn;obtain⟨w5,h5,z,c5⟩:=Di (P:=prog) J underlying128 underlying3 3 0 i;rw[Qxg,←HD.o]at z;obtain⟨p1,p2⟩:=q w5 _ c5 z;obtain⟨q1,q2⟩:=Qau.obj.two p1 ae.o c4 p2;have K:=O (Zt q1 q2);have a0:=Jf I;clear h4 c4 I J f4 g4 V af q z c5 p1 p2 q1 q2;go_wp2_with fail;clear h5 a0;go_wp2;refine bodyPost_end (by simp[*,results,Tryz.results68,go_sem]) rfl ⟨rfl,K.o⟩
end
section
variable{A:EAd}{w:World}{F:Fp}{b:Nat}{e:Vi}
theorem Qyw(h:Qh w b (Qyg A e) 87):ZW 32 #[ptr b] w (.bool false) fun w'=>w=w':=by obtain⟨c,d,k,q,u,z,B,E,I⟩:=Av h;clear h;go_enter func32,ntmps32;go_wp2;go_ret;exact⟨rfl,rfl⟩
theorem Qzn(h:Qh w b (Qyg A e) 87):ZW 13 #[ptr b] w (ZU e.now) fun w'=>w=w':=by have c:=O (Qyw h);obtain⟨d,k,q,u,z,B,E,I,J⟩:=Av h;clear h;go_enter func13,ntmps13;go_wp2_with fail;refine Zo c ?_;rintro r w1⟨rfl,rfl⟩;go_wp2;go_ret;exact⟨rfl,rfl⟩
theorem Qyy(h:Qh w b (Qyg A e) 87):ZW 10 #[ptr b] w (.bool e.stopped) fun w'=>Qc Qb w w':=by
 have q:=O (fun w'(c:Qc Qb w w')=>Qyw (c.blk h (fun h=>h)));have k:=O (Zg Qb w).drew;obtain⟨z,B,E,I,J,K,R,U,V⟩:=Av ((Zg Qb w).drew.blk h (fun h=>h));have u:decide ((e.hor:Int)≤(e.now:Int))=e.stopped:=by unfold Vi.stopped;simp
 have d:decide (e.hor≤e.now)=e.stopped:=rfl;generalize e.stopped=Z at u d⊢;clear h;go_enter func10,ntmps10;go_wp2_with fail;refine ZB [0,201,2,3,4,5,6,7,8,9,10,11,12,13,14,215] ?_;simp only[Z8,Zf,Ze,Zd];refine Jq (h:=?_);refine J7 ?_;go_wp2_with fail;refine(q.o _ k.o).mono ?_;rintro r w1⟨rfl,rfl⟩;go_wp2_with fail;iterate 13 (refine Jq (h:=?_))
 refine J7 ?_;go_wp2_with fail;refine Jo ?_;go_wp2;go_ret;exact⟨rfl,k.o⟩
theorem Qyx(h:Qh w b (Qyg A e) 87):ZW 36 #[ptr b] w (ZI (if e.stopped then 261 else 0)) fun w'=>Qc Qb w w':=by
 have u:=O (Qyw h);have c:=O (Qyy h);clear h;cases k:e.stopped;all_goals
  rw[k]at c;clear k;go_enter func36,ntmps36;go_wp2_with fail;refine Zo u ?_;rintro r w1⟨rfl,rfl⟩;go_wp2_with fail;refine Zo c ?_;rintro r w2⟨rfl,d⟩;have q:=O d;clear d;go_wp2;go_ret;exact⟨rfl,q.o⟩
theorem Q0n(h:V6 (Qyg A e) A w F b e){N:Nat}(u:Xp N e.sched)(k:N<549755813000):Cl 16 #[ptr b] w fun r w'=>∃p,r=.returned (ptr p)∧Qt w' (Qn Qb w w') p e.sched∧Qc Qb w w':=by have B:=O (Qyw h.blk.1);obtain⟨G,⟨E,q⟩,_⟩:=h.schedOf;have z:=O (Qmc q u k);obtain⟨I,J,R,U,V,Z,a6,a7,a8⟩:=Av h.blk.1;clear h q u k;go_enter func16,ntmps16;go_wp2_with fail;refine Zo B ?_;rintro r w1⟨rfl,rfl⟩;go_wp2_with fail;refine Zo z ?_;rintro r w2⟨p,rfl,d,c⟩;have K:=O (Zt d c);clear d c;go_wp2;go_ret;exact⟨_,rfl,K.o⟩
end
theorem Q0h(v:Value)(K:List D7)(w)(V:Own Qxe 8 51 w v K)(hl:K.length<1099511627776):
  Cl 38 #[v] w fun e w'=>∃u,e=.returned u∧Own Qxe 8 51 w' u K∧Qc Qb w w'∧(∀k,u.ownBlock=some k→w.heap.size≤k)∧(v=.slice none 0 0→u=.slice none 0 0):=by
 obtain⟨a,cap,rfl,B,U,d⟩:=V.row sentT.hc;have HR:=O d;have HK:=O V;clear d V;have I:=fun(W)=>Lib.run_eql_slice_nil (P:=prog) W 43 51 a K.length cap 0 0 underlying43;cases a with
 |none=>
  obtain rfl:=U rfl;have E:K.length=0:=by omega
  obtain rfl:=List.eq_nil_of_length_eq_zero E;have C0:=O (Zg Qb w);simp only[List.length_nil,Option.isNone_none]at I;clear B U hl E;go_enter func38,ntmps38;go_wp2;go_ret;exact⟨_,rfl,Own.nil _ _ _ _,C0.o,nofun,fun _=>rfl⟩
 |some ad=>
  clear U;go_enter func38,ntmps38;go_wp2_with (at_builtin;refine Jj sentT rfl (.tmp 5) (.tmp 6) rfl _ ([]:List D7) rfl (Own.empty (Qh.new' _ _ (by simp))) _ _ K rfl ?a2 ?a3 ?a4 ?a5 ?a6);case a2=>intro h;cases h
  case a3=>exact HR.o.aB ((Zg Qb w).alloc _) (fun _ _ h=>h)
  case a4=>simp[maxLen];omega
  case a5=>simp;omega
  case a6=>
   intro u w1 c z J;have Z:Qc Qb w w1:=((Zg Qb w).alloc (.cells #[] 51)).trans z fun j hj=>.inr (by simp[Value.ownBlock]at hj;omega);have K2:∀k,u.ownBlock=some k→w.heap.size≤k:=by
    intro k R;rcases J with h|h;·rw[h]at R;simp[Value.ownBlock]at R;omega
    ·rw[h]at R;have:=Zs R;have hz:(w.alloc (.cells #[] 51)).heap.size=w.heap.size+1:=by simp
     omega
   have q:=O (Zt c (Zt Z K2));clear c Z K2 z J;go_wp2;go_ret;exact⟨_,rfl,q.o.1,q.o.2.1,q.o.2.2,nofun⟩
section
variable{A:EAd}{w:World}{F:Fp}{b:Nat}{e:Vi}{v:Value}{x:D7}{cs:Array Value}
theorem Qxw.one(h:Qxw w v [x]):∃g cap,v=.slice (some ⟨g,0,none⟩) 1 cap∧v.ownBlock=some g∧∃cs,Qh w g cs 51∧∀(j:Nat)(u:Value),(Qxe x)[j]? =some u→cs[j]? =some u:=by
 obtain⟨_,h⟩:=h;rcases h with⟨rfl,B⟩|⟨g,cap,d,rfl,I,z,K,k,E,c⟩;·cases B
 ·refine⟨g,cap,rfl,rfl,d,z,fun j u q=>?_⟩;have J:j<8:=(Z1.1 q).1;have e:(d.toList.take (1*8))[j]? =(Qxe x)[j]? :=by rw[show(1:Nat)=[x].length from rfl];rw[c];simp[Jm]
  rw[List.getElem?_take_of_lt (by omega),q]at e;simpa using e
theorem Q1m(h:Qh w b cs 51)(c:∀(j:Nat)(u:Value),(Qxe x)[j]? =some u→cs[j]? =some u):
  w.cell? ⟨b,0,none⟩=some (ZU x.p.id)∧w.cell? ⟨b,1,none⟩=some (ZI x.p.cls)∧w.cell? ⟨b,2,none⟩=some (ZI x.p.len)∧w.cell? ⟨b,3,none⟩=some (ZU x.p.at_)∧
  w.cell? ⟨b,4,none⟩=some (.int .u8 x.rule)∧w.cell? ⟨b,5,none⟩=some (ZU x.frm)∧w.cell? ⟨b,6,none⟩=some (ZU x.til)∧w.cell? ⟨b,7,none⟩=some (ZU x.due):=
 ⟨h.at 0 (c 0 _ rfl),h.at 1 (c 1 _ rfl),h.at 2 (c 2 _ rfl),h.at 3 (c 3 _ rfl),h.at 4 (c 4 _ rfl),h.at 5 (c 5 _ rfl),h.at 6 (c 6 _ rfl),h.at 7 (c 7 _ rfl)⟩
theorem Qzw(h:V6 (Qyg A e) A w F b e)(z:e.sent.length<1099511627776):Cl 14 #[ptr b] w fun r w'=>∃c,r=.returned c∧Qxw w' c e.sent∧Qc Qb w w'∧∀k,c.ownBlock=some k→w.heap.size≤k:=by have I:=O (Qyw h.blk.1);obtain⟨G,u,_⟩:=h.sentOf;have E:=O (Q0h A.ss e.sent w u.1 z);obtain⟨J,R,U,V,Z,a5,a6,a7,a8⟩:=Av h.blk.1;clear h u z;go_enter func14,ntmps14;go_wp2_with fail;refine Zo I ?_;rintro r w1⟨rfl,rfl⟩;go_wp2_with fail;refine Zo E ?_;rintro r w2⟨c,rfl,q,d,B,_⟩;have K:=O (Zt q (Zt d B));clear q d B;go_wp2;go_ret;exact⟨_,rfl,K.o⟩
end
section
variable{A:EAd}{w:World}{F:Fp}{b:Nat}{e:Vi}
theorem Qzo(h:V6 (Qyg A e) A w F b e)(E:BOk e.book)(i:Int):ZW 15 #[ptr b,ZI i] w (.agg (Qw0 (e.book.get i))) fun w'=>Qc Qb w w':=by
 have HN:=O (fun w'(c:Qc Qb w w')=>Qyw (c.blk h.blk.1 (fun h=>h)));obtain⟨G,hK,_⟩:=h.bookOf;obtain⟨Z,n1,n2,n3,n4,n5,n6,n7,U⟩:=eight (E.get i).1;obtain⟨R,q⟩:=Zx (w.alloc (.cells ZJ 46));have I:Hi (Qc Qb w R):=O (by rw[q];exact(Zg _ _).alloc _);have B0:Hi (Qh R w.heap.size ZJ 46):=O (by rw[q];exact Qh.new _ _ _);have HG:=O (Q0v (Qau.obj.aB hK I.o (Jl.none G)) E i);obtain⟨a0,a1,a2,a3,a4,a5,a6,a7,a8⟩:=Av (I.o.blk h.blk.1 (fun h=>h));have ST:Hi (∀w2,Qc Qb R w2→∃z,(storeCells ⟨w.heap.size,0,none⟩ (Qw0 (e.book.get i)).toList 0).run prog w2=.ok () z∧Qh z w.heap.size #[ZU Z,ZU n1,ZU n2,ZU n3,ZU n4,ZU n5,ZU n6,ZU n7] 46∧Qc Qb w z):=O (fun w2 B=>by
  obtain⟨z,s3,d,J⟩:=Q0 (P:=prog) (vs:=Qw0 (e.book.get i)) (B.blk B0.o (fun h=>h)) (by rw[Qyu (E.get i).1];rfl) (Qy4 _);rw[U]at d;exact⟨z,s3,d,(I.o.aA B).trans J (fun k e=>.inr (by omega))⟩)
 have V:(Qw0 (e.book.get i)).size=8:=Qyu (E.get i).1;obtain⟨sa,u⟩:=Zx (Qw0 (e.book.get i));have K:=O (show sa=#[ZU Z,ZU n1,ZU n2,ZU n3,ZU n4,ZU n5,ZU n6,ZU n7] by rw[u,U];rfl);rw[←u]at HG ST V⊢;clear h E hK U u;go_enter func15,ntmps15;go_wp2_with fail;rw[←q];clear q;refine(HN.o _ I.o).mono ?_;rintro r w1⟨rfl,rfl⟩;go_wp2_with fail;refine Zo HG ?_;rintro r w2⟨rfl,B⟩;obtain⟨z,s3,d,J⟩:=ST.o w2 B;have B3:=O d;have C3:=O J;clear d J B;go_wp2_with fail;clear s3 a0 a1 a2 a3 a4 a5 a6 a7 a8;obtain⟨g0,g1,g2,g3,g4,g5,g6,g7⟩:=Ja B3.o;rw[K.o];refine bodyPost_ret (v:=.agg #[ZU Z,ZU n1,ZU n2,ZU n3,ZU n4,ZU n5,ZU n6,ZU n7]) (by rw[Lv (p:=4) (ty:=46) (by kernel_rfl)];go_simp;try rfl) rfl ⟨rfl,C3.o⟩
def Qza:Option D7→Array Value
 |none=>#[ZU 0,ZI 0,ZI 0,ZU 0,.int .u8 0,ZU 0,ZU 0,ZU 0]
 |some x=>#[ZU x.p.id,ZI x.p.cls,ZI x.p.len,ZU x.p.at_,.int .u8 x.rule,ZU x.frm,ZU x.til,ZU x.due]
theorem Q0o(h:V6 (Qyg A e) A w F b e):ZW 21 #[ptr b] w (.tuple #[.agg (Qza e.aM),.bool e.aM.isSome]) fun w'=>Qc Qb w w':=by
 have HN:=O (fun w'(c:Qc Qb w w')=>Qyw (c.blk h.blk.1 (fun h=>h)));obtain⟨G,E,_⟩:=h.underOf;obtain⟨R,d⟩:=Zx (w.alloc (.cells ZG 51));have B:Hi (Qc Qb w R):=O (by rw[d];exact(Zg _ _).alloc _);have K:Hi (Qh R w.heap.size ZG 51):=O (by rw[d];exact Qh.new _ _ _);have Z:=O (B.o.blk h.blk.1 (fun h=>h));cases I:e.aM with
 |some x=> rw[I]at E;obtain⟨g,cap,q,_,cs,hB,hx⟩:=Qxw.one E.1;have HL:Hi (R.rangeAt g 0 (Qxe x)):=O (fun j u I=>by rw[Nat.zero_add];exact(B.o.blk hB (fun h=>h)).at j (hx j u I));obtain⟨a0,a1,a2,a3,a4,a5,a6,U,a8⟩:=Av Z.o;rw[q]at U;obtain⟨W3,s3,J,c3⟩:=Q0 (P:=prog) (vs:=(Qxe x).toArray) K.o rfl (fun v hv=>sentT.one x v (by simpa using hv));have C3:=O (B.o.trans c3 (fun k e=>.inr (by omega)));have B3:Hi (Qh W3 w.heap.size (ZM x) 51):=O J;have V:(Qxe x).toArray.size=8:=rfl;have z:Hi ((Qxe x).toArray=(ZM x)):=O (rfl);show Cl 21 #[ptr b] w fun r w'=>r=.returned (.tuple #[.agg (ZM x),.bool true])∧Qc Qb w w';rw[←z.o];clear h E I q hB hx J c3;go_enter func21,ntmps21;go_wp2_with fail;rw[←d];clear d;refine(HN.o _ B.o).mono ?_;rintro r w1⟨rfl,rfl⟩;go_wp2_with (with_reducible refine wpList_load_mid rfl 51 (.tmp 19) rfl g 0 rfl (Qxe x) _ HL.o underlying51 rfl (by kernel_rfl) ?_);generalize(Qxe x).toArray=sa at s3 V z⊢;go_wp2_with fail;clear s3;obtain⟨g0,g1,g2,g3,g4,g5,g6,g7⟩:=Ja B3.o;rw[z.o];refine bodyPost_ret (v:=.tuple #[.agg (ZM x),.bool true]) (by rw[results_cell_tmp (p:=2) (u:=3) (ty:=51) (by kernel_rfl)];go_simp;try rfl) rfl ⟨rfl,C3.o⟩
 |none=>
  rw[I]at E;obtain⟨ad,cap,q,_⟩:=Own.row Qws E.1;obtain⟨a0,a1,a2,a3,a4,a5,a6,U,a8⟩:=Av Z.o;rw[q]at U;clear h E I q;go_enter func21,ntmps21;go_wp2_with fail;rw[←d];clear d;refine(HN.o _ B.o).mono ?_;rintro r w1⟨rfl,rfl⟩;obtain⟨z0,z1,z2,z3,z4,z5,z6,z7⟩:=Ja K.o;have fz:=K.o.frozen;go_wp2_with fail;refine bodyPost_ret (v:=.tuple #[.agg ZG,.bool false]) (by rw[results_cell_tmp (p:=2) (u:=3) (ty:=51) (by kernel_rfl)];go_simp;try rfl) rfl ⟨rfl,?_⟩;iterate 8 (with_reducible refine Qc.setCell ?_ _ (Or.inr (Zv _)))
  exact B.o
end
section
variable{w W:World}{F:Fp}{b n3 n5 n6 n7 n8 fr now:Nat}{l:V2}{len:Int}
theorem Q04(K:Qh W n3 #[ZP b] 79)(B5:Qh W n5 #[ZI len] 3)(c:Qh W n6 #[ZU 0] 22)(B:Qh W n7 #[ZI 0] 37)(B8:Qh W n8 #[ZU fr] 22)
  (E:Qh W b (Qx6 l) 125)(h3:b≠n3)(h5:b≠n5)(h6:b≠n6)(h7:b≠n7)(h8:b≠n8)(d:n6≠n3)(q:n6≠n7)(hr:1≤l.rate∧l.rate≤1048576)(hl:1≤len∧len≤65535)(hf:fr≤1152921504606846976)(u:FrameMode):
  CallsD prog 138 #[ZP n7,ZP n8,ZP n5,ZP n3,ZP n6] u W fun e u' w'=>u'=u∧(e=.returned (.tuple #[])∧
   Qh w' b (Qx6 ⟨l.rate,fr+len.toNat*256,false⟩) 125∧Qh w' n6 #[ZU ((V2.aU ⟨l.rate,fr+len.toNat*256,false⟩:Nat):Int)] 22∧Qh w' n7 #[ZI 0] 37∧Qc (fun k=>k=b∨k=n6) W w'):=by
 have e1:IntKind.u64.wrap len=len:=by rw[IntWalk.u64_in _ (by omega)]
 have e2:IntKind.u64.wrap (len*256)=((len.toNat*256:Nat):Int):=by rw[IntWalk.u64_in _ (by omega)];omega
 have e3:IntKind.u64.wrap ((fr:Int)+((len.toNat*256:Nat):Int))=((fr+len.toNat*256:Nat):Int):=by rw[IntWalk.u64_in _ (by omega)];omega
 have OK:Qy6 ⟨l.rate,fr+len.toNat*256,false⟩:=⟨hr,by show fr+len.toNat*256≤_;omega⟩;obtain⟨tk,z⟩:=Zx (fr+len.toNat*256);rw[←z]at e3 OK⊢;generalize len.toNat*256=lg at e2 e3;have W1:Hi (∀w1,w1=(W.setCell ⟨b,1,none⟩ (ZU tk)).setCell ⟨b,2,none⟩ (.bool false)→Qh w1 b (Qx6 ⟨l.rate,tk,false⟩) 125∧Qc (fun k=>k=b) W w1):=O (by
  rintro w1 rfl;exact⟨(E.set' 1 _ rfl).set' 2 _ rfl,((Zg (fun k=>k=b) W).setCell (a:=⟨b,1,none⟩) _ (.inl rfl)).setCell (a:=⟨b,2,none⟩) _ (.inl rfl)⟩)
 have Z:=O c;have aa:=O B;have ab:=O K;have I:=O (Zt h3 (Zt h6 (Zt h7 (Zt d q))));obtain⟨a0,a1,a2⟩:=L6 E;have fb:=E.frozen;have c3:=Jf K;have c5:=Jf B5;have c7:=Jf B;have c8:=Jf B8;clear K B5 B8 E z hl hf hr h5 h8;go_enter_d func138,ntmps138;go_wp2_with fail;obtain⟨J,k2⟩:=W1.o _ rfl;generalize(W.setCell ⟨b,1,none⟩ (ZU tk)).setCell ⟨b,2,none⟩ (.bool false)=V at J k2⊢;refine Zz (Qy3 J OK) ?_;intro w2 c2;have U:=O (k2.aA c2.none);have R:=O (c2.blk J (fun h=>h));have c:=O (U.o.blk Z.o (fun e=>I.o.2.1 e.symm));have B:=O (U.o.blk aa.o (fun e=>I.o.2.2.1 e.symm));have d6:=Jf c.o;have f6:=c.o.frozen 0;clear J k2 c2 a0 a1 a2 fb c3 c5 c7 c8 h3 h6 h7 d q;go_wp2_with fail;go_end0;refine⟨rfl,R.o.other (a:=⟨n6,0,none⟩) _ (fun e=>I.o.2.1 e.symm),c.o.set' 0 _ rfl,B.o.other (a:=⟨n6,0,none⟩) _ (fun e=>I.o.2.2.2.2 e),?_⟩;exact(U.o.sub fun k h=>.inl h).setCell (a:=⟨n6,0,none⟩) _ (.inl (.inr rfl))
theorem Q0q(h:P3 w F b l)(ok:Qy6 l)(he:l.sendE now len=0)(hn:now≤1099511627776)(al:l.from_ now≤1152921504606846976):
  ZW 83 #[ptr b,ZU now,ZI len] w (.tuple #[ZU (l.til now len:Int),ZI 0]) fun w'=>P3 w' (Qn F w w') b (l.send now len)∧Qc F w w':=by
 have aq:∀(fn:Fn)(R cap:Array Value)(w),(Instr.makeFunc fn R cap).run prog w=.ok (.func fn R cap) w:=fun _ _ _ _=>rfl;obtain⟨n,J⟩:=Zx (w.heap.size);have Xg:b<n:=by rw[J];exact h.1.lt
 have ae:1≤len∧len≤65535:=by
  unfold V2.sendE at he;split at he;·exact absurd he (by decide)
  split at he;·exact absurd he (by decide)
  ·omega
 obtain⟨W,hW⟩:=Zx (((((w.alloc (.cells #[ZP b] 79)).alloc (.cells #[ZI len] 3)).alloc (.cells #[ZU 0] 22)).alloc (.cells #[ZI 0] 37)).alloc (.cells #[ZU 0] 22));have C0:Hi (Qc Qb w W):=O (by rw[hW];exact(((((Zg _ _).alloc _).alloc _).alloc _).alloc _).alloc _);have B3:Hi (Qh W n #[ZP b] 79):=O (by rw[hW,J];exact((((Qh.new' _ _ (by simp<;>omega)).alloc _).alloc _).alloc _).alloc _);have B5:Hi (Qh W (n+1) #[ZI len] 3):=O (by rw[hW,J];exact(((Qh.new' _ _ (by simp<;>omega)).alloc _).alloc _).alloc _);have B6:Hi (Qh W (n+1+1) #[ZU 0] 22):=O (by rw[hW,J];exact((Qh.new' _ _ (by simp<;>omega)).alloc _).alloc _);have B7:Hi (Qh W (n+1+1+1) #[ZI 0] 37):=O (by rw[hW,J];exact(Qh.new' _ _ (by simp<;>omega)).alloc _);have B8:Hi (Qh W (n+1+1+1+1) #[ZU 0] 22):=O (by rw[hW,J];exact Qh.new' _ _ (by simp<;>omega));have BL:=O (C0.o.blk h.1 (fun h=>h));have ah:=O (fun w1(c:Qc Qb W w1)=>Q0f (c.blk BL.o (fun h=>h)) ok he);obtain⟨id,ac⟩:=Zx (l.idles);have ag:=O (fun w1(hB:Qh w1 b #[ZU l.rate,ZU l.taken,.bool id] 125)=>Qy3 (l:=l) (by rw[ac]at hB;exact hB) ok);have HL:=O h;have E1:IntKind.u64.wrap ((now:Int)*(l.rate:Int))=((now*l.rate:Nat):Int):=by have:=Nat.mul_le_mul hn ok.rate.2;rw[IntWalk.u64_in _ (by omega)];omega
 obtain⟨pr,ak⟩:=Zx (now*l.rate);rw[←ak]at E1;have aa:l.from_ now=if !id&&decide (now=l.aU)then l.taken else pr:=by rw[ak,ac];rfl
 have Z:l.send now len=⟨l.rate,l.from_ now+len.toNat*256,false⟩:=by unfold V2.send;rw[if_pos he]
 have am:l.til now len=(V2.aU ⟨l.rate,l.from_ now+len.toNat*256,false⟩):=by unfold V2.til;rw[if_pos he,Z]
 rw[Z,am];have E:=O (show∀V,Qc (fun k=>n+1+1≤k) W V→Qh V (n+1+1) #[ZU 0] 22→Qh V (n+1+1+1) #[ZI 0] 37→Qh V (n+1+1+1+1) #[ZU (l.from_ now:Int)] 22→
  CallsD prog 138 #[ZP (n+1+1+1),ZP (n+1+1+1+1),ZP (n+1),ZP n,ZP (n+1+1)] .returning V fun e u' w'=>u'=.returning∧(e=.returned (.tuple #[])∧
   w'.cell? ⟨n+1+1,0,none⟩=some (ZU ((V2.aU ⟨l.rate,l.from_ now+len.toNat*256,false⟩:Nat):Int))∧w'.cell? ⟨n+1+1+1,0,none⟩=some (ZI 0)∧P3 w' (Qn F w w') b ⟨l.rate,l.from_ now+len.toNat*256,false⟩∧Qc F w w')from by
  intro V c B6 B7 B8;have ao:=c.blk BL.o (fun h=>by omega);refine(Q04 (c.blk B3.o (fun h=>by omega)) (c.blk B5.o (fun h=>by omega)) B6 B7 B8 ao (by omega) (by omega) (by omega) (by omega) (by omega) (by omega) (by omega) ok.rate ae al .returning).mono ?_;rintro e u' w'⟨rfl,rfl,b1,b2,b3,I⟩;have cc:Qc (fun k=>k=b) w w':=((C0.o.none (F:=fun k=>k=b)).trans c fun k hk=>.inr (by omega)).trans I fun k hk=>hk.elim .inl (fun e=>.inr (by omega));exact⟨rfl,rfl,Jf b2,Jf b3,h.set cc b1⟩)
 have BL:Hi (Qh W b #[ZU l.rate,ZU l.taken,.bool id] 125):=O (by rw[ac];exact BL.o);have d0:decide ((now:Int)=(l.aU:Int))=decide (now=l.aU):=decide_eq_decide.2 (by omega);have d1:((now:Int)==(l.aU:Int))=decide (now=l.aU):=by rw[Bool.eq_iff_iff,beq_iff_eq,decide_eq_true_eq];omega
 generalize l.from_ now=fr at aa E⊢;have K:=O aa;generalize l.aU=un at ag d0 d1 aa K;have q0:¬b=n+1+1:=by omega
 have q1:¬b=n+1+1+1:=by omega
 have q2:¬b=n+1+1+1+1:=by omega
 have q3:¬n+1+1=b:=by omega
 have q4:¬n+1+1+1=b:=by omega
 have q5:¬n+1+1+1+1=b:=by omega
 have af:=O J;have ai:=O hW;clear h ok he hn al Xg ae ak J hW aa;unfold ptr Qx6 at*;have QQ:=O (Zt q0 (Zt q1 q2));clear ac;cases id with
 |true=> have U:fr=pr:=K.o;subst U;clear d0 d1;go_enter_defers func83,ntmps83;go_wp2_with fail;rw[←af.o,←ai.o];refine Zz (ah.o _ (Zg _ _)) ?_;intro w1 d;have q:=O (d.blk B6.o (fun h=>h));have u:=O (d.blk B7.o (fun h=>h));have z:=O (d.blk B8.o (fun h=>h));have B:=O (d.blk BL.o (fun h=>h));have b3:=Jf (d.blk B3.o (fun h=>h));have b5:=Jf (d.blk B5.o (fun h=>h));obtain⟨a0,a1,a2⟩:=L6 B.o;have b6:=Jf q.o;have b7:=Jf u.o;have b8:=Jf z.o;have g6:=q.o.frozen 0;have g7:=u.o.frozen 0;have g8:=z.o.frozen 0;have C1:=O (d.none (F:=fun k=>n+1+1≤k));clear d;go_wp2_with fail;refine leaves_cons (f:=138) (args:=#[ZP (n+1+1+1),ZP (n+1+1+1+1),ZP (n+1),ZP n,ZP (n+1+1)]) (by simp) (by simp[go_sem]) ?_;refine(E.o _ ((((C1.o.setCell _ (by show _∨_;left;show n+1+1≤n+1+1+1;omega)).setCell _ (by left;show n+1+1≤n+1+1+1+1;omega)).setCell _ (by left;exact Zv _)).setCell _ (by left;show n+1+1≤n+1+1+1;omega)) ((((q.o.other _ (by simp<;>omega)).other _ (by simp<;>omega)).set' 0 _ rfl).other _ (by simp<;>omega)) ((((u.o.set' 0 _ rfl).other _ (by simp<;>omega)).other _ (by simp<;>omega)).set' 0 _ rfl) ((((z.o.other _ (by simp<;>omega)).set' 0 _ rfl).other _ (by simp<;>omega)).other _ (by simp<;>omega))).mono ?_;rintro e u' an⟨rfl,rfl,r6,r7,hh,hc⟩;exact⟨.tuple #[ZU ((V2.aU ⟨l.rate,fr+len.toNat*256,false⟩:Nat):Int),ZI 0],by simp[results,Tryz.results83,go_sem,r6,r7],rfl,hh,hc⟩
 |false=>
  cases ab:decide (now=un)with
  |true=> rw[ab]at d0 d1 K;have U:fr=l.taken:=K.o;subst U;clear ab;go_enter_defers func83,ntmps83;go_wp2_with fail;rw[←af.o,←ai.o];refine Zz (ah.o _ (Zg _ _)) ?_;intro w1 d;have q:=O (d.blk B6.o (fun h=>h));have u:=O (d.blk B7.o (fun h=>h));have z:=O (d.blk B8.o (fun h=>h));have B:=O (d.blk BL.o (fun h=>h));have aj:=O (d.blk B3.o (fun h=>h));have b3:=Jf (d.blk B3.o (fun h=>h));have b5:=Jf (d.blk B5.o (fun h=>h));obtain⟨a0,a1,a2⟩:=L6 B.o;have b6:=Jf q.o;have b7:=Jf u.o;have b8:=Jf z.o;have g6:=q.o.frozen 0;have g7:=u.o.frozen 0;have g8:=z.o.frozen 0;have C1:=O (d.none (F:=fun k=>n+1+1≤k));clear d;go_wp2_with fail;refine Zz (ag.o _ ((B.o.other _ (by simp<;>omega)).other _ (by simp<;>omega))) ?_;intro w2 I;have D6:=O (I.blk ((q.o.other (a:=⟨n+1+1+1,0,none⟩) (ZI 0) (by simp<;>omega)).other (a:=⟨n+1+1+1+1,0,none⟩) (ZU pr) (by simp<;>omega)) (fun h=>h));have D7:=O (I.blk ((u.o.set' 0 (ZI 0) rfl).other (a:=⟨n+1+1+1+1,0,none⟩) (ZU pr) (by simp<;>omega)) (fun h=>h));have D8:=O (I.blk ((z.o.other (a:=⟨n+1+1+1,0,none⟩) (ZI 0) (by simp<;>omega)).set' 0 (ZU pr) rfl) (fun h=>h));have DL:=O (I.blk ((B.o.other (a:=⟨n+1+1+1,0,none⟩) (ZI 0) (by simp<;>omega)).other (a:=⟨n+1+1+1+1,0,none⟩) (ZU pr) (by simp<;>omega)) (fun h=>h));have ap:=Jf (I.blk ((aj.o.other (a:=⟨n+1+1+1,0,none⟩) (ZI 0) (by simp<;>omega)).other (a:=⟨n+1+1+1+1,0,none⟩) (ZU pr) (by simp<;>omega)) (fun h=>h));have C2:=O (((C1.o.setCell (a:=⟨n+1+1+1,0,none⟩) (ZI 0) (by left;show n+1+1≤n+1+1+1;omega)).setCell (a:=⟨n+1+1+1+1,0,none⟩) (ZU pr) (by left;show n+1+1≤n+1+1+1+1;omega)).trans I (fun k h=>h.elim));clear I a0 a1 a2 b3 b5 b6 b7 b8 g6 g7 g8;obtain⟨a0,a1,a2⟩:=L6 DL.o;have b6:=Jf D6.o;have b7:=Jf D7.o;have b8:=Jf D8.o;have g6:=D6.o.frozen 0;have g7:=D7.o.frozen 0;have g8:=D8.o.frozen 0;go_wp2_with fail;refine leaves_cons (f:=138) (args:=#[ZP (n+1+1+1),ZP (n+1+1+1+1),ZP (n+1),ZP n,ZP (n+1+1)]) (by simp) (by simp[go_sem]) ?_;refine(E.o _ ((C2.o.setCell _ (by left;show n+1+1≤n+1+1+1+1;omega)).setCell _ (by left;show n+1+1≤n+1+1;omega) |>.setCell _ (by left;show n+1+1≤n+1+1+1;omega)) (((D6.o.other _ (by simp<;>omega)).set' 0 _ rfl).other _ (by simp<;>omega)) (((D7.o.other _ (by simp<;>omega)).other _ (by simp<;>omega)).set' 0 _ rfl) (((D8.o.set' 0 _ rfl).other _ (by simp<;>omega)).other _ (by simp<;>omega))).mono ?_;rintro e u' an⟨rfl,rfl,r6,r7,hh,hc⟩;exact⟨.tuple #[ZU ((V2.aU ⟨l.rate,l.taken+len.toNat*256,false⟩:Nat):Int),ZI 0],by simp[results,Tryz.results83,go_sem,r6,r7],rfl,hh,hc⟩
  |false=> rw[ab]at d0 d1 K;have U:fr=pr:=K.o;subst U;clear ab;go_enter_defers func83,ntmps83;go_wp2_with fail;rw[←af.o,←ai.o];refine Zz (ah.o _ (Zg _ _)) ?_;intro w1 d;have q:=O (d.blk B6.o (fun h=>h));have u:=O (d.blk B7.o (fun h=>h));have z:=O (d.blk B8.o (fun h=>h));have B:=O (d.blk BL.o (fun h=>h));have aj:=O (d.blk B3.o (fun h=>h));have b3:=Jf (d.blk B3.o (fun h=>h));have b5:=Jf (d.blk B5.o (fun h=>h));obtain⟨a0,a1,a2⟩:=L6 B.o;have b6:=Jf q.o;have b7:=Jf u.o;have b8:=Jf z.o;have g6:=q.o.frozen 0;have g7:=u.o.frozen 0;have g8:=z.o.frozen 0;have C1:=O (d.none (F:=fun k=>n+1+1≤k));clear d;go_wp2_with fail;refine Zz (ag.o _ ((B.o.other _ (by simp<;>omega)).other _ (by simp<;>omega))) ?_;intro w2 I;have D6:=O (I.blk ((q.o.other (a:=⟨n+1+1+1,0,none⟩) (ZI 0) (by simp<;>omega)).other (a:=⟨n+1+1+1+1,0,none⟩) (ZU fr) (by simp<;>omega)) (fun h=>h));have D7:=O (I.blk ((u.o.set' 0 (ZI 0) rfl).other (a:=⟨n+1+1+1+1,0,none⟩) (ZU fr) (by simp<;>omega)) (fun h=>h));have D8:=O (I.blk ((z.o.other (a:=⟨n+1+1+1,0,none⟩) (ZI 0) (by simp<;>omega)).set' 0 (ZU fr) rfl) (fun h=>h));have DL:=O (I.blk ((B.o.other (a:=⟨n+1+1+1,0,none⟩) (ZI 0) (by simp<;>omega)).other (a:=⟨n+1+1+1+1,0,none⟩) (ZU fr) (by simp<;>omega)) (fun h=>h));have ap:=Jf (I.blk ((aj.o.other (a:=⟨n+1+1+1,0,none⟩) (ZI 0) (by simp<;>omega)).other (a:=⟨n+1+1+1+1,0,none⟩) (ZU fr) (by simp<;>omega)) (fun h=>h));have C2:=O (((C1.o.setCell (a:=⟨n+1+1+1,0,none⟩) (ZI 0) (by left;show n+1+1≤n+1+1+1;omega)).setCell (a:=⟨n+1+1+1+1,0,none⟩) (ZU fr) (by left;show n+1+1≤n+1+1+1+1;omega)).trans I (fun k h=>h.elim));clear I a0 a1 a2 b3 b5 b6 b7 b8 g6 g7 g8;obtain⟨a0,a1,a2⟩:=L6 DL.o;have b6:=Jf D6.o;have b7:=Jf D7.o;have b8:=Jf D8.o;have g6:=D6.o.frozen 0;have g7:=D7.o.frozen 0;have g8:=D8.o.frozen 0;go_wp2_with fail;refine leaves_cons (f:=138) (args:=#[ZP (n+1+1+1),ZP (n+1+1+1+1),ZP (n+1),ZP n,ZP (n+1+1)]) (by simp) (by simp[go_sem]) ?_;refine(E.o _ ((C2.o.setCell _ (by left;show n+1+1≤n+1+1;omega)).setCell _ (by left;show n+1+1≤n+1+1+1;omega)) ((D6.o.set' 0 _ rfl).other _ (by simp<;>omega)) ((D7.o.other _ (by simp<;>omega)).set' 0 _ rfl) ((D8.o.other _ (by simp<;>omega)).other _ (by simp<;>omega))).mono ?_;rintro e u' an⟨rfl,rfl,r6,r7,hh,hc⟩;exact⟨.tuple #[ZU ((V2.aU ⟨l.rate,fr+len.toNat*256,false⟩:Nat):Int),ZI 0],by simp[results,Tryz.results83,go_sem,r6,r7],rfl,hh,hc⟩
end
section
variable{A:EAd}{w:World}{F:Fp}{b:Nat}{e:Vi}
theorem V6.lift{cs:Array Value}{c:Fp}(h:V6 cs A w F b e)(q:∀k,F k→c k)(d:Bd c w):V6 cs A w c b e:=(V6.good cs A b e).more h q d
theorem Q09{s:Qf}{id:Int}(u:J8 s.tree)(q:s.aP id=0):1≤id:=by
 obtain⟨_,d⟩:=Ng q;unfold Qm.aP at d;cases k:s.tree.at id with
 |none=>rw[k]at d;exact absurd d (by simp)
 |some c=>exact(u.pos k).1
theorem Qz8(h:Qxn w F b e){N:Nat}(ok:Xp N e.sched)(c:Yk):ZW 27 #[ptr b,Fb c] w (ZI (e.aO c)) fun w'=>Qxn w' (Qn F w w') b (e.add c)∧Qc F w w':=by
 obtain⟨A,h⟩:=h;have k:=(V6.good (Qyg A e) A b e).bd h;obtain⟨W,B⟩:=Zx (w.alloc (.cells (Z4 c.leaf c) 29));have S0:Hi (Xx W w.heap.size c):=O (by rw[B];exact Xx.new w c);have J:Hi (Qc Qb w W):=O (by rw[B];exact(Zg _ _).alloc _);have z:=h.aB J.o;have R:=O (Qyx z.blk.1);have q:Hi (∀w' t,Qxn w' (Qn F W w') b t→Qc F W w'→Qxn w' (Qn F w w') b t∧Qc F w w'):=O (fun w' t h1 V=>by
  have u:Qc F w w':=J.o.none.aA V;exact⟨Qxn.obj.more h1 (Ke J.o.size) (k.ext u),u⟩)
 have AT:=O (fun w1(d:Qc Qb W w1)=>Zt (z.aB d).blk.1 (Zt (Xx.aB S0.o d).cells d.drew));unfold Vi.aO Vi.add;cases Z:e.stopped with
 |true=> rw[Z]at R;rw[if_pos rfl,if_pos rfl];have E:=O (fun w'(u:Qc Qb W w')=>q.o w' e (Qxn.obj.same ⟨A,z⟩ u).1 u.none);unfold Fb ptr at*;clear h z Z k ok;go_enter func27,ntmps27;go_wp2_with fail;rw[←B];clear B;refine Zo R ?_;rintro r w1⟨rfl,d⟩;have K:=O (E.o w1 d);clear d;go_wp2;go_ret;exact⟨rfl,K.o⟩
 |false=>
  rw[Z]at R;rw[if_neg Bool.false_ne_true,if_neg Bool.false_ne_true];have HS:Hi (∀w1,Qc Qb W w1→ZW 59 #[ptr A.sb,Fb c] w1 (ZI (e.sched.aO c)) fun w2=>Qxn w2 (Qn F w w2) b {e with sched:=e.sched.add c}∧Qc F w w2):=O (fun w1 d=>by
   obtain⟨G,hS,_,_,I⟩:=(z.aB d).schedOf;refine(Cy hS ok c).mono ?_;rintro r w2⟨rfl,ag,U⟩;obtain⟨m1,m2⟩:=I w2 _ ag U;have u:Qc F W w2:=d.none.aA m2;obtain⟨n1,n2⟩:=q.o w2 {e with sched:=e.sched.add c} ⟨A,m1.lift (Ke d.size) ((k.later J.o).ext u)⟩ u;exact⟨rfl,n1,n2⟩)
  generalize e.sched.aO c=er at HS⊢;unfold Fb ptr at*;clear h z Z k ok;go_enter func27,ntmps27;go_wp2_with fail;rw[←B];clear B;refine Zo R ?_;rintro r w1⟨rfl,d⟩;have C1:=O d.drew;obtain⟨g9,z9,_⟩:=AT.o w1.drew d.drew;obtain⟨a0,a1,a2,a3,a4,a5,a6,a7,a8⟩:=Av g9;obtain⟨g0,g1,g2,g3,g4,g5,g6,g7,g8,af,aa,ab,ac,ae⟩:=z9;clear d;go_wp2_with fail;refine ZB [0,1,2,3,4,205,206] ?_;simp only[Z8,Zf,Ze,Zd];iterate 5 (refine Jq (h:=?_))
  clear a0 a1 a2 a3 a4 a5 a6 a7 a8 g0 g1 g2 g3 g4 g5 g6 g7 g8 g9 af aa ab ac ae;refine J7 ?_;go_wp2_with fail;refine(HS.o _ C1.o).mono ?_;rintro r w2⟨rfl,V,U⟩;have K:=O (Zt V U);clear V U;go_wp2_with fail;refine J7 ?_;go_wp2_with fail;refine Jo ?_;go_wp2;go_ret;exact⟨rfl,K.o⟩
theorem Qz9(h:Qxn w F b e){N:Nat}(ok:Xp N e.sched)(c:Yk):ZW 33 #[ptr b,Fb c] w (ZI (e.aG c)) fun w'=>Qxn w' (Qn F w w') b (e.change c)∧Qc F w w':=by
 obtain⟨A,h⟩:=h;have k:=(V6.good (Qyg A e) A b e).bd h;obtain⟨W,B⟩:=Zx (w.alloc (.cells (Z4 c.leaf c) 29));have S0:Hi (Xx W w.heap.size c):=O (by rw[B];exact Xx.new w c);have J:Hi (Qc Qb w W):=O (by rw[B];exact(Zg _ _).alloc _);have z:=h.aB J.o;have R:=O (Qyx z.blk.1);have q:Hi (∀w' t,Qxn w' (Qn F W w') b t→Qc F W w'→Qxn w' (Qn F w w') b t∧Qc F w w'):=O (fun w' t h1 V=>by
  have u:Qc F w w':=J.o.none.aA V;exact⟨Qxn.obj.more h1 (Ke J.o.size) (k.ext u),u⟩)
 have AT:=O (fun w1(d:Qc Qb W w1)=>Zt (z.aB d).blk.1 (Zt (Xx.aB S0.o d).cells d.drew));unfold Vi.aG Vi.change;cases Z:e.stopped with
 |true=> rw[Z]at R;rw[if_pos rfl,if_pos rfl];have E:=O (fun w'(u:Qc Qb W w')=>q.o w' e (Qxn.obj.same ⟨A,z⟩ u).1 u.none);unfold Fb ptr at*;clear h z Z k ok;go_enter func33,ntmps33;go_wp2_with fail;rw[←B];clear B;refine Zo R ?_;rintro r w1⟨rfl,d⟩;have K:=O (E.o w1 d);clear d;go_wp2;go_ret;exact⟨rfl,K.o⟩
 |false=>
  rw[Z]at R;rw[if_neg Bool.false_ne_true,if_neg Bool.false_ne_true];have HS:Hi (∀w1,Qc Qb W w1→ZW 66 #[ptr A.sb,Fb c] w1 (ZI (e.sched.aG c)) fun w2=>Qxn w2 (Qn F w w2) b {e with sched:=e.sched.change c}∧Qc F w w2):=O (fun w1 d=>by
   obtain⟨G,hS,_,_,I⟩:=(z.aB d).schedOf;refine(Qfp hS ok c).mono ?_;rintro r w2⟨rfl,ag,U⟩;obtain⟨m1,m2⟩:=I w2 _ ag U;have u:Qc F W w2:=d.none.aA m2;obtain⟨n1,n2⟩:=q.o w2 {e with sched:=e.sched.change c} ⟨A,m1.lift (Ke d.size) ((k.later J.o).ext u)⟩ u;exact⟨rfl,n1,n2⟩)
  generalize e.sched.aG c=er at HS⊢;unfold Fb ptr at*;clear h z Z k ok;go_enter func33,ntmps33;go_wp2_with fail;rw[←B];clear B;refine Zo R ?_;rintro r w1⟨rfl,d⟩;have C1:=O d.drew;obtain⟨g9,z9,_⟩:=AT.o w1.drew d.drew;obtain⟨a0,a1,a2,a3,a4,a5,a6,a7,a8⟩:=Av g9;obtain⟨g0,g1,g2,g3,g4,g5,g6,g7,g8,af,aa,ab,ac,ae⟩:=z9;clear d;go_wp2_with fail;refine ZB [0,1,2,3,4,205,206] ?_;simp only[Z8,Zf,Ze,Zd];iterate 5 (refine Jq (h:=?_))
  clear a0 a1 a2 a3 a4 a5 a6 a7 a8 g0 g1 g2 g3 g4 g5 g6 g7 g8 g9 af aa ab ac ae;refine J7 ?_;go_wp2_with fail;refine(HS.o _ C1.o).mono ?_;rintro r w2⟨rfl,V,U⟩;have K:=O (Zt V U);clear V U;go_wp2_with fail;refine J7 ?_;go_wp2_with fail;refine Jo ?_;go_wp2;go_ret;exact⟨rfl,K.o⟩
theorem Q0z(h:Qxn w F b e){K:Nat}(ok:V4 K e)(id:Int):ZW 34 #[ptr b,ZI id] w (ZI (e.aP id)) fun w'=>Qxn w' (Qn F w w') b (e.drop id)∧Qc F w w':=by
 obtain⟨A,h⟩:=h;obtain⟨N,u,_⟩:=ok.sok;have k:=(V6.good (Qyg A e) A b e).bd h;have I:=O (Qyx h.blk.1);have R:=O (fun w'(cc:Qc Qb w w')=>Qxn.obj.same ⟨A,h⟩ cc);unfold Vi.aP Vi.drop;cases hs:e.stopped with
 |true=> rw[hs]at I;rw[if_pos rfl,if_pos rfl];clear h hs k ok u;go_enter func34,ntmps34;go_wp2_with fail;refine Zo I ?_;rintro r w1⟨rfl,c⟩;have K:=O (R.o w1 c);clear c;go_wp2;go_ret;exact⟨rfl,K.o⟩
 |false=>
  rw[hs]at I;rw[if_neg Bool.false_ne_true,if_neg Bool.false_ne_true];have AT:=O (fun w1(c:Qc Qb w w1)=>(h.aB c).blk.1);have HS:Hi (∀w1,Qc Qb w w1→ZW 67 #[ptr A.sb,ZI id] w1 (ZI (e.sched.aP id)) fun w2=>Qyf A w2 (Qn F w w2) b {e with sched:=e.sched.drop id}∧Qc F w w2):=O (fun w1 c=>by
   obtain⟨G,hS,_,_,q⟩:=(h.aB c).schedOf;refine(Qmd hS u id).mono ?_;rintro r w2⟨rfl,E,d⟩;obtain⟨m1,m2⟩:=q w2 _ E d;have cc:Qc F w w2:=c.none.aA m2;exact⟨rfl,m1.lift (Ke c.size) (k.ext cc),cc⟩)
  by_cases z:e.sched.aP id=0
  ·rw[z]at HS;rw[if_pos z,z];have HB:Hi (∀w1,Qyf A w1 (Qn F w w1) b {e with sched:=e.sched.drop id}→Qc F w w1→ZW 68 #[ptr A.kb,ZI id] w1 (.tuple #[]) fun w2=>Qxn w2 (Qn F w w2) b {e with sched:=e.sched.drop id,book:=e.book.drop id}∧Qc F w w2):=O (fun w1 h1 c=>by
    obtain⟨G,hS,_,_,q⟩:=h1.bookOf;refine(Q0k hS ok.book id (Q09 u.tree z)).mono ?_;rintro r w2⟨rfl,E,d⟩;obtain⟨m1,m2⟩:=q w2 _ E d;obtain⟨n1,n2⟩:=Qxn.obj.two (show Qxn w2 _ b {e with sched:=e.sched.drop id,book:=e.book.drop id}from⟨A,m1⟩) k c m2;exact⟨rfl,n1,n2⟩)
   clear h hs k ok u z;go_enter func34,ntmps34;go_wp2_with fail;refine Zo I ?_;rintro r w1⟨rfl,c⟩;have C1:=O c;obtain⟨U,V,Z,a3,a4,a5,a6,a7,a8⟩:=Av (AT.o w1 c);clear c;go_wp2_with fail;clear U V Z a3 a4 a5 a6 a7 a8;refine(HS.o _ C1.o).mono ?_;rintro r w2⟨rfl,B,d⟩;have K:=O (Zt B d);obtain⟨U,V,Z,a3,a4,a5,a6,a7,a8⟩:=Av B.blk.1;clear B d;go_wp2_with fail;refine(HB.o _ K.o.1 K.o.2).mono ?_;rintro r w3⟨rfl,h3,c3⟩;have K3:=O (Zt h3 c3);clear h3 c3 U V Z a3 a4 a5 a6 a7 a8;go_wp2;go_ret;exact⟨rfl,K3.o⟩
  ·rw[if_neg z];have J:Hi (∀w1,Qc Qb w w1→ZW 67 #[ptr A.sb,ZI id] w1 (ZI (e.sched.aP id)) fun w2=>Qxn w2 (Qn F w w2) b e∧Qc F w w2):=O (fun w1 c=>(HS.o w1 c).mono (by
    rintro r w2⟨rfl,B,d⟩;have he:e.sched.drop id=e.sched:=by unfold Qf.drop;rw[if_neg z]
    rw[he]at B;exact⟨rfl,⟨A,B⟩,d⟩))
   obtain⟨er,aa⟩:=Zx (e.sched.aP id);rw[←aa]at J z⊢;have d0:(er==0)=false:=by simpa using z
   clear h hs k ok u aa;go_enter func34,ntmps34;go_wp2_with fail;refine Zo I ?_;rintro r w1⟨rfl,c⟩;have C1:=O c;obtain⟨U,V,Z,a3,a4,a5,a6,a7,a8⟩:=Av (AT.o w1 c);clear c;go_wp2_with fail;clear U V Z a3 a4 a5 a6 a7 a8;refine(J.o _ C1.o).mono ?_;rintro r w2⟨rfl,B,d⟩;have K:=O (Zt B d);clear B d;go_wp2;go_ret;exact⟨rfl,K.o⟩
end
section
variable{w W:World}{F:Fp}{b rb:Nat}{bk:V1}{p:Jr}
theorem Qzz(h:Qau w F b bk)(ok:BOk bk)(p:Jr)(hg:Ll p)(d:Nat)(hr:d=1∨d=2):ZW 84 #[ptr b,.agg (ZL p),.int .u8 d] w (.tuple #[]) fun w'=>Qau w' (Qn F w w') b (bk.tell p.cls (Qwn p d))∧Qc F w w':=by
 have q:=(Qzj hg).2;obtain⟨n,I⟩:=Zx (Qx0 p.len);have B:Hi (∀W rb,Qc Qb w W→w.heap.size≤rb→Qh W rb #[.func (.func (Qyv (if d=1 then 4 else 5))) #[] #[],ZU n,.bool false,.func (.func (Qyv 6)) #[] #[],ZU 1,.bool true,.func (.func (Qyv 7)) #[] #[],ZU n,.bool true] 181→
   ZW 110 #[ZP b,ZI p.cls,.slice (some ⟨rb,0,none⟩) 3 3] W (.tuple #[]) fun w'=>Qau w' (Qn F w w') b (bk.tell p.cls (Qwn p d))∧Qc F w w'):=O (fun W rb c J hB=>Qzc h ok c p.cls (Qwn p d) hB (by rw[I];rfl) J (fun x hx=>by
  simp only[Qwn,Zu,List.not_mem_nil,or_false]at hx;rcases hx with rfl|rfl|rfl;·refine⟨?_,by dsimp only;omega⟩;dsimp only;split<;>omega
  ·exact⟨by dsimp only;omega,by dsimp only;omega⟩
  ·exact⟨by dsimp only;omega,by dsimp only;omega⟩) (show 3≤8 by decide) 3 rfl 3)
 have k:=O (fun W=>Qy2 p hg W);rw[←I]at k;obtain⟨W,z⟩:=Zx (w.alloc (.cells (ZL p) 31));have V:Hi (Qc Qb w W):=O (by rw[z];exact(Zg _ _).alloc _);have E:Hi (Qh W w.heap.size (ZL p) 31):=O (by rw[z];exact Qh.new _ _ _);clear h ok q I;rcases hr with rfl|rfl;all_goals
  first
  |rw[if_pos rfl]at B
  |rw[if_neg (by decide)]at B
  go_enter func84,ntmps84;go_wp2_with fail;rw[←z];clear z;obtain⟨g0,g1,g2,g3⟩:=X9 (E.o.drew);refine ZC [100,101,102,103,4,107,108,205,106,209,10,211,312] (fun U=>Qc (Qb) (W) U) ?_;simp only[Z8,Zf,Ze,Zd];iterate 2 (refine Qy (h:=?_);try simp only[Act.put,Za,Zc,Zb])
  iterate 1 (refine Qy (by kernel_rfl) (fun U R=>by(obtain⟨z0,z1,z2,z3⟩:=X9 (R.blk E.o (fun h=>h)));go_simp;try rfl) ?_;try simp only[Act.put,Za,Zc,Zb])
  (refine Qy (h:=?_);try simp only[Act.put,Za,Zc,Zb]);refine Xe (h:=?_)
  (refine Qy (h:=?_);try simp only[Act.put,Za,Zc,Zb]);iterate 1 (refine Qy (by kernel_rfl) (fun U R=>by(obtain⟨z0,z1,z2,z3⟩:=X9 (R.blk E.o (fun h=>h)));go_simp;try rfl) ?_;try simp only[Act.put,Za,Zc,Zb])
  clear g0 g1 g2 g3;refine Yb ?_;go_wp2_with fail;refine Zz (k.o _) ?_;intro w2 c2;have Z:=O ((Zg Qb W).drew.aA c2);clear c2;go_wp2_with fail;refine⟨Z.o,?_⟩;(refine Qy (h:=?_);try simp only[Act.put,Za,Zc,Zb]);refine Yb ?_;go_wp2_with fail;refine Zz (k.o _) ?_;intro w3 c3;have u:=O (Z.o.aA c3);clear c3;go_wp2_with fail;refine⟨u.o,?_⟩;refine Xe (h:=?_);refine Yb ?_;go_wp2_with fail;refine⟨u.o.alloc _,?_⟩;refine Km ?_;go_wp2_with fail;refine Zz (B.o _ w3.heap.size (V.o.aA (u.o.alloc _)) (Zp V.o.size u.o.size) (Qh.new _ _ _)) ?_;rintro w4⟨h4,c4⟩;have K:=O (Zt h4 c4);clear h4 c4;go_wp2_with fail;refine Ky ?_;go_wp2;refine bodyPost_end (by simp[*,results,Tryz.results84,go_sem]) rfl ⟨rfl,K.o⟩
end
section
attribute [local go_sem ↓] X8 Yd
structure Yy where
 kind:Int
 s:Yk
 p:Jr
 after:Nat
def Yy.cells(a:Yy):List Value:=[.int .u8 a.kind,ZI a.s.id,ZI a.s.par,.bool a.s.leaf,ZU a.s.real.f,ZU a.s.real.l,ZU a.s.real.r,ZU a.s.share.f,ZU a.s.share.l,ZU a.s.share.r,ZU a.s.aN.f,ZU a.s.aN.l,ZU a.s.aN.r,ZI a.s.pk,ZI a.s.bt,ZU a.p.id,ZI a.p.cls,ZI a.p.len,ZU a.p.at_,ZU a.after]
def Yy.wf(a:Yy):Prop:=0≤a.kind∧a.kind<256∧a.after<18446744073709551616
end
section
variable{w wz W1 W2 W3:World}{A:EAd}{e:Vi}{b:Nat}
theorem Qyf.made(c:Nat→Nat){F q u F3 F4 z:Fp}(hB:Qh wz b (Qyg A e) 87)(hs:Qt wz q A.sb e.sched)(hl:P3 wz u A.lb e.link)(E:Qau wz F3 A.kb e.book)(hu:Qwq A.us e.aM.toList wz F4)(Z:Qwq A.ss e.sent wz z)
  (c0:c b=0) (I:∀k,q k→c k=1) (J:∀k,u k→c k=2) (K:∀k,F3 k→c k=3) (R:∀k,F4 k→c k=4) (U:∀k,z k→c k=5) (V:F b) (f1:∀k,q k→F k) (f2:∀k,u k→F k) (f3:∀k,F3 k→F k) (f4:∀k,F4 k→F k) (f5:∀k,z k→F k) (B:Bd F wz):Qyf A wz F b e:=by
 have d:∀i,Bd (fun k=>F k∧i<c k) wz:=fun i k E=>B k E.1;refine Q7 (G:=fun k=>k=b) (H:=fun k=>F k∧0<c k) ⟨hB,rfl,fun k e=>e▸B b V⟩ ?_ (fun k e h=>by subst e;omega) (fun k e=>e▸V) (fun k h=>h.1) B;refine Q7 (H:=fun k=>F k∧1<c k) hs ?_ (fun k e h=>by have:=I k e;omega) (fun k e=>⟨f1 k e,by have:=I k e;omega⟩) (fun k h=>⟨h.1,by omega⟩) (d 0);refine Q7 (H:=fun k=>F k∧2<c k) hl ?_ (fun k e h=>by have:=J k e;omega) (fun k e=>⟨f2 k e,by have:=J k e;omega⟩) (fun k h=>⟨h.1,by omega⟩) (d 1);refine Q7 (H:=fun k=>F k∧3<c k) E ?_ (fun k e h=>by have:=K k e;omega) (fun k e=>⟨f3 k e,by have:=K k e;omega⟩) (fun k h=>⟨h.1,by omega⟩) (d 2);exact Q7 hu (Y6 Z Z.2.2) (fun k e h=>by have:=R k e;have:=U k h;omega) (fun k e=>⟨f4 k e,by have:=R k e;omega⟩) (fun k e=>⟨f5 k e,by have:=U k e;omega⟩) (d 3)
theorem Qwq.none(w):Qwq (.slice none 0 0) [] w (fun _=>False):=⟨Own.nil _ _ _ _,nofun,nofun⟩
theorem Q0u(d:Nat)(c:Int)(k:Nat)(w)(h:Qxy d c k≠0):ZW 9 #[.agg #[ZU d,ZI c,ZU k]] w (.tuple #[.pointer none,ZI (Qxy d c k)]) fun w'=>Qc Qb w w':=by
 obtain⟨W0,B⟩:=Zx (w.alloc (.cells #[ZU d,ZI c,ZU k] 24));have C0:Hi (Qc Qb w W0):=O (by rw[B];exact(Zg _ _).alloc _);have K:Hi (Qh W0 w.heap.size #[ZU d,ZI c,ZU k] 24):=O (by rw[B];exact Qh.new _ _ _);have z:=O B;unfold Qxy at h⊢;clear B;by_cases hr:d<1∨1048576<d;·rw[if_pos hr];have HL:=O (Q1b d W0 hr);clear h hr;obtain⟨R,U,V⟩:=L6 (show Qh (w.alloc (.cells #[ZU d,ZI c,ZU k] 24)) w.heap.size #[ZU d,ZI c,ZU k] 24 from Qh.new _ _ _);go_enter func9,ntmps9;go_wp2_with fail;rw[←z.o];refine Zo HL ?_;rintro r w1⟨rfl,q⟩;have I:=O (C0.o.aA q);clear q;go_wp2;go_ret2;exact⟨rfl,I.o⟩
 ·rw[if_neg hr]at h⊢;have J:1≤d∧d≤1048576:=by omega
  have HL:=O (Qzx d W0 J.1 J.2);have Z:c<1∨65536≤c∨k<1∨1099511627776<k:=by
   by_cases Z:c<1∨65536≤c∨k<1∨1099511627776<k;·exact Z
   ·rw[if_neg Z]at h;exact absurd rfl h
  rw[if_pos Z];clear h hr J;by_cases hm:c<1∨65536≤c;·have HS:=O (fun w1=>Qiz c w1 hm);clear Z hm;obtain⟨R,U,V⟩:=L6 (show Qh (w.alloc (.cells #[ZU d,ZI c,ZU k] 24)) w.heap.size #[ZU d,ZI c,ZU k] 24 from Qh.new _ _ _);go_enter func9,ntmps9;go_wp2_with fail;rw[←z.o];refine Zo HL ?_;rintro r w1⟨lb,rfl,E,q⟩;have I:=O (C0.o.aA q);have L1:=O (Zt E q);obtain⟨b0,b1,b2⟩:=L6 (q.blk K.o (fun h=>h));clear q E R U V;go_wp2_with fail;refine(HS.o _).mono ?_;rintro r w2⟨rfl,u⟩;have C2:=O (I.o.aA u);obtain⟨b0,b1,b2⟩:=L6 (u.blk (L1.o.2.blk K.o (fun h=>h)) (fun h=>h));clear u;go_wp2;go_ret2;exact⟨rfl,C2.o⟩
  ·have HS:=O (fun w1=>Qeb c (show 1≤c by omega) (show c<65536 by omega) w1);have h3:k<1∨1099511627776<k:=by omega
   clear Z hm;by_cases h4:k<1
   ·have d1:decide ((k:Int)<1)=true:=by simp;omega
    have aa:decide (k<1)=true:=by simp;omega
    clear h3 h4;obtain⟨R,U,V⟩:=L6 (show Qh (w.alloc (.cells #[ZU d,ZI c,ZU k] 24)) w.heap.size #[ZU d,ZI c,ZU k] 24 from Qh.new _ _ _);go_enter func9,ntmps9;go_wp2_with fail;rw[←z.o];refine Zo HL ?_;rintro r w1⟨lb,rfl,E,q⟩;have I:=O (C0.o.aA q);have L1:=O (Zt E q);obtain⟨b0,b1,b2⟩:=L6 (q.blk K.o (fun h=>h));clear q E R U V;go_wp2_with fail;refine(HS.o _).mono ?_;rintro r w2⟨sb,rfl,hs,u⟩;have C2:=O (I.o.aA u);obtain⟨b0,b1,b2⟩:=L6 (u.blk (L1.o.2.blk K.o (fun h=>h)) (fun h=>h));clear u hs;go_wp2;go_ret2;exact⟨rfl,C2.o⟩
   ·have d1:decide ((k:Int)<1)=false:=by simp;omega
    have aa:decide (k<1)=false:=by simp;omega
    have d2:decide ((1099511627776:Int)<(k:Int))=true:=by simp;omega
    have ab:decide (1099511627776<k)=true:=by simp;omega
    clear h3 h4;obtain⟨R,U,V⟩:=L6 (show Qh (w.alloc (.cells #[ZU d,ZI c,ZU k] 24)) w.heap.size #[ZU d,ZI c,ZU k] 24 from Qh.new _ _ _);go_enter func9,ntmps9;go_wp2_with fail;rw[←z.o];refine Zo HL ?_;rintro r w1⟨lb,rfl,E,q⟩;have I:=O (C0.o.aA q);have L1:=O (Zt E q);obtain⟨b0,b1,b2⟩:=L6 (q.blk K.o (fun h=>h));clear q E R U V;go_wp2_with fail;refine(HS.o _).mono ?_;rintro r w2⟨sb,rfl,hs,u⟩;have C2:=O (I.o.aA u);obtain⟨b0,b1,b2⟩:=L6 (u.blk (L1.o.2.blk K.o (fun h=>h)) (fun h=>h));clear u hs;go_wp2;go_ret2;exact⟨rfl,C2.o⟩
end
end Go.Proofs.YtigcnnkagkbflaaGreat
