/- A part of the proof: no condition. -/
import Derived.Test.YtnnhmpehkbihnaaGreatPs26
import Derived.ArgAppend
namespace Go.Proofs.YtnnhmpehkbihnaaGreat
set_option linter.unusedVariables false
set_option maxRecDepth 100000
set_option maxHeartbeats 4000000
open Go.RowKit
open Go.Proofs.Tryz
section
attribute [local go_sem] Qp
attribute [local irreducible] Kl J9 Xo
section
variable{A:Tb}{w w1 w2:World}{F:Fp}{b a:Nat}{s:Qf}{N:Nat}{l:Qw}
theorem Qcl(h:Qi A w F b s){q u:Nat}(c:Qh w q #[ptr b] 28)(now:Nat)(d:Qh w u #[.int .u64 now] 29):
  Cl 41 #[.pointer (some ⟨q,0,none⟩),.pointer (some ⟨u,0,none⟩)] w fun e w'=>e=.returned (.tuple #[.int .i64 ((Jt now s.row).getD (0,0)).2,.bool (Jt now s.row).isSome])∧Qc Qb w w':=by
 have k:Hi (Cl 42 #[ptr A.rb,.int .u64 now] w.drew fun e w'=>e=.returned (.tuple #[.int .i64 ((Jt now s.row).getD (0,0)).2,.bool (Jt now s.row).isSome])∧Qc Qb w.drew w'):=O (by
  obtain⟨G,R,_⟩:=h.drew.rowOf;exact Qka R now)
 obtain⟨E,a1,I,J,K⟩:=Ym h.drew.blk;have U:=Jf c.drew;have V:=Jf d.drew;generalize((Jt now s.row).getD (0,0)).2=id at k⊢;generalize(Jt now s.row).isSome=ok at k⊢;unfold ptr at*;clear h c d;go_enter func41,ntmps41;go_wp2_with fail;refine Qj [(0,0),(0,1),(0,2),(0,3),(0,4),(2,5),(0,6),(0,7),(2,8),(2,9)] Zq (by kernel_rfl) (fun _ _ _ _ _ h=>h) ?_;simp only[Jk,Zf,Ze,Zd];iterate 5 (refine Jq (by kernel_rfl) (by go_simp;try rfl) ?_)
 clear E a1 I J K U V;refine J7 ?_;go_wp2_with fail;refine Zy k ?_;intro w1 z;have B:=O (show Qc Qb w w1 from(Zg Qb w).drew.aA z);clear z;go_wp2_with fail;iterate 2 (refine Jq (by kernel_rfl) (by go_simp;try rfl) ?_)
 refine J7 ?_;go_wp2_with fail;refine J7 ?_;go_wp2_with fail;refine Jo ?_;go_wp2;go_ret2;exact⟨rfl,B.o⟩
theorem Qbm(h:Qi A w F b s)(ok:Xp N s){q u:Nat}(c:Qh w q #[ptr b] 28)(now:Nat)(d:Qh w u #[.int .u64 now] 29):
  Cl 43 #[.pointer (some ⟨q,0,none⟩),.pointer (some ⟨u,0,none⟩)] w fun e w'=>e=.returned (.tuple #[.int .i64 ((s.pick.next now 10 0).getD 0),.bool (s.pick.next now 10 0).isSome])∧Qc Qb w w':=by
 have k:Hi (Cl 44 #[ptr A.pb,.int .u64 now] w.drew fun e w'=>e=.returned (.tuple #[.int .i64 ((s.pick.next now 10 0).getD 0),.bool (s.pick.next now 10 0).isSome])∧Qc Qb w.drew w'):=O (by
  obtain⟨G,⟨Z,R⟩,_⟩:=h.drew.pickOf;exact Qll R ok.pick now)
 obtain⟨E,a1,I,J,K⟩:=Ym h.drew.blk;have U:=Jf c.drew;have V:=Jf d.drew;generalize(s.pick.next now 10 0).getD 0=id at k⊢;generalize(s.pick.next now 10 0).isSome=kk at k⊢;unfold ptr at*;clear h c d ok;go_enter func43,ntmps43;go_wp2_with fail;refine Qj [(0,0),(0,1),(0,2),(0,3),(0,4),(2,5),(0,6),(0,7),(2,8),(2,9)] Zq (by kernel_rfl) (fun _ _ _ _ _ h=>h) ?_;simp only[Jk,Zf,Ze,Zd];iterate 5 (refine Jq (by kernel_rfl) (by go_simp;try rfl) ?_)
 clear E a1 I J K U V;refine J7 ?_;go_wp2_with fail;refine Zy k ?_;intro w1 z;have B:=O (show Qc Qb w w1 from(Zg Qb w).drew.aA z);clear z;go_wp2_with fail;iterate 2 (refine Jq (by kernel_rfl) (by go_simp;try rfl) ?_)
 refine J7 ?_;go_wp2_with fail;refine J7 ?_;go_wp2_with fail;refine Jo ?_;go_wp2;go_ret2;exact⟨rfl,B.o⟩
end
end
section
attribute [local go_sem] Qp
attribute [local irreducible] Kl J9 Xo
def Bq:Option ChM→Array Value
 |none=>chA Jr.zero 0 0
 |some c=>chA c.p c.rule c.due
theorem Qv3(v1 v2:Value)(w):(Instr.index 101 (.agg #[.nilFunc,v1,v2]) (.int .i64 0)).run prog w=.ok .nilFunc w:=by kernel_rfl
theorem Qv4(v1 v2:Value)(w):(Instr.index 101 (.agg #[.nilFunc,v1,v2]) (.int .i64 1)).run prog w=.ok v1 w:=by kernel_rfl
theorem Qv5(v1 v2:Value)(w):(Instr.index 101 (.agg #[.nilFunc,v1,v2]) (.int .i64 2)).run prog w=.ok v2 w:=by kernel_rfl
theorem Qv0(w):(binOp .eql 100 .nilFunc .nilFunc).run prog w=.ok (.bool true) w:=by kernel_rfl
theorem Qv1(c:Array Value)(w):(binOp .eql 100 (.func (.func (41)) #[] c) .nilFunc).run prog w=.ok (.bool false) w:=by kernel_rfl
theorem Qv2(c:Array Value)(w):(binOp .eql 100 (.func (.func (43)) #[] c) .nilFunc).run prog w=.ok (.bool false) w:=by kernel_rfl
attribute [local go_sem] Qv3 Qv4 Qv5
attribute [local go_sem ↓] Qv0 Qv1 Qv2
section
variable{A:Tb}{w w1 w2:World}{F:Fp}{b a:Nat}{s:Qf}{N:Nat}{l:Qw}
theorem Qpd{now:Nat}(h1:Jt now s.row=none)(c:s.pick.next now 10 0=none):s.next now=(none,s):=by unfold Qf.next Qf.who;rw[h1,c];rfl
theorem Qr6{now:Nat}{x:Nat×Int}(h1:Jt now s.row=some x):s.who now=some (x.2,1)∧s.next now=(some (s.takeC x.2 1),s.take x.2 1):=by
 have e:s.who now=some (x.2,1):=by unfold Qf.who;rw[h1]
 exact⟨e,by unfold Qf.next;rw[e]⟩
theorem Qpe{now:Nat}{i:Int}(h1:Jt now s.row=none)(c:s.pick.next now 10 0=some i):s.who now=some (i,2)∧s.next now=(some (s.takeC i 2),s.take i 2):=by
 have e:s.who now=some (i,2):=by unfold Qf.who;rw[h1,c];rfl
 exact⟨e,by unfold Qf.next;rw[e]⟩
theorem Pg(h:Qt w F b s)(ok:Xp N s)(hN:N<549755813000)(now:Nat):
  Cl 16 #[ptr b,.int .u64 now] w fun e w'=>e=.returned (.tuple #[.agg (Bq (s.next now).1),.bool (s.next now).1.isSome])∧Qt w' (Qn F w w') b (s.next now).2∧Qc F w w':=by
 obtain⟨A,h⟩:=h;have ah:=(Qi.obj A).bd h;obtain⟨W,hW⟩:=Zx (((w.alloc (.cells #[.pointer (some ⟨b,0,none⟩)] 28)).alloc (.cells #[.int .u64 now] 29)).alloc (.cells #[.int .u64 0,.int .i64 0,.int .i64 0,.int .u64 0,.int .u8 0,.int .u64 0] 50));have C0:Hi (Qc Qb w W):=O (by rw[hW];exact(((Zg _ _).alloc _).alloc _).alloc _);have B2:Hi (Qh W w.heap.size #[.pointer (some ⟨b,0,none⟩)] 28):=O (by rw[hW];exact((Qh.new _ _ _).alloc _).alloc _);have B3:Hi (Qh W (w.heap.size+1) #[.int .u64 now] 29):=O (by rw[hW];exact(Qh.new' _ _ (by simp)).alloc _);have B4:Hi (Qh W (w.heap.size+1+1) #[.int .u64 0,.int .i64 0,.int .i64 0,.int .u64 0,.int .u8 0,.int .u64 0] 50):=O (by rw[hW];exact Qh.new' _ _ (by simp));have hP:=(Qi.obj A).aB h C0.o (Jl.none F);have HN:=O (Ku hP ok.most.1);have N4:=O (show¬F (w.heap.size+1+1)from fun q=>by have:=ah _ q;omega);have HP:=O hP;have OK:=O ok;have ac:=O ah;have ak:=O hN;have ai:=O (fun w'(c:Qc Qb W w')=>Qcl ((Qi.obj A).aB HP.o c (Jl.none F)) (c.blk B2.o (fun h=>h)) now (c.blk B3.o (fun h=>h)));have af:=O (fun w'(c:Qc Qb W w')=>Qbm ((Qi.obj A).aB HP.o c (Jl.none F)) ok (c.blk B2.o (fun h=>h)) now (c.blk B3.o (fun h=>h)));have x0:=Jf (hW▸B2.o);have E:Hi (∀w5 i(r:Nat),r<256→s.who now=some (i,r)→Qc Qb W w5→Cl 45 #[ptr b,.int .i64 i,.int .u8 r] w5 fun e w6=>e=.returned (.agg (chA (s.takeC i r).p (s.takeC i r).rule (s.takeC i r).due))∧∃w7,(storeCells ⟨w.heap.size+1+1,0,none⟩ (chA (s.takeC i r).p (s.takeC i r).rule (s.takeC i r).due).toList 0).run prog w6=.ok () w7∧Qh w7 (w.heap.size+1+1) (chA (s.takeC i r).p (s.takeC i r).rule (s.takeC i r).due) 50∧Qt w7 (Qn F w w7) b (s.take i r)∧Qc F w w7):=O (fun w5 i r hr hw K=>by
  obtain⟨l,hl,_⟩:=OK.o.who hw;refine Zz (Qme ⟨A,(Qi.obj A).aB HP.o K (Jl.none F)⟩ ok hN hl r hr) ?_;rintro w6⟨h6,c6⟩;refine⟨rfl,?_⟩;have z0:=C0.o.size;have z5:=K.size;have z6:=c6.size;have z4:=B4.o.lt;have aj:=c6.blk (K.blk B4.o (fun h=>h)) N4.o;obtain⟨w7,r7,R,c7⟩:=Q0 (P:=prog) (vs:=chA (s.takeC i r).p (s.takeC i r).rule (s.takeC i r).due) aj rfl (Iy _ _ _);have z7:=c7.size;have cc:Qc F w w7:=((C0.o.none (F:=F)).aA ((K.none (F:=F)).aA c6)).trans c7 (fun k e=>.inr (by omega));refine⟨w7,r7,R,Qt.obj.more (Qt.obj.aB h6 c7 (fun k q e=>?_)) (fun k q=>?_) (ac.o.ext cc),cc⟩
  ·subst e;rcases q with q|q;·exact N4.o q
   ·omega
  ·rcases q with q|q;·exact .inl q
   ·exact .inr (by omega))
 unfold ptr at*;clear h ah ok hP hN;go_enter func16,ntmps16;go_wp2_with fail;rw[←hW]at x0⊢;clear hW;refine Zy HN ?_;rintro w1 rfl;go_wp2_with fail;go_loopw [16] (fun i wr=>∃k:Nat,i=.int .i64 k∧k≤3∧(2≤k→Jt now s.row=none)∧(3≤k→s.pick.next now 10 0=none)∧Qc Qb W wr) (fun i _=>3-(intOf i).toNat);case atStart=>exact⟨0,rfl,by omega,by omega,by omega,Zg _ _⟩
 case round=>
  obtain⟨k,rfl,q,h1,h2,hw⟩:=hrel;have HC:=O hw;clear hw;by_cases k0:k=0
  ·subst k0;clear q h1 h2;have e0:((0:Nat):Int)=0:=rfl;go_wp2_with fail;go_roundw;case measure=>simp only[intOf];omega
   case rel=>exact⟨1,by rfl,by omega,by omega,by omega,HC.o⟩
  by_cases k1:k=1
  ·subst k1;clear q h1 h2;have B:=O (ai.o wr HC.o);cases d:Jt now s.row with
   |none=>
    rw[d]at B;have V:=O d;clear d;dsimp only[Option.getD_none,Option.isSome_none]at B;go_wp2_with fail;refine Zy B ?_;intro w5 K;have C5:=O (HC.o.aA K);clear K B;go_wp2_with fail;go_roundw;case measure=>simp only[intOf];omega
    case rel=>exact⟨2,by rfl,by omega,fun _=>by first|exact V.o|trivial,by omega,C5.o⟩
   |some x=> rw[d]at B;have V:=O d;clear d;dsimp only[Option.getD_some,Option.isSome_some]at B;go_wp2_with fail;refine Zy B ?_;intro w5 K;have C5:=O (HC.o.aA K);clear K B;obtain⟨J,I⟩:=Qr6 V.o;have HT:=O (E.o w5 _ 1 (by decide) J C5.o);have z:=O I;clear J I E;have y0:=Jf (C5.o.blk B2.o (fun h=>h));unfold ptr at*;go_wp2_with fail;refine Zy HT ?_;rintro w6⟨w7,r7,R,h7,c7⟩;have Z:=O (Zt h7 c7);have TB:=O R;clear h7 c7 HT y0 R;obtain⟨ch,U⟩:=Zx (s.takeC x.2 1);rw[←U]at r7 TB⊢;have ae:=O U;clear U;go_wp2_with fail;clear r7;obtain⟨cp,cr,cd⟩:=ch;obtain⟨r0,r1,r2,r3,r4,r5⟩:=Lf (show Qh w7 _ #[.int .u64 cp.id,.int .i64 cp.cls,.int .i64 cp.len,.int .u64 cp.at_,.int .u8 cr,.int .u64 cd] _ from TB.o);refine bodyPost_ret (v:=.tuple #[.agg (chA cp cr cd),.bool true]) (by rw[results_cell_tmp (p:=4) (u:=5) (ty:=50) (by kernel_rfl)];go_simp;rfl) rfl ?_;exact⟨by rw[z.o,←ae.o];rfl,by rw[z.o];exact Z.o⟩
  by_cases k2:k=2
  ·subst k2;have V:=O (h1 (by omega));clear q h1 h2;have B:=O (af.o wr HC.o);cases d:s.pick.next now 10 0 with
   |none=>
    rw[d]at B;have ag:=O d;clear d;dsimp only[Option.getD_none,Option.isSome_none]at B;go_wp2_with fail;refine Zy B ?_;intro w5 K;have C5:=O (HC.o.aA K);clear K B;go_wp2_with fail;go_roundw;case measure=>simp only[intOf];omega
    case rel=>exact⟨3,by rfl,by omega,fun _=>by first|exact V.o|trivial,fun _=>by first|exact ag.o|trivial,C5.o⟩
   |some x=> rw[d]at B;have ag:=O d;clear d;dsimp only[Option.getD_some,Option.isSome_some]at B;go_wp2_with fail;refine Zy B ?_;intro w5 K;have C5:=O (HC.o.aA K);clear K B;obtain⟨J,I⟩:=Qpe V.o ag.o;have HT:=O (E.o w5 _ 2 (by decide) J C5.o);have z:=O I;clear J I E;have y0:=Jf (C5.o.blk B2.o (fun h=>h));unfold ptr at*;go_wp2_with fail;refine Zy HT ?_;rintro w6⟨w7,r7,R,h7,c7⟩;have Z:=O (Zt h7 c7);have TB:=O R;clear h7 c7 HT y0 R;obtain⟨ch,U⟩:=Zx (s.takeC x 2);rw[←U]at r7 TB⊢;have ae:=O U;clear U;go_wp2_with fail;clear r7;obtain⟨cp,cr,cd⟩:=ch;obtain⟨r0,r1,r2,r3,r4,r5⟩:=Lf (show Qh w7 _ #[.int .u64 cp.id,.int .i64 cp.cls,.int .i64 cp.len,.int .u64 cp.at_,.int .u8 cr,.int .u64 cd] _ from TB.o);refine bodyPost_ret (v:=.tuple #[.agg (chA cp cr cd),.bool true]) (by rw[results_cell_tmp (p:=4) (u:=5) (ty:=50) (by kernel_rfl)];go_simp;rfl) rfl ?_;exact⟨by rw[z.o,←ae.o];rfl,by rw[z.o];exact Z.o⟩
  have k3:k=3:=by omega
  subst k3;have I:=Qpd (h1 (by omega)) (h2 (by omega));have z:=O I;clear h1 h2 q I k0 k1 k2 E;have hB:=HC.o.blk B4.o (fun h=>h);obtain⟨t0,t1,t2,t3,t4,t5⟩:=Lf hB;have fz:=hB.frozen;go_wp2_with fail;have CF:Qc (fun k=>k=w.heap.size+1+1) wr ((((((wr.setCell ⟨w.heap.size+1+1,0,none⟩ (.int .u64 0)).setCell ⟨w.heap.size+1+1,1,none⟩ (.int .i64 0)).setCell ⟨w.heap.size+1+1,2,none⟩ (.int .i64 0)).setCell ⟨w.heap.size+1+1,3,none⟩ (.int .u64 0)).setCell ⟨w.heap.size+1+1,4,none⟩ (.int .u8 0)).setCell ⟨w.heap.size+1+1,5,none⟩ (.int .u64 0)):=((((((Zg (fun k=>k=w.heap.size+1+1) wr).setCell _ (.inl rfl)).setCell _ (.inl rfl)).setCell _ (.inl rfl)).setCell _ (.inl rfl)).setCell _ (.inl rfl)).setCell _ (.inl rfl);have TB:Qh ((((((wr.setCell ⟨w.heap.size+1+1,0,none⟩ (.int .u64 0)).setCell ⟨w.heap.size+1+1,1,none⟩ (.int .i64 0)).setCell ⟨w.heap.size+1+1,2,none⟩ (.int .i64 0)).setCell ⟨w.heap.size+1+1,3,none⟩ (.int .u64 0)).setCell ⟨w.heap.size+1+1,4,none⟩ (.int .u8 0)).setCell ⟨w.heap.size+1+1,5,none⟩ (.int .u64 0)) (w.heap.size+1+1) #[.int .u64 0,.int .i64 0,.int .i64 0,.int .u64 0,.int .u8 0,.int .u64 0] 50:=(((((hB.set 0 _).set 1 _).set 2 _).set 3 _).set 4 _).set 5 _;obtain⟨aa,ab⟩:=Zx (((((((wr.setCell ⟨w.heap.size+1+1,0,none⟩ (.int .u64 0)).setCell ⟨w.heap.size+1+1,1,none⟩ (.int .i64 0)).setCell ⟨w.heap.size+1+1,2,none⟩ (.int .i64 0)).setCell ⟨w.heap.size+1+1,3,none⟩ (.int .u64 0)).setCell ⟨w.heap.size+1+1,4,none⟩ (.int .u8 0)).setCell ⟨w.heap.size+1+1,5,none⟩ (.int .u64 0)));rw[←ab]at CF TB⊢;clear ab t0 t1 t2 t3 t4 t5 fz hB;have cc:Qc F w aa:=((C0.o.aA HC.o).none (F:=F)).trans CF (fun k e=>.inr (by omega));have Z:=O (show Qt aa (Qn F w aa) b s∧Qc F w aa from⟨Qt.obj.more ⟨A,(Qi.obj A).aB ((Qi.obj A).aB HP.o HC.o (Jl.none F)) CF (fun k q e=>N4.o (e▸q))⟩ (fun k q=>.inl q) (ac.o.ext cc),cc⟩);clear CF cc HP ac;obtain⟨r0,r1,r2,r3,r4,r5⟩:=Lf TB;refine bodyPost_ret (v:=.tuple #[.agg #[.int .u64 0,.int .i64 0,.int .i64 0,.int .u64 0,.int .u8 0,.int .u64 0],.bool false]) (by rw[results_cell_tmp (p:=4) (u:=5) (ty:=50) (by kernel_rfl)];go_simp;try rfl) rfl ?_;exact⟨by rw[z.o];rfl,by rw[z.o];exact Z.o⟩
end
end
section
attribute [local go_sem] Qp
def Uh(v:Value)(L:List Jr):Ya:=fun w F=>Bd F w∧((v=.slice none 0 0∧L=[])∨∃b o cap c,v=.slice (some ⟨b,o,none⟩) L.length cap∧F b∧L.length≤cap∧cap≤maxLen∧Qh w b c 34∧o+cap*4≤c.size∧∀(j:Nat)(u:Value),(Jm Jr.cells L)[j]? =some u→c[o+j]? =some u)
theorem Nk(v:Value)(L:List Jr):Uy (Uh v L) where
 bd:=fun h=>h.1
 aB:=fun⟨u,h⟩hc I=>⟨u.later hc,h.imp id fun⟨b,o,cap,c,h1,d,k,z,B,E⟩=>⟨b,o,cap,c,h1,d,k,z,hc.blk B (I b d),E⟩⟩
 more:=fun⟨u,h⟩hs q=>⟨q,h.imp id fun⟨b,o,cap,c,h1,d,k⟩=>⟨b,o,cap,c,h1,hs b d,k⟩⟩
theorem Nj(L:List Jr):(Jm Jr.cells L).length=L.length*4:=by
 unfold Jm;induction L with
 |nil=>rfl
 |cons x t c=> simp only[List.flatMap_cons,List.length_append,c,Zm,Jr.aF];omega
theorem Qc7(L:List Jr)(p:Jr):Jm Jr.cells (L++[p])=Jm Jr.cells L++p.cells:=by unfold Jm;simp
section
variable{w w1:World}{F:Fp}{v:Value}{L:List Jr}
theorem Uh.nil{w}{F:Fp}(h:Bd F w):Uh (.slice none 0 0) [] w F:=⟨h,.inl ⟨rfl,rfl⟩⟩
theorem Uh.row(h:Uh v L w F):∃a cap,v=.slice a L.length cap∧L.length≤cap∧cap≤maxLen∧(L≠[]→∃b o c,a=some ⟨b,o,none⟩∧F b∧Qh w b c 34∧∀(j:Nat)(u:Value),(Jm Jr.cells L)[j]? =some u→w.cell? ⟨b,o+j,none⟩=some u):=by
 obtain⟨J,⟨rfl,rfl⟩|⟨b,o,cap,c,rfl,k,q,z,d,I,B⟩⟩:=h;·exact⟨none,0,rfl,Zv _,by simp[maxLen],fun h=>absurd rfl h⟩
 ·exact⟨_,cap,rfl,q,z,fun _=>⟨b,o,c,rfl,k,d,fun j u E=>by rw[d.cell];exact B j u E⟩⟩
theorem Uh.ofOwn{w'}{L':List Jr}{v':Value}(z:Bd F w)(hc:Qc F w w')(h:w'.ownsRow w.heap.size 34 4 v' L'.length (Jm Jr.cells L')):Uh v' L' w' (Qn F w w'):=by
 obtain⟨h0,⟨h1,k⟩|⟨g,cap,d,h1,k,q,B,E,J,I⟩⟩:=h;·exact⟨z.ext hc,.inl ⟨h1,List.eq_nil_of_length_eq_zero k⟩⟩
 ·refine⟨z.ext hc,.inr ⟨g,0,cap,d,h1,.inr ⟨k,(Z2.1 q).1⟩,B,E,q,by omega,fun j u c=>?_⟩⟩;rw[←I,List.getElem?_take]at c;split at c;·rw[Nat.zero_add,←Array.getElem?_toList];exact c
  ·cases c
theorem Uh.append(h:Uh v L w F)(hn:L.length+1≤4096)(p:Jr)(w1)(q:Qc Qb w w1){a:Addr}{c:Nat}(d:∀(j:Nat)(u:Value),p.cells[j]? =some u→w1.cell? (a.add j)=some u)(ty:TypeId):
  ∃v' w',(Builtin.append_ #[27,27] ty #[v,.slice (some a) 1 c]).run prog w1=.ok v' w'∧Uh v' (L++[p]) w' (Qn F w w')∧Qc F w w':=by
 obtain⟨i,z,hi,hz,hs,K,U⟩:=pktT.hi;have one:∀u∈p.cells,u.oneCell'=true:=pktT.one p;obtain⟨hb,hv⟩:=h;have R:(L++[p]).length=L.length+1:=by simp
 have own:∀v' w',w'.ownsRow w1.heap.size 34 4 v' (L.length+1) (Jm Jr.cells L++p.cells)→w1.grownBy w' none→Uh v' (L++[p]) w' (Qn F w w')∧Qc F w w':=by intro v' w' h1 V;have J:Qc F w1 w':=(Zg F w1).grown V (fun k e=>by cases e);have h3:=Uh.ofOwn (F:=F) (w:=w1) (L':=L++[p]) (hb.later q) J (by rw[R,Qc7];exact h1);have c3:Qc F w w':=q.none.aA J;exact⟨(Nk v' _).more h3 (Ke q.size) (hb.ext c3),c3⟩
 rcases hv with⟨rfl,rfl⟩|⟨b,o,cap,aa,rfl,V,h3,h4,h5,h6,h7⟩;·obtain⟨v',w',hr,ho,hg,_,_⟩:=run_append_own_at (P:=prog) w1 w1.heap.size 27 ty 34 i z 4 32 pktT.ht hi hz hs K (by rw[U];rfl) (by omega) (.slice none 0 0) 0 [] (World.ownsRow_nil w1 _ _ _) a 1 c p.cells rfl d one (by simp[maxLen]) (by omega) (Zv _);exact⟨v',w',hr,own v' w' ho hg⟩
 ·have B:=q.blk h5 (fun h=>h);by_cases I:L.length+1≤cap
  ·have hr:=run_append_room_cells (P:=prog) w1 27 ty 34 i pktT.ht hi b o L.length cap a 1 c p.cells (by rw[hs];rfl) d one I
    (fun j Z=>by rw[B.cell];simp only[Jr.aF]at Z;rw[hs];simp;omega) (fun j Z=>B.frozen _)
   rw[hs]at hr;obtain⟨cs',k1,k2,k3,k4⟩:=Vc (t:=34) p.cells (o+L.length*4) w1 aa B (by simp only[Jr.aF];omega);have J:Qc F w (w1.setCells b (o+L.length*4) p.cells):=q.none.aA (k4.sub fun k e=>e▸V);refine⟨_,_,hr,⟨hb.ext J,.inr ⟨b,o,cap,cs',by rw[R],.inl V,by omega,h4,k1,by omega,fun j u E=>?_⟩⟩,J⟩;rw[Qc7]at E;rw[k3];have pl:=Jr.aF p;by_cases Z:j<L.length*4;·rw[if_neg (by omega)];rw[List.getElem?_append_left (by rw[Nj];exact Z)]at E;exact h7 j u E
   ·rw[List.getElem?_append_right (by rw[Nj];omega),Nj]at E;have ab:j-L.length*4<4:=(Z1.1 E).1;rw[if_pos (by omega)];rw[show o+j-(o+L.length*4)=j-L.length*4 from by omega];exact E
  ·obtain⟨v',w',hr,ho,hg⟩:=run_append_arg_grows (P:=prog) w1 27 ty 34 i z 4 32 pktT.ht hi hz hs K (by rw[U];rfl) (by omega) ⟨b,o,none⟩ L.length cap (Jm Jr.cells L) (Nj L) (fun j u E=>by
    rw[Addr.add_lit,B.cell];exact h7 j u E) a 1 c p.cells rfl d (by omega) (by simp[maxLen];omega) (by omega)
   exact⟨v',w',hr,own v' w' ho hg⟩
theorem Uh.head{x:Jr}{t:List Jr}(h:Uh v (x::t) w F):∃b o cap c,v=.slice (some ⟨b,o,none⟩) (t.length+1) cap∧t.length+1≤cap∧cap≤maxLen∧F b∧Qh w b c 34∧c[o]? =some (.int .u64 x.id)∧c[o+1]? =some (.int .i64 x.cls)∧c[o+2]? =some (.int .i64 x.len)∧c[o+3]? =some (.int .u64 x.at_)∧
  Uh (.slice (some ⟨b,o+4,none⟩) t.length (cap-1)) t w F∧(t=[]→Uh (.slice (some ⟨b,o,none⟩) 0 (cap-1)) t w F):=by
 obtain⟨E,⟨_,h1⟩|⟨b,o,cap,c,rfl,k,B,I,q,J,d⟩⟩:=h;·cases h1
 ·simp only[Zm]at B;refine⟨b,o,cap,c,rfl,B,I,k,q,d 0 _ rfl,d 1 _ rfl,d 2 _ rfl,d 3 _ rfl,⟨E,.inr ⟨b,o+4,cap-1,c,rfl,k,by omega,by omega,q,by omega,fun j u z=>?_⟩⟩,fun e=>⟨E,.inr ⟨b,o,cap-1,c,by rw[e];rfl,k,by rw[e];exact Nat.zero_le _,by omega,q,by omega,fun j u z=>by subst e;cases z⟩⟩⟩;have:=d (4+j) u (by
   show((Jr.cells x)++Jm Jr.cells t)[4+j]? =some u;rw[List.getElem?_append_right (by simp[Jr.aF])];rw[Jr.aF,show 4+j-4=j from by omega];exact z)
  rw[show o+4+j=o+(4+j)from by omega];exact this
end
def Va(sb now:Nat)(us:Nat→Value)(fine:Bool):Array Value:=(([ptr sb,.int .u64 now]:List Value)++(List.range 64).map us++([.bool fine]:List Value)).toArray
def Qc9(b sb now:Nat)(us:Nat→Value)(fine:Bool)(s:Qf)(vs:Nat→Value)(ps:Nat→List Jr):List Ya:=
 [Tv b (Va sb now us fine) 32,fun w F=>Qt w F sb s]++(List.range 64).map fun c=>Uh (vs c) (ps c)
theorem Ht(b sb now:Nat)(us:Nat→Value)(fine:Bool)(s:Qf)(vs:Nat→Value)(ps:Nat→List Jr):∀P∈Qc9 b sb now us fine s vs ps,Uy P:=by
 intro P d;unfold Qc9 at d;rcases Zl.1 d with d|d
 ·simp only[Zu,List.not_mem_nil,or_false]at d;rcases d with rfl|rfl;·exact Ks _ _ _
  ·exact Qt.obj.good _ _
 ·obtain⟨c,_,rfl⟩:=Z3.1 d;exact Nk _ _
def upd{X:Type}(f:Nat→X)(c:Nat)(x:X):Nat→X:=fun k=>if k=c then x else f k
theorem Qbz{X:Type}(f:Nat→X)(c:Nat)(x:X):upd f c x c=x:=if_pos rfl
theorem Qb0{X:Type}(f:Nat→X){c k:Nat}(x:X)(h:k≠c):upd f c x k=f k:=if_neg h
theorem Qed{X:Type}(f:Nat→X)(n c:Nat)(x:X):((List.range n).map f).set c x=(List.range n).map (upd f c x):=by
 refine List.ext_getElem? fun k=>?_;rw[List.getElem?_set];simp only[List.getElem?_map,List.length_map,List.length_range];by_cases d:k<n
 ·rw[List.getElem?_range d];by_cases e:c=k;·subst e;simp[upd,d]
  ·rw[if_neg e];simp only[upd,Zn];rw[if_neg (fun h=>e h.symm)]
 ·rw[List.getElem?_eq_none (by simp;omega)];split;·rw[if_neg (by omega)];rfl
  ·rfl
theorem Sk(sb now:Nat)(us:Nat→Value)(fine:Bool){c:Nat}(hc:c<64):(Va sb now us fine)[2+c]? =some (us c):=by unfold Va;simp only[Zf];rw[List.append_assoc,List.getElem?_append_right (by simp),List.getElem?_append_left (by simp;omega)];simp[hc]
theorem E6(sb now:Nat)(us:Nat→Value)(fine:Bool):(Va sb now us fine)[66]? =some (.bool fine):=by unfold Va;simp
theorem Qkg(sb now:Nat)(us:Nat→Value)(fine:Bool):(Va sb now us fine).size=67:=by unfold Va;simp
def Xm(sb:Nat)(us vs:Nat→Value)(w:World)(F:Fp)(b:Nat)(s:Qf)(now:Nat)(fine:Bool)(ps:Nat→List Jr):Prop:=Oh (Qc9 b sb now us fine s vs ps) w F
section
variable{sb b now:Nat}{us vs:Nat→Value}{w w1:World}{F:Fp}{s:Qf}{fine:Bool}{ps:Nat→List Jr}
theorem Xm.bd(h:Xm sb us vs w F b s now fine ps):Bd F w:=(Je (Ht b sb now us fine s vs ps)).bd h
theorem Xm.aB(h:Xm sb us vs w F b s now fine ps){S:Fp}(hc:Qc S w w1)(c:Jl F S):Xm sb us vs w1 F b s now fine ps:=(Je (Ht b sb now us fine s vs ps)).aB h hc c
theorem Xm.more(h:Xm sb us vs w F b s now fine ps){F':Fp}(hs:∀k,F k→F' k)(c:Bd F' w):Xm sb us vs w F' b s now fine ps:=(Je (Ht b sb now us fine s vs ps)).more h hs c
theorem Xm.blk(h:Xm sb us vs w F b s now fine ps):Qh w b (Va sb now us fine) 32∧F b:=by obtain⟨G,h1,c⟩:=J6 (Ht b sb now us fine s vs ps) 0 rfl h;exact⟨h1.1,c _ h1.2.1⟩
theorem Xm.cells(h:Xm sb us vs w F b s now fine ps):∃G:Fp,G b∧(∀k,G k→F k)∧∀w' d q c,Qc (fun k=>k=b) w w'→Qh w' b (Va sb d q c) 32→Xm sb q vs w' (Qn F w w') b s d c ps∧Qc F w w':=by obtain⟨G,u,B,_,E⟩:=Xv 0 (Ht b sb now us fine s vs ps) rfl h;refine⟨G,u.2.1,B,fun w' d q c hc I=>?_⟩;have z:Qc G w w':=hc.sub fun k e=>e▸u.2.1;exact⟨E w' (Tv b (Va sb d q c) 32) z ⟨I,.inl u.2.1,u.2.2.ext z⟩,z.sub B⟩
theorem Xm.sched(h:Xm sb us vs w F b s now fine ps):∃G:Fp,Qt w G sb s∧(∀k,G k→F k)∧¬G b∧∀w' s',Qt w' (Qn G w w') sb s'→Qc G w w'→Xm sb us vs w' (Qn F w w') b s' now fine ps∧Qc F w w':=by
 have hh:=h;obtain⟨q,U,R0,K,⟨d,u,B,V,Z,I,s2,s3⟩,z,R,s1⟩:=hh;obtain⟨G,k1,k2,_,k3⟩:=Xv 1 (Ht b sb now us fine s vs ps) rfl h;refine⟨u,V,fun k c=>s1 _ (s2 _ c),fun c=>z b K.2.1 (s2 _ c),fun w' s' h1 hc=>?_⟩;have J:∀k,u k→F k:=fun k c=>s1 _ (s2 _ c);have E:=hc.sub J;refine⟨?_,E⟩;refine Q7 (G:=U) (H:=fun k=>Qn u w w' k∨B k) ((Ks _ _ _).aB K hc (fun k a e=>z k a (s2 _ e))) ?_ ?_ (fun k c=>.inl (R k c)) ?_ (q.ext E)
 ·refine Q7 (G:=Qn u w w') (H:=B) h1 ((Je fun P hP=>Ht b sb now us fine s vs ps P (by simp only[Qc9,List.cons_append,Zu];exact .inr (.inr hP))).aB Z hc (fun k a e=>I k e a)) ?_ (fun k c=>.inl c) (fun k c=>.inr c) ?_;·exact Jl.extL I (d.sub s3)
  ·exact fun k c=>c.elim ((d.sub s2).ext hc k) ((d.sub s3).later hc k)
 ·rintro k c(e|e);·exact e.elim (fun e=>z k c (s2 _ e)) (fun e=>by have:=q _ (R _ c);omega)
  ·exact z k c (s3 _ e)
 ·exact fun k c=>c.elim (fun e=>Qn.mono J k e) (fun e=>.inl (s1 _ (s3 _ e)))
theorem Xm.rowOf(h:Xm sb us vs w F b s now fine ps){c:Nat}(hc:c<64):∃G:Fp,Uh (vs c) (ps c) w G∧(∀k,G k→F k)∧¬G b∧∀w' v' l',Uh v' l' w' (Qn G w w')→Qc G w w'→Xm sb us (upd vs c v') w' (Qn F w w') b s now fine (upd ps c l')∧Qc F w w':=by
 obtain⟨u,V,z,J,h1,B,U,s1⟩:=h;have gg:∀P∈((fun w F=>Qt w F sb s)::(List.range 64).map fun c=>Uh (vs c) (ps c)),Uy P:=fun P R=>Ht b sb now us fine s vs ps P (by simp only[Qc9,List.cons_append,List.nil_append,Zu]at R⊢;exact .inr R);have E:Oh ((fun w F=>Qt w F sb s)::(List.range 64).map fun c=>Uh (vs c) (ps c)) w z:=h1;have e:((fun w F=>Qt w F sb s)::(List.range 64).map fun c=>Uh (vs c) (ps c))[c+1]? =some (Uh (vs c) (ps c)):=by rw[Zd];simp[hc]
 obtain⟨G,k1,k2,_,k3⟩:=Xv (c+1) gg e E;refine⟨G,k1,fun k d=>s1 _ (k2 _ d),fun d=>B b J.2.1 (k2 _ d),fun w' v' l' hp q=>?_⟩;have I:Qc F w w':=q.sub fun k d=>s1 _ (k2 _ d);refine⟨?_,I⟩;have K:Oh (((fun w F=>Qt w F sb s)::(List.range 64).map fun c=>Uh (vs c) (ps c)).set (c+1) (Uh v' l')) w' (Qn z w w'):=k3 w' (Uh v' l') q hp;have Z:((fun w F=>Qt w F sb s)::(List.range 64).map fun c=>Uh (vs c) (ps c)).set (c+1) (Uh v' l')=(fun w F=>Qt w F sb s)::(List.range 64).map fun k=>Uh (upd vs c v' k) (upd ps c l' k):=by
  rw[Zb,Qed];congr 1;refine List.map_congr_left fun k _=>?_;by_cases d:k=c;·subst d;rw[Qbz,Qbz,Qbz]
  ·rw[Qb0 _ _ d,Qb0 _ _ d,Qb0 _ _ d]
 rw[Z]at K;refine Q7 (G:=V) (H:=Qn z w w') ((Ks _ _ _).aB J q (fun k a e=>B k a (k2 _ e))) K ?_ (fun k d=>.inl (U k d)) (fun k d=>Qn.mono s1 k d) (u.ext I);exact Jl.extR B (u.sub U)
def Xc(w:World)(F:Fp)(b:Nat)(s:Qf):Prop:=∃sb us now ps,Xm sb us us w F b s now true ps∧now≤1099511627776∧∀c,1≤c→c<64→ps c=s.qOf (c:Nat)
end
end
section
variable{s:Qf}{N:Nat}
theorem Qdv(h:Xp N s)(E:∀c∈s.tree,c.sp.id<64){now:Nat}{id:Int}{rule:Nat}(z:s.who now=some (id,rule)):
  ∃x t,s.qOf id=x::t∧s.next now=(some (s.takeC id rule),s.take id rule)∧(s.takeC id rule).p=x∧x.cls=id∧1≤id∧id<64∧∀i,(s.take id rule).qOf i=if i=id then t else s.qOf i:=by
 obtain⟨l,hl,J,_⟩:=h.who z;obtain⟨k,R,_⟩:=h.at hl;obtain⟨c,hc,_⟩:=h.leaf_at hl;obtain⟨K,_,_,_,U,B⟩:=h.tree.pos hc;have I:=E c B;have q:s.qOf id=l.q:=by unfold Qf.qOf;rw[hl];rfl
 obtain⟨x,t,d⟩:∃x t,l.q=x::t:=by
  cases u:l.q with
  |nil=>exact absurd u J
  |cons x t=>exact⟨x,t,rfl⟩
 refine⟨x,t,by rw[q,d],by unfold Qf.next;rw[z],?_,?_,K,by omega,fun i=>?_⟩;·unfold Qf.takeC;rw[hl];dsimp only;rw[d];rfl
 ·have:=(k.good x (by rw[d];simp)).2;rw[this,R]
 ·rw[Qsh h rule hl,d];rfl
theorem Cs{now:Nat}(c:s.who now=none):s.next now=(none,s):=by unfold Qf.next;rw[c]
theorem Wr(sb now:Nat)(us:Nat→Value)(fine:Bool):(Va sb now us fine).setIfInBounds 66 (.bool fine)=Va sb now us fine:=by
 have h:=E6 sb now us fine;have hs:=Qkg sb now us fine;generalize Va sb now us fine=A at h hs;refine Array.ext (by simp) fun i h1 c=>?_;rw[Array.getElem_setIfInBounds];split;·rename_i e;subst e;rw[Array.getElem?_eq_getElem (by omega)]at h;exact(Zs h).symm
 ·rfl
theorem Qc8(sb now:Nat)(us:Nat→Value)(fine:Bool){c:Nat}(hc:c<64)(v:Value):(Va sb now us fine).setIfInBounds (2+c) v=Va sb now (upd us c v) fine:=by unfold Va;rw[Za,←Qed,List.append_assoc,List.append_assoc,List.set_append_right _ _ (by simp),List.set_append_left _ _ (by simp;omega)];simp
theorem Qom(sb now c:Nat)(us:Nat→Value)(fine:Bool):(Va sb now us fine).setIfInBounds 1 (.int .u64 c)=Va sb c us fine:=by unfold Va;rw[Za,List.append_assoc,List.append_assoc,List.set_append_left _ _ (by simp)];simp
end
section
variable{sb b now:Nat}{us:Nat→Value}{w w':World}{F:Fp}{s:Qf}{ps:Nat→List Jr}
theorem Xm.setRow(h:Xm sb us us w F b s now true ps){c:Nat}(hc:c<64){v:Value}{l:List Jr}(I:∀G:Fp,Uh (us c) (ps c) w G→Uh v l w G):
  Xm sb (upd us c v) (upd us c v) (w.setCell ⟨b,2+c,none⟩ v) (Qn F w (w.setCell ⟨b,2+c,none⟩ v)) b s now true (upd ps c l)∧Qc F w (w.setCell ⟨b,2+c,none⟩ v):=by
 obtain⟨G,h1,K,_,B⟩:=h.rowOf hc;have E:=(Nk _ _).bd h1;obtain⟨k1,k2⟩:=B w v l ((Nk _ _).more (I G h1) (fun k u=>.inl u) (E.ext (Zg G w))) (Zg G w);have q:Xm sb us (upd us c v) w F b s now true (upd ps c l):=k1.more (fun k u=>u.elim id (fun e=>by omega)) h.bd;obtain⟨J,_,_,d⟩:=q.cells;have z:=q.blk.1.set (2+c) v;rw[Qc8 _ _ _ _ hc]at z;exact d _ now (upd us c v) true ((Zg _ _).setCell _ (.inl rfl)) z
end
section
attribute [local go_sem] Qp
attribute [local irreducible] Kl J9 Xo
theorem Ga(o:Option ChM):∀v∈(Bq o).toList,v.oneCell'=true:=by
 cases o with
 |none=>exact Iy _ _ _
 |some c=>exact Iy _ _ _
theorem Uq(o:Option ChM):(Bq o).size=6:=by cases o<;>rfl
theorem Qu0(w):(binOp .eql 50 (.agg #[.int .u64 0,.int .i64 0,.int .i64 0,.int .u64 0,.int .u8 0,.int .u64 0]) (.agg #[.int .u64 0,.int .i64 0,.int .i64 0,.int .u64 0,.int .u8 0,.int .u64 0])).run prog w=.ok (.bool true) w:=by kernel_rfl
attribute [local go_sem] Uq
attribute [local go_sem ↓] Qu0
section
variable{w:World}{F:Fp}{b:Nat}{s:Qf}{N:Nat}
theorem Qe0(h:Xc w F b s)(ok:Xp N s)(hb:∀c∈s.tree,c.sp.id<64)(hN:N<549755813000):
  Cl 77 #[ptr b] w fun e w'=>e=.returned (.tuple #[])∧∃s',Xc w' (Qn F w w') b s'∧Xp (N+16) s'∧(∀c∈s'.tree,c.sp.id<64)∧Qc F w w':=by
 obtain⟨sb,us,now,ps,h,J,ae⟩:=h;have ag:=h.bd;have aw:=O ag;have HB:=O h.blk.1;obtain⟨G,ah⟩:∃G:Fp,G=fun k=>F k∧k≠b:=⟨_,rfl⟩;have au:¬G b:=by rw[ah];exact fun h=>h.2 rfl
 have hG:∀k,G k→F k:=by rw[ah];exact fun k h=>h.1
 have af:Hi (∀w',Qc Qb w w'→Cl 16 #[ptr sb,.int .u64 now] w' fun e av=>e=.returned (.tuple #[.agg (Bq (s.next now).1),.bool (s.next now).1.isSome])∧Xm sb us us av (Qn F w' av) b (s.next now).2 now true ps∧Qc G w' av):=O (fun w' cc=>by
  obtain⟨G',hS,be,bc,z⟩:=(h.aB cc (Jl.none F)).sched;refine Zz (Pg hS ok hN now) ?_;rintro w2⟨Z,q⟩;obtain⟨m1,m2⟩:=z w2 _ Z q;exact⟨rfl,m1,q.sub fun k d=>by rw[ah];exact⟨be k d,fun e=>bc (e▸d)⟩⟩)
 have NG:=O (show∀k,w.heap.size≤k→¬F k from fun k d bh=>by have:=ag _ bh;omega);have U:=O hG;obtain⟨o,ho⟩:=Zx ((s.next now).1);rw[←ho]at af;have HO:=O ho;clear ho;have a0:w.cell? ⟨b,0,none⟩=some (ptr sb):=by rw[HB.o.cell];rfl
 have a1:w.cell? ⟨b,1,none⟩=some (.int .u64 now):=by rw[HB.o.cell];rfl
 have B:=O (fun(w')(c:Qc G w w')=>(show w'.cell? ⟨b,0,none⟩=some (ptr sb)∧w'.cell? ⟨b,1,none⟩=some (.int .u64 now)from⟨by rw[(c.blk HB.o au).cell];rfl,by rw[(c.blk HB.o au).cell];rfl⟩));unfold ptr at*;clear h au hG ah;go_enter func77,ntmps77;go_wp2_with fail;go_cut [2,3] (fun s2 s3 wz=>(∃r,s2=.pointer (some ⟨r,0,none⟩)∧Qh wz r (Bq o) 50∧w.heap.size≤r)∧s3=.bool o.isSome∧Xm sb us us wz (Qn F w wz) b (s.next now).2 now true ps∧Qc F w wz)
 case first=>
  refine Ui (.lookp 0 (.lookp 1 (.lookp 2 (.lookp 3 (.lookp 4 (.lookp 5 (.lookp 6 (.lookp 7 (.fork 8 (.lookp 9 (.lookp 10 (.lookp 11 (.walk 12 (.walk 13 (.walk 14 .nil)))))) 12 (.walk 8 (.look 9 (.look 10 (.lookp 11 (.walk 13 (.walk 14 .nil))))))))))))))) (fun wv=>Qc (G) (w) wv) Zq (by kernel_rfl) (fun _ _ _ _ _ h=>h) (Zj (Zg _ _)) ?_;simp only[O0,Zf,Ze,Zd];iterate 3 (first|(refine Vd (by kernel_rfl) (by go_simp;try rfl) ?_)|(refine Xi (by kernel_rfl) (fun wv hv=>by go_simp;try rfl) ?_);try simp only[Act.put,Za,Zc,Zb])
  iterate 1 (refine Xi (by kernel_rfl) (fun wv hv=>by(obtain⟨z0,z1⟩:=B.o wv hv);go_simp;try rfl) ?_;try simp only[Act.put,Za,Zc,Zb])
  iterate 3 (first|(refine Vd (by kernel_rfl) (by go_simp;try rfl) ?_)|(refine Xi (by kernel_rfl) (fun wv hv=>by go_simp;try rfl) ?_);try simp only[Act.put,Za,Zc,Zb])
  iterate 1 (refine Xi (by kernel_rfl) (fun wv hv=>by(obtain⟨z0,z1⟩:=B.o wv hv);go_simp;try rfl) ?_;try simp only[Act.put,Za,Zc,Zb])
  clear a0 a1;refine Gn ?_ ?_
  ·go_wp2_with fail;refine Zz (af.o _ (Zg Qb w).drew) ?_;rintro w2⟨Z,q⟩;have C2:=O (show Qc G w w2 from(Zg G w).drew.aA q);have H2:=O Z;clear Z q;go_wp2_with fail;refine⟨C2.o,?_⟩;iterate 3 (first|(refine Vd (by kernel_rfl) (by go_simp;try rfl) ?_)|(refine Xi (by kernel_rfl) (fun wv hv=>by go_simp;try rfl) ?_);try simp only[Act.put,Za,Zc,Zb])
   refine Xt ?_;go_wp2_with fail;refine⟨C2.o.alloc _,?_⟩;obtain⟨W3,s3,aa,C3⟩:=Q0 (P:=prog) (vs:=Bq o) (Qh.new w2 #[.int .u64 0,.int .i64 0,.int .i64 0,.int .u64 0,.int .u8 0,.int .u64 0] 50) (Uq o) (Ga _);have D3:=O (show Qc G w W3 from(C2.o.alloc _).trans C3 (fun k e=>.inr (by have:=C2.o.size;omega)));have N3:=O (show Qc Qb w2 W3 from((Zg Qb w2).alloc _).trans C3 (fun k e=>.inr (by omega)));have al:=O aa;clear aa C3;refine Xt ?_;go_wp2_with fail;refine⟨D3.o,?_⟩;refine Xt ?_;go_wp2_with fail;refine⟨D3.o,?_⟩;refine U9 ?_;clear s3;go_wp2_with fail;go_meet;have cF:=D3.o.sub U.o;refine⟨⟨_,rfl,al.o,C2.o.size⟩,?_,(H2.o.aB N3.o (Jl.none _)).more (fun k d=>d.elim .inl (fun d=>.inr ⟨d.1,Nat.lt_of_lt_of_le d.2 N3.o.size⟩)) (aw.o.ext cF),cF⟩;rfl
  ·go_wp2_with fail;have CA:=O ((Zg Qb w).drew.alloc (.cells #[.int .u64 0,.int .i64 0,.int .i64 0,.int .u64 0,.int .u8 0,.int .u64 0] 50));have BA:=O (show Qh (w.drew.alloc (.cells #[.int .u64 0,.int .i64 0,.int .i64 0,.int .u64 0,.int .u8 0,.int .u64 0] 50)) w.heap.size #[.int .u64 0,.int .i64 0,.int .i64 0,.int .u64 0,.int .u8 0,.int .u64 0] 50 from Qh.new w.drew _ _);refine⟨CA.o.mono (fun k h=>h.elim),?_⟩;refine Xt ?_;go_wp2_with fail;refine(af.o _ CA.o).mono ?_;rintro e w2⟨rfl,Z,q⟩;have C2:=O (show Qc G w w2 from(CA.o.none (F:=G)).aA q);have H2:=O Z;obtain⟨W3,s3,aa,C3⟩:=Q0 (P:=prog) (vs:=Bq o) (q.blk BA.o (fun d=>NG.o _ (Zv _) (U.o _ d))) (Uq o) (Ga _);have al:=O aa;have N3:=O (show Qc (fun k=>k=w.heap.size) w2 W3 from C3);have D3:=O (show Qc G w W3 from C2.o.trans C3 (fun k e=>.inr (by omega)));clear Z q aa C3;go_wp2_with fail;refine⟨C2.o,?_⟩;iterate 3 (first|(refine Vd (by kernel_rfl) (by go_simp;try rfl) ?_)|(refine Xi (by kernel_rfl) (fun wv hv=>by go_simp;try rfl) ?_);try simp only[Act.put,Za,Zc,Zb])
   refine Xt ?_;go_wp2_with fail;refine⟨D3.o,?_⟩;refine Xt ?_;go_wp2_with fail;refine⟨D3.o,?_⟩;refine U9 ?_;clear s3;go_wp2_with fail;go_meet;have cF:=D3.o.sub U.o;have z1:=CA.o.size;have z2:=N3.o.size;refine⟨⟨_,rfl,al.o,Zv _⟩,rfl,(H2.o.aB N3.o (fun k d e=>d.elim (fun d=>NG.o k (by omega) d) (fun d=>by have:=BA.o.lt;omega))).more (fun k d=>d.elim .inl (fun d=>.inr (by omega))) (aw.o.ext cF),cF⟩
 case rest=>
  obtain⟨⟨r,rfl,hR,hr⟩,rfl,K,cW⟩:=hcut;obtain⟨V,hV⟩:=Zx wc;rw[←hV]at hR K cW⊢;clear hV af B a0 a1;have HA:=O K;have CW:=O cW;have HR:=O hR;cases o with
  |none=>
   have bd:=O (show s.next now=(none,s)from by
    have h1:=HO.o;cases hw:s.who now with
    |none=>exact Cs hw
    |some x=>
     obtain⟨i,k⟩:=x;obtain⟨_,_,_,Z,_⟩:=Qdv ok hb hw;rw[Z]at h1;cases h1)
   have y3:V.cell? ⟨b,66,none⟩=some (.bool true):=by rw[K.blk.1.cell];exact E6 _ _ _ _
   have yf:=K.blk.1.frozen 66;obtain⟨r0,r1,r2,r3,r4,r5⟩:=Lf (show Qh V r #[.int .u64 0,.int .i64 0,.int .i64 0,.int .u64 0,.int .u8 0,.int .u64 0] _ from hR);obtain⟨G2,_,_,ac⟩:=K.cells;have a2:Qh (V.setCell ⟨b,66,none⟩ (.bool true)) b (Va sb now us true) 32:=by have:=K.blk.1.set 66 (.bool true);rw[Wr]at this;exact this
   obtain⟨m1,m2⟩:=ac (V.setCell ⟨b,66,none⟩ (.bool true)) now us true ((Zg (fun k=>k=b) V).setCell _ (.inl rfl)) a2;have q:Qc F w (V.setCell ⟨b,66,none⟩ (.bool true)):=cW.trans m2 (fun k d=>d.elim .inl (fun d=>.inr d.1));have z1:=cW.size;have z2:=m2.size;have ba:(s.next now).2=s:=by rw[bd.o]
   rw[ba]at m1;have R:=O (show Xc (V.setCell ⟨b,66,none⟩ (.bool true)) (Qn F w (V.setCell ⟨b,66,none⟩ (.bool true))) b s∧Qc F w (V.setCell ⟨b,66,none⟩ (.bool true))from⟨⟨sb,us,now,ps,m1.more (fun k d=>Qn.trans z1 z2 k d) (ag.ext q),J,ae⟩,q⟩);have ay:=O (Zt (ok.more (show N≤N+16 by omega)) hb);clear K cW hR a2 m1 m2 q ac z1 z2 ba ae J ok hb;go_wp2_with fail;exact bodyPost_ret (results_none rfl _ _ _) rfl ⟨rfl,s,R.o.1,ay.o.1,ay.o.2,R.o.2⟩
  |some I=>
   have h1:=HO.o;cases hw:s.who now with
   |none=>rw[Cs hw]at h1;cases h1
   |some ir=>
    obtain⟨id,rule⟩:=ir;obtain⟨x,t,hq,ap,hp,aj,i1,bj,a9⟩:=Qdv ok hb hw;rw[ap]at h1;have az:s.takeC id rule=I:=(Zs h1).symm;obtain⟨k,rfl⟩:∃k:Nat,id=(k:Int):=⟨id.toNat,by omega⟩;have a8:1≤k:=by omega
    have d:k<64:=by omega
    have aq:ps k=x::t:=by rw[ae k a8 d,hq]
    have bb:(s.next now).2=s.take k rule:=by rw[ap]
    have an:=O (ok.next now);have am:=O (fun c hc=>hb c (by rw[←Qdz (s:=s) now];exact hc));rw[bb]at K an am;obtain⟨G2,z,_,_,_⟩:=K.rowOf (c:=k) d;rw[aq]at z;obtain⟨b2,o2,E,bl,ar,ai,ab,_,a3,c0,c1,q,c3,bf,bg⟩:=z.head;have DR:=(Zg Qb V).drew;have ao:=DR.blk K.blk.1 (fun h=>h);have u:=DR.blk a3 (fun h=>h);have y2:V.drew.cell? ⟨b,2+k,none⟩=some (us k):=by rw[ao.cell];exact Sk _ _ _ _ d
    have yf:=ao.frozen (2+k);have p0:V.drew.cell? ⟨b2,o2,none⟩=some (.int .u64 x.id):=by rw[u.cell];exact c0
    have p1:V.drew.cell? ⟨b2,o2+1,none⟩=some (.int .i64 x.cls):=by rw[u.cell];exact c1
    have p2:V.drew.cell? ⟨b2,o2+2,none⟩=some (.int .i64 x.len):=by rw[u.cell];exact q
    have p3:V.drew.cell? ⟨b2,o2+3,none⟩=some (.int .u64 x.at_):=by rw[u.cell];exact c3
    have a7:I.p=x:=by rw[←az];exact hp
    obtain⟨q0,q1,q2,q3,q4,q5⟩:=Lf (show Qh V r #[.int .u64 I.p.id,.int .i64 I.p.cls,.int .i64 I.p.len,.int .u64 I.p.at_,.int .u8 I.rule,.int .u64 I.due] _ from hR);obtain⟨r0,r1,r2,r3,r4,r5⟩:=Lf (show Qh V.drew r #[.int .u64 I.p.id,.int .i64 I.p.cls,.int .i64 I.p.len,.int .u64 I.p.at_,.int .u8 I.rule,.int .u64 I.due] _ from DR.blk hR (fun h=>h));rw[a7]at r0 r1 r2 r3 q1;rw[aj]at r1 p1 q1;have R:Hi (∀v,v=.slice (some ⟨b2,o2+4,none⟩) t.length (E-1)∨(t=[]∧v=.slice (some ⟨b2,o2,none⟩) 0 (E-1))→∀w',Qc Qb (V.setCell ⟨b,2+k,none⟩ v) w'→Xc w' (Qn F w w') b (s.take k rule)∧Qc F w w'):=O (fun v hv w' cc=>by
     obtain⟨m1,m2⟩:=K.setRow d (v:=v) (l:=t) (fun G hG=>by
      rw[aq]at hG;obtain⟨b3,o3,bk,bm,ak,_,_,_,_,_,_,_,_,a4,a5⟩:=hG.head;rw[ar]at ak;injection ak with e1 e2 e3;injection e1 with e1;injection e1 with e4 e5;subst e3 e4 e5;rcases hv with rfl|⟨e,rfl⟩;·exact a4
      ·exact a5 e)
     have q:Qc F w (V.setCell ⟨b,2+k,none⟩ v):=cW.trans m2 (fun k d=>d.elim .inl (fun d=>.inr d.1));have c3:=q.trans cc (fun k d=>d.elim);have bi:(V.setCell ⟨b,2+k,none⟩ v).heap.size≤w'.heap.size:=cc.size;refine⟨⟨sb,upd us k v,now,upd ps k t,(m1.aB cc (Jl.none _)).more (fun k d=>(Qn.trans cW.size m2.size k d).elim .inl (fun d=>.inr ⟨d.1,Nat.lt_of_lt_of_le d.2 bi⟩)) (ag.ext c3),J,fun c h1 Z=>?_⟩,c3⟩;rw[a9];by_cases e:c=k;·subst e;rw[Qbz,if_pos rfl]
     ·rw[Qb0 _ _ e,if_neg (by omega),ae c h1 Z])
    have LT:=O (show t=[]∨0<t.length from by cases t<;>simp);have ax:=O (Zt ai ab);have bo:=O (Zt a8 d);have k0:(0:Int)≤(k:Int):=by omega
    have k1:(k:Int)<64:=by omega
    have n1:(0:Int)<((t.length+1:Nat):Int):=by omega
    have n2:(1:Int)≤(t.length:Int)+1:=by omega
    have d1:decide ((k:Int)<0)=false:=by simp
    have d2:decide (63<(k:Int))=false:=by simp;omega
    have d3:((t.length:Int)+1==0)=false:=by simp;omega
    have d4:decide ((t.length:Int)+1=0)=false:=by simp;omega
    rw[ar]at y2;clear DR ao u q0 q2 q3 q4 q5 z ar ai ab a3 c0 c1 q c3 bf bg a7 az hw hq ap hp aj i1 bj a9 h1 K cW hR ae J ok hb bb aq;go_wp2_with fail;refine Qj [(0,0),(0,1),(0,2),(0,3),(0,4),(0,5),(0,6),(0,7),(0,8),(0,9),(0,10),(0,11),(0,12),(0,13),(0,14),(0,15),(0,16),(0,17),(0,18),(0,19),(0,20),(0,21),(0,22),(0,23),(0,24),(0,25),(0,26),(0,27),(0,28)] Zq (by kernel_rfl) (fun _ _ _ _ _ h=>h) ?_;simp only[Jk,Zf,Ze,Zd];iterate 7 (refine Jq (by kernel_rfl) (by go_simp;try rfl) ?_)
    try simp only[Act.put,Za,Zc,Zb]
    iterate 7 (refine Jq (by kernel_rfl) (by go_simp;try rfl) ?_)
    try simp only[Act.put,Za,Zc,Zb]
    iterate 7 (refine Jq (by kernel_rfl) (by go_simp;try rfl) ?_)
    try simp only[Act.put,Za,Zc,Zb]
    iterate 8 (refine Jq (by kernel_rfl) (by go_simp;try rfl) ?_)
    try simp only[Act.put,Za,Zc,Zb]
    refine Jo ?_;go_wp2_with fail;by_cases a6:E=1
    ·subst a6;have HT:=O (show t=[]from List.eq_nil_of_length_eq_zero (by have:=ax.o.1;omega));refine Qj [(0,0),(0,1),(0,2),(0,3),(0,4),(0,5),(0,6),(0,7),(0,8),(0,9),(0,10),(0,11),(2,12)] Zq (by kernel_rfl) (fun _ _ _ _ _ h=>h) ?_;simp only[Jk,Zf,Ze,Zd];iterate 6 (refine Jq (by kernel_rfl) (by go_simp;try rfl) ?_)
     try simp only[Act.put,Za,Zc,Zb]
     iterate 6 (refine Jq (by kernel_rfl) (by go_simp;try rfl) ?_)
     try simp only[Act.put,Za,Zc,Zb]
     refine J7 ?_;go_wp2_with fail;refine Jo ?_;go_wp2_with fail;have FF:=O (R.o _ (.inr ⟨HT.o,rfl⟩) _ ((Zg Qb _).drew.drew));have HL:=O (show t.length=0 by rw[HT.o];rfl);rw[HL.o];exact bodyPost_end (results_none rfl _ _ _) rfl ⟨rfl,_,FF.o.1,an.o,am.o,FF.o.2⟩
    ·have bp:(E=1)=False:=by simpa using a6
     refine Qj [(0,0),(0,1),(0,2),(0,3),(0,4),(0,5),(0,6),(0,7),(0,8),(0,9),(0,10),(0,11),(2,12)] Zq (by kernel_rfl) (fun _ _ _ _ _ h=>h) ?_;simp only[Jk,Zf,Ze,Zd];iterate 6 (refine Jq (by kernel_rfl) (by go_simp;try rfl) ?_)
     try simp only[Act.put,Za,Zc,Zb]
     iterate 6 (refine Jq (by kernel_rfl) (by go_simp;try rfl) ?_)
     try simp only[Act.put,Za,Zc,Zb]
     refine J7 ?_;go_wp2_with fail;refine Jo ?_;go_wp2_with fail;have FF:=O (R.o _ (.inl rfl) _ ((Zg Qb _).drew.drew));exact bodyPost_end (results_none rfl _ _ _) rfl ⟨rfl,_,FF.o.1,an.o,am.o,FF.o.2⟩
end
end
section
attribute [local go_sem] Qp
attribute [local go_sem ↓] X8 Yd
attribute [local irreducible] Kl J9 Xo
structure Yy where
 kind:Int
 s:Yk
 p:Jr
 after:Nat
def Yy.cells(a:Yy):List Value:=[.int .u8 a.kind,.int .i64 a.s.id,.int .i64 a.s.par,.bool a.s.leaf,.int .u64 a.s.real.f,.int .u64 a.s.real.l,.int .u64 a.s.real.r,.int .u64 a.s.share.f,.int .u64 a.s.share.l,.int .u64 a.s.share.r,.int .u64 a.s.aN.f,.int .u64 a.s.aN.l,.int .u64 a.s.aN.r,.int .i64 a.s.pk,.int .i64 a.s.bt,.int .u64 a.p.id,.int .i64 a.p.cls,.int .i64 a.p.len,.int .u64 a.p.at_,.int .u64 a.after]
def Yy.wf(a:Yy):Prop:=0≤a.kind∧a.kind<256∧a.after<18446744073709551616
def Yy.withId(a:Yy)(i:Int):Yy:={a with s:={a.s with id:=i}}
def Yy.withCls(a:Yy)(i:Int):Yy:={a with p:={a.p with cls:=i}}
theorem Qh.at{w}{b:Nat}{cs:Array Value}{t:TypeId}(h:Qh w b cs t)(j:Nat){v:Value}(c:cs[j]? =some v):w.cell? ⟨b,j,none⟩=some v:=by rw[h.cell];exact c
theorem Qot(x:Int):∃m:Nat,m<63∧(IntKind.u64.wrap x).tmod 63=(m:Int)∧Go.RowKit.wrap64 (m:Int)=(m:Int)∧Go.RowKit.wrap64 (1+(m:Int))=1+(m:Int):=by
 have h0:0≤IntKind.u64.wrap x:=by rw[IntKind.wrap_u64];omega
 refine⟨(IntKind.u64.wrap x%63).toNat,by omega,?_,?_,?_⟩;·rw[Int.tmod_eq_emod_of_nonneg h0];omega
 ·unfold Go.RowKit.wrap64;omega
 ·unfold Go.RowKit.wrap64;omega
theorem Xm.fine{w}{F:Fp}{b sb now:Nat}{us vs:Nat→Value}{s:Qf}{ps:Nat→List Jr}(h:Xm sb us vs w F b s now true ps):Xm sb us vs (w.setCell ⟨b,66,none⟩ (.bool true)) (Qn F w (w.setCell ⟨b,66,none⟩ (.bool true))) b s now true ps∧Qc F w (w.setCell ⟨b,66,none⟩ (.bool true)):=by obtain⟨G,_,_,c⟩:=h.cells;have d:=h.blk.1.set 66 (.bool true);rw[Wr]at d;exact c _ now us true ((Zg (fun k=>k=b) w).setCell (a:=⟨b,66,none⟩) _ (.inl rfl)) d
theorem Xm.putRow{w w'}{F G:Fp}{b sb now c:Nat}{us:Nat→Value}{s:Qf}{ps:Nat→List Jr}(h:Xm sb us us w F b s now true ps)(hc:c<64){v:Value}{l:List Jr}
  (u:∀w' v' l',Uh v' l' w' (Qn G w w')→Qc G w w'→Xm sb us (upd us c v') w' (Qn F w w') b s now true (upd ps c l')∧Qc F w w')(h1:Uh v l w' (Qn G w w'))(I:Qc G w w'):
  Xm sb (upd us c v) (upd us c v) (w'.setCell ⟨b,2+c,none⟩ v) (Qn F w (w'.setCell ⟨b,2+c,none⟩ v)) b s now true (upd ps c l)∧Qc F w (w'.setCell ⟨b,2+c,none⟩ v):=by
 obtain⟨k1,k2⟩:=u w' v l h1 I;obtain⟨K,_,_,d⟩:=k1.cells;have B:=k1.blk.1.set (2+c) v;rw[Qc8 _ _ _ _ hc]at B;obtain⟨J,E⟩:=d _ now (upd us c v) true ((Zg (fun k=>k=b) w').setCell (a:=⟨b,2+c,none⟩) _ (.inl rfl)) B;have z:=k2.trans E (fun k q=>q.elim .inl (fun q=>.inr q.1));exact⟨J.more (fun k q=>Qn.trans k2.size E.size k q) (h.bd.ext z),z⟩
structure Qs9(w:World)(F:Fp)(b sb:Nat)(us:Nat→Value)(s:Qf)(ps:Nat→List Jr)(a:Yy)(now m:Nat)(W W1 W2:World)(F2:Fp)(now':Nat):Prop where
 hW:W=w.alloc (.cells a.cells.toArray 74)
 a1:W.drew.cell? ⟨b,1,none⟩=some (.int .u64 now)
 af:W.drew.frozen? ⟨b,1,none⟩=false
 c19:W.drew.cell? ⟨w.heap.size,19,none⟩=some (.int .u64 a.after)
 e1:min ((now:Int)+(a.after:Int)%64) 1099511627776=(now':Int)
 hW1:W1=(W.setCell ⟨b,1,none⟩ (.int .u64 now')).drew
 k0:W1.cell? ⟨w.heap.size,0,none⟩=some (.int .u8 a.kind)
 k1:W1.cell? ⟨w.heap.size,1,none⟩=some (.int .i64 a.s.id)
 kf:W1.frozen? ⟨w.heap.size,1,none⟩=false
 hW2:W2=W1.setCell ⟨w.heap.size,1,none⟩ (.int .i64 (1+(m:Int)))
 k2:W2.cell? ⟨w.heap.size,0,none⟩=some (.int .u8 a.kind)
 act1:Qh W1 w.heap.size a.cells.toArray 74
 game:Xm sb us us W2 F2 b s now' true ps
 act:Qh W2 w.heap.size (a.withId (1+(m:Int))).cells.toArray 74
 off:¬F2 w.heap.size
 le:now'≤1099511627776
 lift:∀w' s',Xc w' (Qn F2 W2 w') b s'→Qc (fun k=>F2 k∨k=w.heap.size) W2 w'→Xc w' (Qn F w w') b s'∧Qc F w w'
theorem Rp{w}{F:Fp}{b sb now:Nat}{us:Nat→Value}{s:Qf}{ps:Nat→List Jr}(h:Xm sb us us w F b s now true ps)(ac:now≤1099511627776)(a:Yy)(m:Nat):∃W q B F2 c,Qs9 w F b sb us s ps a now m W q B F2 c:=by
 have ae:b<w.heap.size:=h.bd _ h.blk.2;obtain⟨W,hW⟩:=Zx (w.alloc (.cells a.cells.toArray 74));have J:Qc Qb w W:=by rw[hW];exact(Zg _ _).alloc _
 have K:Qh W w.heap.size a.cells.toArray 74:=by rw[hW];exact Qh.new _ _ _
 have R:=h.aB J (Jl.none F);obtain⟨c,af⟩:∃n:Nat,n=min (now+a.after%64) 1099511627776:=⟨_,rfl⟩;have dr:=(Zg Qb W).drew;have E:=dr.blk R.blk.1 (fun h=>h);have U:=dr.blk K (fun h=>h);obtain⟨q,hW1⟩:=Zx ((W.setCell ⟨b,1,none⟩ (.int .u64 c)).drew);obtain⟨g1,q1⟩:Xm sb us us q (Qn F W q) b s c true ps∧Qc F W q:=by obtain⟨G,_,_,z⟩:=R.cells;have hB:=R.blk.1.set 1 (.int .u64 c);rw[Qom]at hB;rw[hW1];exact z _ c us true (((Zg (fun k=>k=b) W).setCell (a:=⟨b,1,none⟩) _ (.inl rfl)).drew) ((Zg Qb _).drew.blk hB (fun h=>h))
 have bF:Bd F w:=h.bd;have nF:¬F w.heap.size:=fun d=>by have:=bF _ d;omega
 have b1:Qh q w.heap.size a.cells.toArray 74:=q1.blk K nF;obtain⟨B,hW2⟩:=Zx (q.setCell ⟨w.heap.size,1,none⟩ (.int .i64 (1+(m:Int))));have u:Qc (fun k=>k=w.heap.size) q B:=by rw[hW2];exact(Zg (fun k=>k=w.heap.size) q).setCell (a:=⟨w.heap.size,1,none⟩) _ (.inl rfl)
 have b2:Qh B w.heap.size (a.withId (1+(m:Int))).cells.toArray 74:=by rw[hW2];exact b1.set' 1 (.int .i64 (1+(m:Int))) rfl
 have Xg:=K.lt;have I:¬Qn F W q w.heap.size:=fun d=>d.elim nF fun e=>by omega
 have g2:=g1.aB u (fun k d e=>I (e▸d));refine⟨W,q,B,Qn F W q,c,hW,by rw[E.cell];rfl,E.frozen 1,U.at 19 rfl,by omega,hW1,b1.at 0 rfl,b1.at 1 rfl,b1.frozen 1,hW2,b2.at 0 rfl,b1,g2,b2,I,by omega,fun w' s'⟨aa,ab,n',Z,hg,V,hq⟩hc=>?_⟩;have c1:Qc F w q:=J.none.aA q1;have c2:Qc F w B:=c1.trans u (fun k e=>.inr (by omega));have c3:Qc F w w':=c2.trans hc (fun k d=>d.elim (fun d=>d.elim .inl (fun e=>.inr (by have:=J.size;omega))) (fun e=>.inr (by omega)));have z1:=J.size;have z2:=q1.size;have z3:=u.size;have z4:=hc.size;exact⟨⟨aa,ab,n',Z,hg.more (fun k d=>by
  rcases d with(d|d)|d;·exact .inl d
  ·exact .inr ⟨by omega,by omega⟩
  ·exact .inr ⟨by omega,d.2⟩) (bF.ext c3),V,hq⟩,c3⟩
end
end Go.Proofs.YtnnhmpehkbihnaaGreat
