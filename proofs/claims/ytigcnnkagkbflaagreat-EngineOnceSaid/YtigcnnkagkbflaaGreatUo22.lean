/- A part of the proof: no condition. -/
import Derived.Test.YtigcnnkagkbflaaGreatUo21
import Derived.OwnWalk
import Derived.Deep.MidRow
import Derived.Defers
namespace Go.Proofs.YtigcnnkagkbflaaGreat
set_option linter.unusedVariables false
set_option maxRecDepth 100000
set_option maxHeartbeats 4000000
open Go.RowKit
open Go.Proofs.Tryz
attribute [local go_sem] Qp
attribute [local irreducible] Kl J9 Xo
section
def Bq:Option ChM->Array Value
 |none=>chA Jr.zero 0 0
 |some c=>chA c.p c.rule c.due
theorem Qv3(v1 v2:Value)(w):(Instr.index 118 (.agg #[.nilFunc,v1,v2]) (ZI 0)).run prog w=.ok .nilFunc w:=by kernel_rfl
theorem Qv4(v1 v2:Value)(w):(Instr.index 118 (.agg #[.nilFunc,v1,v2]) (ZI 1)).run prog w=.ok v1 w:=by kernel_rfl
theorem Qv5(v1 v2:Value)(w):(Instr.index 118 (.agg #[.nilFunc,v1,v2]) (ZI 2)).run prog w=.ok v2 w:=by kernel_rfl
theorem Qv0(w):(binOp .eql 117 .nilFunc .nilFunc).run prog w=.ok (.bool true) w:=by kernel_rfl
theorem Qv1(c:Array Value)(w):(binOp .eql 117 (.func (.func (52)) #[] c) .nilFunc).run prog w=.ok (.bool false) w:=by kernel_rfl
theorem Qv2(c:Array Value)(w):(binOp .eql 117 (.func (.func (54)) #[] c) .nilFunc).run prog w=.ok (.bool false) w:=by kernel_rfl
attribute [local go_sem] Qv3 Qv4 Qv5
attribute [local go_sem ↓] Qv0 Qv1 Qv2
section
variable{A:Tb}{w w1 w2:World}{F:Fp}{b a:Nat}{s:Qf}{N:Nat}{l:Qw}
theorem Qpd{now:Nat}(c:Jt now s.row=none)(d:s.pick.next now 10 0=none):s.next now=(none,s):=by unfold Qf.next Qf.who;rw[c,d];rfl
theorem Qr6{now:Nat}{x:Nat×Int}(c:Jt now s.row=some x):s.who now=some (x.2,1)/\s.next now=(some (s.aX x.2 1),s.take x.2 1):=by
 have e:s.who now=some (x.2,1):=by unfold Qf.who;rw[c]
 exact⟨e,by unfold Qf.next;rw[e]⟩
theorem Qpe{now:Nat}{i:Int}(c:Jt now s.row=none)(d:s.pick.next now 10 0=some i):s.who now=some (i,2)/\s.next now=(some (s.aX i 2),s.take i 2):=by
 have e:s.who now=some (i,2):=by unfold Qf.who;rw[c,d];rfl
 exact⟨e,by unfold Qf.next;rw[e]⟩
theorem Pg(h:Qt w F b s)(ok:Xp N s)(hN:N<549755813000)(now:Nat):
  ZW 25 #[ptr b,ZU now] w (.tuple #[.agg (Bq (s.next now).1),.bool (s.next now).1.isSome]) λw'=>Qt w' (Qn F w w') b (s.next now).2/\Qc F w w':=by
 obtain⟨A,h⟩:=h;have ah:=(Qi.obj A).bd h;obtain⟨W,hW⟩:=Zx (((w.alloc (.cells #[ZP b] 48)).alloc (.cells #[ZU now] 22)).alloc (.cells ZK 70));have C0:Hi (Qc Qb w W):=O (by rw[hW];exact(((Zg _ _).alloc _).alloc _).alloc _);have B2:Hi (Qh W w.heap.size #[ZP b] 48):=O (by rw[hW];exact((Qh.new _ _ _).alloc _).alloc _);have B3:Hi (Qh W (w.heap.size+1) #[ZU now] 22):=O (by rw[hW];exact(Qh.new' _ _ (by simp)).alloc _);have B4:Hi (Qh W (w.heap.size+1+1) ZK 70):=O (by rw[hW];exact Qh.new' _ _ (by simp));have hP:=(Qi.obj A).aB h C0.o (Jl.none F);have HN:=O (Ku hP ok.most.1);have N4:Hi (¬F (w.heap.size+1+1)):=O (λq=>by have:=ah _ q;omega);have HP:=O hP;have OK:=O ok;have ai:=O ah;have al:=O hN;have aj:=O (λw'(c:Qc Qb W w')=>Qcl ((Qi.obj A).aB HP.o c (Jl.none F)) (c.blk B2.o (λh=>h)) now (c.blk B3.o (λh=>h)));have af:=O (λw'(c:Qc Qb W w')=>Qbm ((Qi.obj A).aB HP.o c (Jl.none F)) ok (c.blk B2.o (λh=>h)) now (c.blk B3.o (λh=>h)));have x0:=Jf (hW▸B2.o);have ab:Hi (∀w5 i(r:Nat),r<256->s.who now=some (i,r)->Qc Qb W w5->ZW 56 #[ptr b,ZI i,.int .u8 r] w5 (.agg (chA (s.aX i r).p (s.aX i r).rule (s.aX i r).due)) λw6=>∃V,(storeCells ⟨w.heap.size+1+1,0,none⟩ (chA (s.aX i r).p (s.aX i r).rule (s.aX i r).due).toList 0).run prog w6=.ok () V/\Qh V (w.heap.size+1+1) (chA (s.aX i r).p (s.aX i r).rule (s.aX i r).due) 70/\Qt V (Qn F w V) b (s.take i r)/\Qc F w V):=O (λw5 i r hr hw I=>by
  obtain⟨l,hl,_⟩:=OK.o.who hw;apply Zz (Qme ⟨A,(Qi.obj A).aB HP.o I (Jl.none F)⟩ ok hN hl r hr);rintro w6⟨h6,c6⟩;refine⟨rfl,?_⟩;have z0:=C0.o.size;have z5:=I.size;have z6:=c6.size;have z4:=B4.o.lt;have ak:=c6.blk (I.blk B4.o (λh=>h)) N4.o;obtain⟨V,r7,J,c7⟩:=Q0 (P:=prog) (vs:=chA (s.aX i r).p (s.aX i r).rule (s.aX i r).due) ak rfl (Iy _ _ _);have z7:=c7.size;have cc:Qc F w V:=((C0.o.none (F:=F)).aA ((I.none (F:=F)).aA c6)).trans c7 (λk e=>.inr (by omega));refine⟨V,r7,J,Qt.obj.more (Qt.obj.aB h6 c7 (λk q e=>?_)) (λk q=>?_) (ai.o.ext cc),cc⟩
  .subst e;rcases q with q|q;·exact N4.o q
   .omega
  .rcases q with q|q;·exact .inl q
   .exact .inr (by omega))
 clear h ah ok hP hN;apply WH func25;go_wp2_with fail;rw[<-hW]at x0|-;clear hW;apply Zy HN;rintro w1 rfl;go_wp2_with fail;go_loopw [16] (λi wr=>∃k:Nat,i=ZI k/\k<=3/\(2<=k->Jt now s.row=none)/\(3<=k->s.pick.next now 10 0=none)/\Qc Qb W wr) (λi _=>3-(intOf i).toNat);case atStart=>exact⟨0,rfl,by omega,by omega,by omega,Zg _ _⟩
 case round=>
  obtain⟨k,rfl,q,h1,h2,hw⟩:=hrel;have HC:=O hw;clear hw;by_cases k0:k=0
  .subst k0;clear q h1 h2;have e0:((0:Nat):Int)=0:=rfl;go_wp2_with fail;go_roundw;case measure=>simp only[intOf];omega
   case rel=>exact⟨1,by rfl,by omega,by omega,by omega,HC.o⟩
  by_cases k1:k=1
  .subst k1;clear q h1 h2;have U:=O (aj.o wr HC.o);cases d:Jt now s.row with
   |none=>
    rw[d]at U;have R:=O d;clear d;dsimp only[Option.getD_none,Option.isSome_none]at U;go_wp2_with fail;apply ZF U (λ_ I=>HC.o.aA I);intro w5 C5;go_wp2_with fail;go_roundw;case measure=>simp only[intOf];omega
    case rel=>exact⟨2,by rfl,by omega,λ_=>by first|exact R.o|trivial,by omega,C5.o⟩
   |some x=> rw[d]at U;have R:=O d;clear d;dsimp only[Option.getD_some,Option.isSome_some]at U;go_wp2_with fail;apply ZF U (λ_ I=>HC.o.aA I);intro w5 C5;obtain⟨E,B⟩:=Qr6 R.o;have HT:=O (ab.o w5 _ 1 (by decide) E C5.o);have z:=O B;clear E B;have y0:=Jf (C5.o.blk B2.o (λh=>h));go_wp2_with fail;apply Zy HT;rintro w6⟨V,r7,J,h7,c7⟩;have Z:=O (Zt h7 c7);have TB:=O J;clear h7 c7 y0 J;obtain⟨ch,K⟩:=Zx (s.aX x.2 1);rw[<-K]at r7 TB|-;have ae:=O K;clear K;go_wp2_with fail;clear r7;obtain⟨cp,cr,cd⟩:=ch;have r0:=Lf (show Qh V _ #[ZU cp.id,ZI cp.cls,ZI cp.len,ZU cp.at_,.int .u8 cr,ZU cd] _ from TB.o);refine bodyPost_ret (v:=.tuple #[.agg (chA cp cr cd),.bool true]) (by rw[results_cell_tmp (p:=4) (u:=5) (ty:=70) (by kernel_rfl)];go_simp;rfl) rfl ?_;exact⟨by rw[z.o,<-ae.o];rfl,by rw[z.o];exact Z.o⟩
  by_cases k2:k=2
  .subst k2;have R:=O (h1 (by omega));clear q h1 h2;have U:=O (af.o wr HC.o);cases d:s.pick.next now 10 0 with
   |none=>
    rw[d]at U;have ag:=O d;clear d;dsimp only[Option.getD_none,Option.isSome_none]at U;go_wp2_with fail;apply ZF U (λ_ I=>HC.o.aA I);intro w5 C5;go_wp2_with fail;go_roundw;case measure=>simp only[intOf];omega
    case rel=>exact⟨3,by rfl,by omega,λ_=>by first|exact R.o|trivial,λ_=>by first|exact ag.o|trivial,C5.o⟩
   |some x=> rw[d]at U;have ag:=O d;clear d;dsimp only[Option.getD_some,Option.isSome_some]at U;go_wp2_with fail;apply ZF U (λ_ I=>HC.o.aA I);intro w5 C5;obtain⟨E,B⟩:=Qpe R.o ag.o;have HT:=O (ab.o w5 _ 2 (by decide) E C5.o);have z:=O B;clear E B;have y0:=Jf (C5.o.blk B2.o (λh=>h));go_wp2_with fail;apply Zy HT;rintro w6⟨V,r7,J,h7,c7⟩;have Z:=O (Zt h7 c7);have TB:=O J;clear h7 c7 y0 J;obtain⟨ch,K⟩:=Zx (s.aX x 2);rw[<-K]at r7 TB|-;have ae:=O K;clear K;go_wp2_with fail;clear r7;obtain⟨cp,cr,cd⟩:=ch;have r0:=Lf (show Qh V _ #[ZU cp.id,ZI cp.cls,ZI cp.len,ZU cp.at_,.int .u8 cr,ZU cd] _ from TB.o);refine bodyPost_ret (v:=.tuple #[.agg (chA cp cr cd),.bool true]) (by rw[results_cell_tmp (p:=4) (u:=5) (ty:=70) (by kernel_rfl)];go_simp;rfl) rfl ?_;exact⟨by rw[z.o,<-ae.o];rfl,by rw[z.o];exact Z.o⟩
  have k3:k=3:=by omega
  subst k3;have B:=Qpd (h1 (by omega)) (h2 (by omega));have z:=O B;clear h1 h2 q B k0 k1 k2;have hB:=HC.o.blk B4.o (λh=>h);have t0:=Lf hB;have fz:=hB.frozen;go_wp2_with fail;have CF:Qc (λk=>k=w.heap.size+1+1) wr ((((((wr.setCell ⟨w.heap.size+1+1,0,none⟩ (ZU 0)).setCell ⟨w.heap.size+1+1,1,none⟩ (ZI 0)).setCell ⟨w.heap.size+1+1,2,none⟩ (ZI 0)).setCell ⟨w.heap.size+1+1,3,none⟩ (ZU 0)).setCell ⟨w.heap.size+1+1,4,none⟩ (.int .u8 0)).setCell ⟨w.heap.size+1+1,5,none⟩ (ZU 0)):=((((((Zg (λk=>k=w.heap.size+1+1) wr).setCell _ (.inl rfl)).setCell _ (.inl rfl)).setCell _ (.inl rfl)).setCell _ (.inl rfl)).setCell _ (.inl rfl)).setCell _ (.inl rfl);have TB:Qh ((((((wr.setCell ⟨w.heap.size+1+1,0,none⟩ (ZU 0)).setCell ⟨w.heap.size+1+1,1,none⟩ (ZI 0)).setCell ⟨w.heap.size+1+1,2,none⟩ (ZI 0)).setCell ⟨w.heap.size+1+1,3,none⟩ (ZU 0)).setCell ⟨w.heap.size+1+1,4,none⟩ (.int .u8 0)).setCell ⟨w.heap.size+1+1,5,none⟩ (ZU 0)) (w.heap.size+1+1) ZK 70:=(((((hB.set 0 _).set 1 _).set 2 _).set 3 _).set 4 _).set 5 _;obtain⟨aa,ac⟩:=Zx (((((((wr.setCell ⟨w.heap.size+1+1,0,none⟩ (ZU 0)).setCell ⟨w.heap.size+1+1,1,none⟩ (ZI 0)).setCell ⟨w.heap.size+1+1,2,none⟩ (ZI 0)).setCell ⟨w.heap.size+1+1,3,none⟩ (ZU 0)).setCell ⟨w.heap.size+1+1,4,none⟩ (.int .u8 0)).setCell ⟨w.heap.size+1+1,5,none⟩ (ZU 0)));rw[<-ac]at CF TB|-;clear ac t0 fz hB;have cc:Qc F w aa:=((C0.o.aA HC.o).none (F:=F)).trans CF (λk e=>.inr (by omega));have Z:Hi (Qt aa (Qn F w aa) b s/\Qc F w aa):=O (⟨Qt.obj.more ⟨A,(Qi.obj A).aB ((Qi.obj A).aB HP.o HC.o (Jl.none F)) CF (λk q e=>N4.o (e▸q))⟩ (λk q=>.inl q) (ai.o.ext cc),cc⟩);clear CF cc;have r0:=Lf TB;refine bodyPost_ret (v:=.tuple #[.agg ZK,.bool false]) (by rw[results_cell_tmp (p:=4) (u:=5) (ty:=70) (by kernel_rfl)];go_simp;try rfl) rfl ?_;exact⟨by rw[z.o];rfl,by rw[z.o];exact Z.o⟩
end
end
section
variable{A:Tb}{w:World}{F:Fp}{b:Nat}{s:Qf}{N:Nat}
end
theorem Qgv{w}{F:Fp}{v:Value}{o:Option Ju}(h:Kv w F v o)(I:∀d,o=some d->d.run.l.length<549755813888):
  Cl 74 #[v] w λe w'=>∃c,e=.returned c/\Kv w' (Qn Qb w w') c o/\Qc Qb w w':=by
 cases o with
 |none=> obtain⟨rfl,_⟩:=h;have q:=O (Zg Qb w);apply WH func74;go_wp2;go_ret;exact⟨_,rfl,⟨rfl,λk E=>E.elim (λh=>h.elim) (λh=>h.2)⟩,q.o⟩
 |some d=> obtain⟨b,rfl,B⟩:=h;refine(Qj5 B (I d rfl)).mono ?_;rintro e w'⟨b',rfl,z,u⟩;exact⟨_,rfl,⟨b',rfl,z⟩,u⟩
section
variable{A:Tb}{w:World}{F:Fp}{b:Nat}{s:Qf}{N:Nat}
theorem Qi.perm(h:Qi A w F b s){s':Qf}(c:s'.most=s.most)(d:s'.tree=s.tree)(k:s'.row=s.row)(q:s'.pick=s.pick)(z:s.aI.Perm s'.aI):Qi A w F b s':=by
 obtain⟨L,u,B⟩:=h;refine⟨L,u.trans z,?_⟩;have:Lw A b L s'=Lw A b L s:=by unfold Lw Qfq;rw[c,d,k,q]
 rw[this];exact B
theorem Qi.fresh{w0 w4 w5:World}{V m rb R q:Nat}{s:Qf}{B u z:Fp}(hT:Q9 w4 B V s.tree)(hM:Xq w4 m [])(hE:Yq w4 u rb s.row)(hP:Yr w4 z R s.pick)
  (g1:∀k,B k->w0.heap.size<=k/\k<w4.heap.size)(gm:w0.heap.size<=m)(J:∀k,u k->w0.heap.size<=k/\k<w4.heap.size)(K:∀k,z k->w0.heap.size<=k/\k<w4.heap.size)
  (ab:¬B m)(ae:¬u m)(af:¬z m)(Z:Jl B u)(aa:Jl B z)(ac:Jl u z)(d:Qc Qb w4 w5)(hB:Qh w5 q #[ZI s.most,ptr V,.map (some m),ptr rb,ptr R] 97)(hq:w4.heap.size<=q)(ag:w0.heap.size<=w4.heap.size):
  Qi ⟨V,m,rb,R,λ_=>0⟩ w5 (λk=>w0.heap.size<=k/\k<w5.heap.size) q {s with aI:=[]}:=by
 have s4:=d.size;have s5:=hB.lt;have ah:=hM.lt;refine⟨[],List.Perm.refl _,?_⟩;have t5:Q9 w5 B V s.tree:=Q9.obj.aB hT d (Jl.none _);have m5:Xq w5 m []:=hM.aB d (λh=>h);have e5:Yq w5 u rb s.row:=Yq.obj.aB hE d (Jl.none _);have p5:Yr w5 z R s.pick:=Yr.obj.aB hP d (Jl.none _);have E:∀{U:Fp},(∀k,U k->w0.heap.size<=k/\k<w4.heap.size)->Bd U w5:=λh k c=>Nat.lt_of_lt_of_le (h k c).2 s4;refine Q7 (G:=λk=>k=q) (H:=λk=>B k\/k=m\/u k\/z k) ⟨hB,rfl,λk e=>e▸s5⟩ ?_ ?_ (λk e=>by omega) ?_ (λk c=>c.2)
 .refine Q7 (G:=B) (H:=λk=>k=m\/u k\/z k) t5 ?_ ?_ (λk c=>.inl c) (λk c=>.inr c) ?_
  .refine Q7 (G:=λk=>k=m) (H:=λk=>u k\/z k) (Yn.new m5 (λk e=>by rw[e];exact m5.lt) rfl) ?_ ?_ (λk c=>.inl c) (λk c=>.inr c) ?_;·refine Q7 (G:=u) (H:=z) e5 (Y6 p5 (Yr.obj.bd p5)) ac (λk c=>.inl c) (λk c=>.inr c) ?_;exact λk c=>c.elim (E J k) (E K k)
   .rintro k rfl(c|c);·exact ae c
    .exact af c
   .rintro k(rfl|c|c);·omega
    .exact E J k c
    .exact E K k c
  .rintro k c(rfl|I|I);·exact ab c
   .exact Z k c I
   .exact aa k c I
  .rintro k(c|rfl|c|c);·exact E g1 k c
   .omega
   .exact E J k c
   .exact E K k c
 .rintro k rfl(c|c|c|c);·have:=g1 k c;omega
  .omega
  .have:=J k c;omega
  .have:=K k c;omega
 .rintro k(c|rfl|c|c);·have:=g1 k c;omega
  .omega
  .have:=J k c;omega
  .have:=K k c;omega
structure Qgb(A:Tb)(w:World)(s:Qf)(l:List Qw)(q r:Nat)(wr:World)(lm dn:List Qw):Prop where
 it:Kj wr A.m r (Xy Qw.id A.ad l) (Xy Qw.id A.ad lm)
 sub:lm.Sublist l
 perm:(dn++lm).Perm l
 chg:Qc Qb w wr
 co:∃(A':Tb)(G:Fp),Qi A' wr G q {s with aI:=dn}/\(∀k,G k->w.heap.size<=k/\k≠r)
 nr:w.heap.size<=r
theorem Qgb.step{l:List Qw}{q r:Nat}{wr}{V u:List Qw}(h:Qgb A w s l q r wr V u){Z:Tb}{G:Fp}(hA:Qi Z wr G q {s with aI:=u})(I:∀k,G k->w.heap.size<=k/\k≠r)(J:(l.map Qw.id).Nodup){x:Qw}(hx:x∈V){w2 w3 w4 w5}
  (d:Kj w2 A.m r (Xy Qw.id A.ad l) (Vu x.id (Xy Qw.id A.ad V))) (z:Qc (λk=>k=r) wr w2) {qb rb:Nat} {dv:Value} (hq:Jz w3 qb rb x.pk x.bt x.q) (ae:w2.heap.size<=qb/\qb<w3.heap.size) (af:w2.heap.size<=rb/\rb<w3.heap.size)
  (c3:Qc Qb w2 w3) (hd:Kv w4 (Qn Qb w3 w4) dv x.debt) (c4:Qc Qb w3 w4) (R:w5=w4.alloc (.cells #[ptr qb,dv] 107)) (aj:A.m<w.heap.size):
  ∃w6,(Instr.mapUpdate 93 (.map (some Z.m)) (ZI x.id) (ZP w4.heap.size)).run prog w5=.ok () w6/\
   Qgb A w s l q r w6 (Kp Qw.id x.id V) (u++[x])/\Dq w6 r<Dq wr r:=by
 have s1:=h.chg.size;have s2:=z.size;have s3:=c3.size;have s4:=c4.size;have B:Qc Qb w4 w5:=by rw[R];exact(Zg _ _).alloc _
 have ab:Qh w5 w4.heap.size #[ptr qb,dv] 107:=by rw[R];exact Qh.new _ _ _
 have ah:r<w2.heap.size:=by obtain⟨o2,h2,_⟩:=d.walk;exact(Z2.1 h2).1
 have E:=(Qi.obj Z).aB hA z (λk c e=>(I k c).2 e);have aa:Qc Qb w2 w5:=(c3.aA c4).aA B;have hL:Yj w5 (Qn Qb w2 w5) w4.heap.size x:=Yj.made (w:=w2) (w1:=w2) (Zg _ _) hq ae af c4 hd B ab (Zv _);have hn:Qf.leaf {s with aI:=u} x.id=none:=by
  show Hn Qw.id x.id u=none;cases ac:Hn Qw.id x.id u with
  |none=>rfl
  |some y=> obtain⟨hy,ag⟩:=Y3 ac;have hn:=((h.perm.map Qw.id).nodup_iff).2 J;rw[List.map_append,List.nodup_append]at hn;exact absurd ag (hn.2.2 _ (Z3.2 ⟨y,hy,rfl⟩) _ (Z3.2 ⟨x,hx,rfl⟩))
 obtain⟨w6,r6,h6,c6⟩:=E.newLeaf hn aa hL;have s6:=c6.size;have ai:∀k,G k->k<w2.heap.size:=(Qi.obj Z).bd E;have U:Kj w6 A.m r (Xy Qw.id A.ad l) (Vu x.id (Xy Qw.id A.ad V)):=d.aB c6 (λc=>by have:=(I _ c).1;omega) (λc=>(I r c).2 rfl);have K:=O8 (key:=Qw.id) (J.sublist (h.sub.map Qw.id)) hx;refine⟨w6,r6,⟨?_,List.filter_sublist.trans h.sub,?_,?_,⟨_,_,h6,λk c=>?_⟩,h.nr⟩,?_⟩;·rw[<-Hr];exact U
 .refine List.Perm.trans ?_ h.perm;rw[List.append_assoc];exact List.Perm.append_left u K.symm
 .exact(h.chg.trans z (λk e=>.inr (by rw[e];exact h.nr))).trans c6 (λk c=>.inr (I k c).1)
 .rcases c with c|c;·exact I k c
  .exact⟨by omega,by omega⟩
 .rw[U.left_eq,h.it.left_eq,Hr];have:=K.length_eq;simp only[Xy,List.length_map,Zm]at*;omega
theorem Q0u{T:Type}{Is:World->Fp->Nat->T->Prop}(u:Hf Is){P:Program}{f:Nat}{a:Array Value}{w w1}{x:T}(h:Calls P f a w1 λe w2=>∃b',e=.returned (ptr b')/\Is w2 (Qn Qb w1 w2) b' x/\Qc Qb w1 w2)(c:Qc Qb w w1):
  Calls P f a w1 λe w2=>∃b',e=.returned (ptr b')/\Hi ((∀w3,Qc Qb w2 w3->Is w3 (λk=>w1.heap.size<=k/\k<w2.heap.size) b' x)/\Qc Qb w w2/\Qc Qb w1 w2):=
 h.mono λe w2⟨b',B,E,q⟩=>⟨b',B,O ⟨λw3 z=>u.aB (u.more E (λk d=>(Qr k).1 d) (λk d=>d.2)) z (Jl.none _),c.aA q,q⟩⟩
theorem Qmc(h:Qi A w F b s)(ok:Xp N s)(hN:N<549755813000):
  Cl 40 #[ptr b] w λe w'=>∃b',e=.returned (ptr b')/\Qt w' (Qn Qb w w') b' s/\Qc Qb w w':=by
 have HH:=O h;have ap:=(Qi.obj A).bd h;have HN:=O (Ku h ok.most.1);obtain⟨L,hp,Gc,hC,aq,_⟩:=h.collOf;have aw:A.m<w.heap.size:=ap _ (aq _ hC.at_);have a5:=O aw;have ae:=O hC.nodup;have HP:=O hp;have HC:=O (λw'(c:Qc Qb w w')=>hC.map.aB c (λh=>h));obtain⟨Gt,ht,_⟩:=h.treeOf;obtain⟨Gr,hr,_⟩:=h.rowOf;obtain⟨Gp,⟨AP,ax⟩,_⟩:=h.pickOf;have HT:=O (λw'(c:Qc Qb w w')=>Q0u Q9.obj (Ww (Q9.obj.aB ht c (Jl.none _)) (by have:=ok.tree.many;omega)) c);have HE:=O (λw'(c:Qc Qb w w')=>Q0u Yq.obj (Qj8 (Yq.obj.aB hr c (Jl.none _))) c);have a7:=O (λw'(c:Qc Qb w w')=>Q0u Yr.obj (Qli ((Qo.obj AP).aB ax c (Jl.none _)) ok.pick (by omega)) c);have MM:Hi (∀w1,Qc Qb w w1->∃w2,w2=w1.alloc (.map #[] 0)/\Hi ((∀w3,Qc Qb w2 w3->Xq w3 w1.heap.size [])/\Qc Qb w w2/\Qc Qb w1 w2/\w2.heap.size=w1.heap.size+1)):=O (λw1 c=>⟨_,rfl,O ⟨λw3 c3=>(Xq.new w1).aB c3 (λh=>h),c.alloc _,(Zg _ _).alloc _,by simp⟩⟩);have HB:=O (λw'(c:Qc Qb w w')=>c.blk h.blk (λh=>h));have a6:=O ok.ok;have bi:=@run_makeMap prog;have C0:=O (Zg Qb w).drew;have a0:=Ym h.drew.blk;have ac:Hi (∀w4 tb m rb pb l1 h1 l2 U l3 h3,Qc Qb w w4->Q9 w4 (λk=>l1<=k/\k<h1) tb s.tree->Xq w4 m []->Yq w4 (λk=>l2<=k/\k<U) rb s.row->Yr w4 (λk=>l3<=k/\k<h3) pb s.pick->w.heap.size<=l1/\h1<=w4.heap.size/\w.heap.size<=m/\w.heap.size<=l2/\U<=w4.heap.size/\w.heap.size<=l3/\h3<=w4.heap.size/\(m<l1\/h1<=m)/\(m<l2\/U<=m)/\(m<l3\/h3<=m)/\(h1<=l2\/U<=l1)/\(h1<=l3\/h3<=l1)/\(U<=l3\/h3<=l2)->
   ∃A',Qi A' (w4.alloc (.cells #[ZI s.most,ptr tb,.map (some m),ptr rb,ptr pb] 97)) (λk=>w.heap.size<=k/\k<(w4.alloc (.cells #[ZI s.most,ptr tb,.map (some m),ptr rb,ptr pb] 97)).heap.size) w4.heap.size {s with aI:=[]}/\Qc Qb w (w4.alloc (.cells #[ZI s.most,ptr tb,.map (some m),ptr rb,ptr pb] 97))):=O (by
  intro w4 tb m rb pb l1 h1 l2 U l3 h3 am hT hM hE hP hb;have an:Qc Qb w4 (w4.alloc (.cells #[ZI s.most,ptr tb,.map (some m),ptr rb,ptr pb] 97)):=(Zg _ _).alloc _;exact⟨_,Qi.fresh hT hM hE hP (λk I=>by omega) (by omega) (λk I=>by omega) (λk I=>by omega) (λI=>by omega) (λI=>by omega) (λI=>by omega) (λk x y=>by omega) (λk x y=>by omega) (λk x y=>by omega) an (Qh.new _ _ _) (Zv _) am.size,am.aA an⟩)
 clear h ok hp hC aq ht hr ax ap aw;apply WH func40;go_wp2_with fail;apply Zy HN;rintro w1 rfl;go_wp2_with fail;go_cut [3] (λs3 wz=>∃q A',s3=ZP q/\w.heap.size<=q/\Qi A' wz (λk=>w.heap.size<=k/\k<wz.heap.size) q {s with aI:=[]}/\Qc Qb w wz)
 case first=>
  refine Ui (.lookp 0 (.lookp 1 (.lookp 2 (.lookp 3 (.lookp 4 (.lookp 5 (.lookp 6 (.lookp 7 (.lookp 10 (.lookp 11 (.lookp 12 (.lookp 13 (.lookp 15 (.lookp 16 (.lookp 17 (.lookp 18 (.fork 8 (.fork 9 (.walk 14 (.walk 19 (.look 20 (.walk 21 (.walk 22 .nil))))) 14 (.fork 9 (.walk 19 (.look 20 (.walk 21 (.walk 22 .nil)))) 19 (.walk 9 (.look 20 (.walk 21 (.walk 22 .nil)))))) 9 (.walk 8 (.walk 14 (.walk 19 (.look 20 (.walk 21 (.walk 22 .nil))))))))))))))))))))))) (λu=>Qc (Qb) (w) u) Zq (by kernel_rfl) (λ_ _ _ _ _ h=>h) Z0 ?_;simp only[O0,Zf,Ze,Zd];iterate 3 (first|refine Vd (h:=?_)|refine Xi (h:=?_);try simp only[Act.put,Za,Zc,Zb])
  iterate 1 (apply YL λu B=>Ym (HB.o u B))
  iterate 3 (first|refine Vd (h:=?_)|refine Xi (h:=?_);try simp only[Act.put,Za,Zc,Zb])
  iterate 1 (apply YL λu B=>Ym (HB.o u B))
  iterate 3 (first|refine Vd (h:=?_)|refine Xi (h:=?_);try simp only[Act.put,Za,Zc,Zb])
  iterate 1 (apply YL λu B=>Ym (HB.o u B))
  iterate 3 (first|refine Vd (h:=?_)|refine Xi (h:=?_);try simp only[Act.put,Za,Zc,Zb])
  iterate 1 (apply YL λu B=>Ym (HB.o u B))
  clear a0;have D:=C0;iterate 4
   all_goals(first|refine Gn ?_ ?_|refine Xt ?_)
   all_goals go_wp2_with fail
   all_goals
    first
     |(refine(HT.o _ D.o).mono ?_;rintro e wn⟨tb,rfl,T⟩;have D:=O T.o.2.1;go_wp2_with fail)
     |(refine(HE.o _ D.o).mono ?_;rintro e wn⟨rb,rfl,E⟩;have D:=O E.o.2.1;go_wp2_with fail)
     |(refine(a7.o _ D.o).mono ?_;rintro e wn⟨pb,rfl,P⟩;have D:=O P.o.2.1;go_wp2_with fail)
     |(obtain⟨wn,hn,M⟩:=MM.o _ D.o;(try rw[show(w.alloc (.map #[] 0)).drew=w.drew.alloc (.map #[] 0)from rfl]);rw[<-hn];clear hn;have D:=O M.o.2.1)
   all_goals refine⟨D.o,?_⟩
  all_goals
   have FF:=O (ac.o _ _ _ _ _ _ _ _ _ _ _ D.o (T.o.1 _ (by repeat(first|exact Zg _ _|refine Qc.aA ?_ P.o.2.2|refine Qc.aA ?_ M.o.2.2.1|refine Qc.aA ?_ E.o.2.2|refine Qc.aA ?_ T.o.2.2))) (M.o.1 _ (by repeat(first|exact Zg _ _|refine Qc.aA ?_ P.o.2.2|refine Qc.aA ?_ M.o.2.2.1|refine Qc.aA ?_ E.o.2.2|refine Qc.aA ?_ T.o.2.2))) (E.o.1 _ (by repeat(first|exact Zg _ _|refine Qc.aA ?_ P.o.2.2|refine Qc.aA ?_ M.o.2.2.1|refine Qc.aA ?_ E.o.2.2|refine Qc.aA ?_ T.o.2.2))) (P.o.1 _ (by repeat(first|exact Zg _ _|refine Qc.aA ?_ P.o.2.2|refine Qc.aA ?_ M.o.2.2.1|refine Qc.aA ?_ E.o.2.2|refine Qc.aA ?_ T.o.2.2))) (by have s0:=T.o.2.2.size;have s1:=E.o.2.2.size;have s2:=P.o.2.2.size;have s3:=M.o.2.2.1.size;have z:=M.o.2.2.2;simp only[World.drew]at*;omega));iterate 1 (first|refine Vd (h:=?_)|refine Xi (h:=?_);try simp only[Act.put,Za,Zc,Zb])
   refine Xt ?_;go_wp2_with fail;refine⟨D.o.alloc _,?_⟩;refine Xt ?_;go_wp2_with fail;refine⟨D.o.alloc _,?_⟩;refine U9 ?_;go_wp2_with fail;go_meet;obtain⟨A',f1,f2⟩:=FF.o;exact⟨_,A',rfl,by have:=D.o.size;omega,f1,f2⟩
 case rest=>
  obtain⟨q,A1,rfl,hq,hS,c0⟩:=hcut;obtain⟨V,hV⟩:=Zx wc;rw[<-hV]at hS c0|-;clear hV a0;obtain⟨o,bf,av⟩:=Er (P:=prog) (HC.o V c0) underlying93;have af:Hi (∃lm dn,Qgb A w s L q V.heap.size (V.alloc o) lm dn):=O (by
   have cc:Qc Qb V (V.alloc o):=(Zg _ _).alloc _;exact⟨L,[],av,List.Sublist.refl _,by simp,c0.aA cc,⟨A1,_,(Qi.obj A1).aB hS cc (Jl.none _),λk I=>⟨I.1,by omega⟩⟩,c0.size⟩)
  have z0:=Ym (HB.o V c0);clear hS av;go_wp2_with fail;clear bf z0;go_loopw [4,5] (λ_ _ wr=>∃lm dn,Qgb A w s L q V.heap.size wr lm dn) (λ_ _ wr=>Dq wr V.heap.size);case atStart=>exact af.o
  case round=>
   obtain⟨lm,dn,K⟩:=hrel;rcases Rx (P:=prog) K.it 0 with⟨h0,hr⟩|⟨y,hy,w2,hr,ab,Z,au⟩
   .have bb:lm=[]:=by
     cases lm with
     |nil=>rfl
     |cons a l=>cases h0
    subst bb;have ac:Hi (Qt wr (Qn Qb w wr) q s/\Qc Qb w wr):=O (by
     obtain⟨A2,G2,J,R⟩:=K.co;have bc:dn.Perm L:=by simpa using K.perm
     refine⟨⟨A2,(Qi.obj A2).more (J.perm (s':=s) rfl rfl rfl rfl (bc.trans HP.o)) (λk I=>(Qr k).2 ⟨(R k I).1,(Qi.obj A2).bd J k I⟩) (λk I=>((Qr k).1 I).2)⟩,K.chg⟩)
    clear K;go_wp2_with fail;go_ret;exact⟨_,rfl,ac.o⟩
   .obtain⟨x,hx,rfl⟩:=Z3.1 hy;have ay:=K.sub.subset hx;have c2:Qc Qb w w2:=K.chg.trans Z (λk e=>.inr (by rw[e];exact K.nr));have U:=(Qi.obj A).aB HH.o c2 (Jl.none F);have ba:s.leaf x.id=some x:=by rw[So HP.o ae.o];exact Ls (key:=Qw.id) ae.o ay rfl
    obtain⟨qb,dv,ar,⟨rq,hQ⟩,Gd,hD⟩:=U.leafQ ba;have pv:=hD.ptr;obtain⟨A2,G2,J,R⟩:=K.co;have aa:=(Qi.obj A2).aB J Z (λk I e=>(R k I).2 e);have ai:=O (λw'(c:Qc Qb w2 w')=>c.blk ar (λh=>h));have a8:=O (λw'(c:Qc Qb w2 w')=>c.blk aa.blk (λh=>h));have a9:=O (λw'(c:Qc Qb w2 w')=>Qpo (hQ.aB c (λh=>h) (λh=>h)));have az:=O (λw'(c:Qc Qb w2 w')=>Qgv ((Kv.good _ _).aB hD c (Jl.none _)) (λd hd=>by
     have:=((a6.o x (HP.o.mem_iff.1 ay)).debt d hd).2.1;omega))
    have al:=O (λw3 w4 w5 bh rb ao hq bd be c3 hd c4 bg=>K.step J R ae.o hx ab Z (w3:=w3) (w4:=w4) (w5:=w5) (qb:=bh) (rb:=rb) (dv:=ao) hq bd be c3 hd c4 bg a5.o);have D2:=O (Zg Qb w2).drew;have l0:=Q4 (ai.o _ D2.o);dsimp only at hr au;clear K ab Z c2 U ar hQ hD J aa R hy;go_wp2_with fail;clear hr au;apply YC [100,101,102,103,104,5,6,7,8,110,111,112,113,209,214,15,216,317] Qb w2;iterate 3 (refine Qy (h:=?_);try simp only[Act.put,Za,Zc,Zb])
    iterate 1 (apply YK λu B=>Ym (a8.o u B))
    (refine Qy (h:=?_);try simp only[Act.put,Za,Zc,Zb]);iterate 4 (refine Xe (h:=?_))
    iterate 3 (refine Qy (h:=?_);try simp only[Act.put,Za,Zc,Zb])
    iterate 1 (apply YK λu B=>Q4 (ai.o u B))
    clear l0;refine Yb ?_;go_wp2_with fail;apply Zz (a9.o _ D2.o);rintro w3⟨ah,c3⟩;have C3:=O (D2.o.aA c3);have Q3:Hi (Jz w3 w2.heap.size (w2.heap.size+1) x.pk x.bt x.q):=O (ah);have LQ:=O ah.lt;clear ah c3;go_wp2_with fail;refine⟨C3.o,?_⟩;refine Yb ?_;go_wp2_with fail;refine(az.o _ C3.o).mono ?_;rintro e w4⟨ao,rfl,ag,c4⟩;obtain⟨bj,rfl⟩:=ag.ptr;obtain⟨w6,r6,ak,aj⟩:=al.o w3 w4 _ _ _ _ Q3.o (by have h:=LQ.o;have e:w2.drew.heap.size=w2.heap.size:=rfl;rw[e]at h;omega) (by have h:=LQ.o;have e:w2.drew.heap.size=w2.heap.size:=rfl;rw[e]at h;omega) C3.o ag c4 rfl;have C4:=O (C3.o.aA c4);have PP:=O (Zt ak aj);clear ag c4 ak aj;go_wp2_with fail;refine⟨C4.o,?_⟩;apply YA 0;go_wp2_with fail;refine⟨C4.o.alloc _,?_⟩;apply YI 0;go_wp2;exact⟨⟨_,_,PP.o.1⟩,PP.o.2⟩
end
section
variable{N M:Nat}{s s':Qf}
theorem A9:∀l:List Vm,∃n:Nat,∀c∈l,c.sp.id<(n:Int)
 |[]=>⟨0,nofun⟩
 |c::l=>by
  obtain⟨n,h⟩:=A9 l;refine⟨n+c.sp.id.toNat+1,λx d=>?_⟩;rcases Zu.1 d with rfl|d;·omega
  .have:=h x d;omega
theorem Qe6(h:Xp N s)(h':Xp M s')(z:∀i,s'.qOf i=s.qOf i):s'.many 0=s.many 0:=by obtain⟨n,u⟩:=A9 s.tree;obtain⟨m,q⟩:=A9 s'.tree;rw[(Qv8 h (n:=n+m) λc d=>by have:=u c d;omega).1,(Qv8 h' (n:=n+m) λc d=>by have:=q c d;omega).1];exact Pl λk _=>by rw[z]
theorem Qwl(h:Xp N s)(h':Xp M s'){i:Int}{v:Int}(J:0<=i)(q:∃c∈s.tree,c.sp.id=i)(I:s'.tree=s.tree)(E:∀j,((s'.qOf j).length:Int)=(s.qOf j).length+if j=i then v else 0):s'.many 0=s.many 0+v:=by
 obtain⟨n,d⟩:=A9 s.tree;obtain⟨c,u,z⟩:=q;have B:=d c u;rw[(Qv8 h d).1,(Qv8 h' (by rw[I];exact d)).1,<-Qwd (v:=v) (m:=i.toNat) (n:=n) (by omega),<-Qwc];refine Pl λk _=>?_;rw[E];by_cases e:(k:Int)=i;·rw[if_pos e,if_pos (by omega)]
 .rw[if_neg e,if_neg (by omega)]
theorem Qw6(h:Xp N s){p:Jr}(now:Nat)(d:s.aQ p=0):(s.push p now).many 0=s.many 0+1:=by
 obtain⟨c,l,k,_⟩:=Mk d;obtain⟨z,_,_,_,q,u⟩:=h.tree.pos k;refine Qwl h (h.push now d) (i:=p.cls) (by omega) ⟨c,u,q⟩ (Qpn p now) λj=>?_;rw[Qsg h now d];by_cases e:j=p.cls;·rw[if_pos e,if_pos e,e];simp
 .rw[if_neg e,if_neg e];simp
theorem Qw7{now:Nat}(c:s.who now=none):s.next now=(none,s):=by unfold Qf.next;rw[c]
theorem Qxr(h:Xp N s)(t:Nat):(s.next t=(none,s)/\s.who t=none)\/
  ∃c s',s.next t=(some c,s')/\Xp (N+16) s'/\s'.many 0+1=s.many 0/\Ll c.p/\(c.rule=1\/c.rule=2)/\s.qOf c.p.cls=c.p::s'.qOf c.p.cls/\(∀i,i≠c.p.cls->s'.qOf i=s.qOf i)/\s'.tree=s.tree:=by
 cases U:s.who t with
 |none=>exact .inl ⟨Qw7 U,rfl⟩
 |some x=>
  obtain⟨id,d⟩:=x;obtain⟨l,E,Z,hr⟩:=h.toVl.who U;have I:=h.take d E Z;have B:=Qsh h d E;obtain⟨k,ki,_⟩:=h.at E;obtain⟨c,hc,aa⟩:=h.leaf_at E;obtain⟨p1,_,_,_,p5,p6⟩:=h.tree.pos hc;have R:s.qOf id=l.q:=Ov E;obtain⟨p,q,u⟩:∃p q,l.q=p::q:=by
   cases hx:l.q with
   |nil=>exact absurd hx Z
   |cons a b=>exact⟨a,b,rfl⟩
  have V:=k.good p (by rw[u];exact List.mem_cons_self ..);have J:p.cls=id:=V.2.trans ki;have z:s.aX id d=⟨p,d,(s.aX id d).due⟩:=by unfold Qf.aX;rw[E];simp[u]
  refine .inr ⟨s.aX id d,s.take id d,by unfold Qf.next;rw[U],I,?_,by rw[z];exact V.1,by rw[z];exact hr,?_,?_,Qqk id d⟩
  .have:=Qwl h I (i:=id) (v:= -1) (by omega) ⟨c,p6,p5⟩ (Qqk id d) λj=>by
    rw[B];by_cases e:j=id;·rw[if_pos e,if_pos e,e,R,u];show(q.length:Int)=((p::q).length:Int)+ -1;rw[Zm];omega
    .rw[if_neg e,if_neg e];simp
   omega
  .rw[z];dsimp only;rw[J,B,if_pos rfl,R,u];rfl
  .rw[z];dsimp only;intro i hi;rw[B,if_neg (by rw[<-J];exact hi)]
end
theorem Qwh(n r:Nat)(k:1<=r):n<=(n+r-1)/r*r/\(n+r-1)/r*r<=n+r-1:=by have c:=Nat.lt_mul_div_succ (n+r-1) (show 0<r by omega);have d:=Nat.div_mul_le_self (n+r-1) r;rw[Nat.mul_succ,Nat.mul_comm]at c;exact⟨by omega,d⟩
theorem Qxu(l:V2){now:Nat}{c:Int}(u:1<=l.rate/\l.rate<=1048576)(E:l.aU<=now)(J:now<=1099511627776)(V:1<=c/\c<=65535):
  l.sendE now c=0/\(l.send now c).rate=l.rate/\(l.send now c).taken<=1152921504623624192/\now<=l.til now c/\(l.send now c).aU=l.til now c/\c.toNat*256+now*l.rate<(l.til now c+1)*l.rate:=by
 have e:l.sendE now c=0:=by unfold V2.sendE V2.free;rw[if_neg (by omega),if_neg (by omega),if_pos (by simpa using E)]
 have B:l.til now c=(l.send now c).aU:=by unfold V2.til;rw[if_pos e]
 have z:l.send now c=⟨l.rate,l.from_ now+c.toNat*256,false⟩:=by unfold V2.send;rw[if_pos e]
 have U:now*l.rate<=1152921504606846976:=Zp (Nat.mul_le_mul J u.2) (by decide);have I:l.from_ now<=now*l.rate/\now*l.rate<l.from_ now+l.rate:=by
  unfold V2.from_;split;·rename_i h;simp only[Zw,decide_eq_true_eq]at h;have d:=Qwh l.taken l.rate u.1;have:(l.taken+l.rate-1)/l.rate=now:=h.2.symm;rw[this]at d;omega
  .omega
 have d:=Qwh (l.from_ now+c.toNat*256) l.rate u.1;have R:(l.send now c).aU=(l.from_ now+c.toNat*256+l.rate-1)/l.rate:=by rw[z];rfl
 rw[B,R];generalize(l.from_ now+c.toNat*256+l.rate-1)/l.rate=q at d;have k:now<=q:=by
  have:now*l.rate<(q+1)*l.rate:=by rw[Nat.succ_mul];omega
  have:=Nat.lt_of_mul_lt_mul_right this;omega
 refine⟨e,by rw[z],by rw[z];show l.from_ now+c.toNat*256<=_;omega,k,rfl,?_⟩;rw[Nat.succ_mul];omega
theorem Qw4(l:V2)(t:Nat):(l.idle t).aU=l.aU/\(l.idle t).rate=l.rate/\(l.idle t).taken=l.taken:=by unfold V2.idle;split<;>exact⟨rfl,rfl,rfl⟩
theorem Qx3{b:Bool}{n x:Nat}(h:n<=Xw):Qx9 b n x<=Xw:=by unfold Qx9;split<;>omega
def St8(s:X7):Prop:=s.length=8/\∀n∈s,n<=Xw
theorem Qwz:St8 Qwi:=⟨rfl,λn c=>(by rw[show n=0 from(by simpa[Qwi]using c)];exact Nat.zero_le _)⟩
theorem St8.step{s:X7}(h:St8 s)(x:P5):St8 (Qwa s x):=by
 unfold Qwa;refine⟨by rw[List.length_set];exact h.1,λn d=>?_⟩;rcases List.mem_or_eq_of_mem_set d with c|rfl;·exact h.2 n c
 .refine Qx3 ?_;rw[List.getD_eq_getElem?_getD];cases k:s[x.k]? with
  |none=>exact Nat.zero_le _
  |some y=>exact h.2 y (List.mem_of_getElem? k)
theorem St8.fold{s:X7}(h:St8 s):∀l:List P5,St8 (l.foldl Qwa s):=λl=>by
 induction l generalizing s with
 |nil=>exact h
 |cons x l c=>exact c (h.step x)
theorem V1.aE{b:V1}{id:Int}{s:X7}(h:b.at id=some s):(id,s)∈b:=by unfold V1.at at h;obtain⟨x,c,rfl⟩:=Option.map_eq_some_iff.1 h;have:=List.find?_some c;simp only[decide_eq_true_eq]at this;rw[<-this];exact List.mem_of_find?_eq_some c
theorem BOk.get{b:V1}(h:BOk b)(id:Int):St8 (b.get id):=by
 unfold V1.get;cases c:b.at id with
 |none=>exact Qwz
 |some s=>exact h.eight _ (V1.aE c)
theorem Qwy(id:Int)(s:X7):∀b:V1,∀k,k∈(V1.set id s b).map (·.1)->k=id\/k∈b.map (·.1)
 |[],k,h=>by simpa[V1.set]using h
 |x::b,k,h=>by
  rw[V1.set]at h;split at h
  .rename_i e;rw[List.map_cons,Zu]at h|-;rcases h with h|h;·exact .inl h
   .exact .inr (.inr h)
  .rw[List.map_cons,Zu]at h|-;rcases h with h|h;·exact .inr (.inl h)
   .exact(Qwy id s b k h).imp (λe=>e) .inr
theorem Qwm(id:Int)(s:X7):∀b:V1,(b.map (·.1)).Nodup->((V1.set id s b).map (·.1)).Nodup
 |[],_=>by simp[V1.set]
 |x::b,h=>by
  rw[V1.set];obtain⟨d,k⟩:=List.nodup_cons.1 h;split;·rename_i e;subst e;exact h
  .rename_i e;refine List.nodup_cons.2 ⟨λc=>?_,Qwm id s b k⟩;rcases Qwy id s b _ c with c|c;·exact e c.symm
   .exact d c
theorem Qxf{id:Int}{s:X7}{x:Int×X7}:∀{b:V1},x∈V1.set id s b->x=(id,s)\/x∈b
 |[],h=>by simpa[V1.set]using h
 |y::b,h=>by
  rw[V1.set]at h;split at h
  .rcases Zu.1 h with h|h;·exact .inl h
   .exact .inr (Zr _ h)
  .rcases Zu.1 h with h|h;·exact .inr (by rw[h];exact List.mem_cons_self ..)
   .exact(Qxf h).imp (λe=>e) (Zr _)
theorem BOk.upd{b:V1}(h:BOk b)(id:Int)(l:List P5):BOk (b.upd id l):=
 ⟨Qwm _ _ _ h.nd,λx c=>by
  rcases Qxf c with rfl|c;·exact(h.get id).fold l
  .exact h.eight x c⟩
theorem BOk.tell{b:V1}(h:BOk b)(c:Int)(l:List P5):BOk (b.tell c l):=by unfold V1.tell;grind [Vl.upd,BOk.upd]
theorem BOk.drop{b:V1}(h:BOk b)(c:Int):BOk (b.drop c):=by
 unfold V1.drop;split;·exact h
 .have:=h.tell 0 (Qx5 (b.get c));exact⟨List.Pairwise.sublist (List.filter_sublist.map _) this.nd,λx d=>this.eight x (List.mem_filter.1 d).1⟩
theorem BOk.new:BOk V1.new:=⟨by decide,λx c=>by
 have:x=(0,Qwi):=by simpa[V1.new]using c
 rw[this];exact Qwz⟩
structure V4(K:Nat)(e:Vi):Prop where
 sok:∃N,Xp N e.sched/\N+17*(e.sched.many 0).toNat+(if e.aM.isSome then 1 else 0)+e.sent.length<=K
 rate:1<=e.rate/\e.rate<=1048576
 lrate:e.link.rate=e.rate
 hor:1<=e.hor/\e.hor<=1099511627776
 now:e.now<=e.hor
 taken:e.link.taken<=1152921504623624192
 free:e.aM=none->e.link.aU<=e.now
 und:∀x,e.aM=some x->x.til=e.link.aU/\e.now<=x.til
 book:BOk e.book
section
variable{K:Nat}{e:Vi}
theorem V4.more(h:V4 K e){M:Nat}(R:K<=M):V4 M e:=by obtain⟨⟨N,d,J⟩,k,q,u,z,B,E,I,c⟩:=h;exact⟨⟨N,d,by omega⟩,k,q,u,z,B,E,I,c⟩
theorem V4.new{c:Nat}{k:Int}{d:Nat}(h:Qxy c k d=0):V4 0 (Vi.new c k d):=by
 unfold Qxy at h;split at h;·exact absurd h (by decide)
 split at h;·exact absurd h (by decide)
 rename_i q u;refine⟨⟨0,Xp.new (by omega) (by omega),?_⟩,⟨show 1<=c by omega,show c<=1048576 by omega⟩,rfl,⟨show 1<=d by omega,show d<=1099511627776 by omega⟩,Nat.zero_le _,Nat.zero_le _,λ_=>?_,nofun,BOk.new⟩;·exact Zv 0
 .show(0+c-1)/c<=0;rw[Nat.div_eq_of_lt (by omega)];exact Zv 0
theorem V4.through(h:V4 K e){x:D7}(q:e.aM=some x)(d:x.til<=e.hor):V4 K (e.through x):=by
 obtain⟨⟨N,u,k⟩,z,B,E,R,I,U,J,c⟩:=h;refine⟨⟨N,u,?_⟩,z,B,E,d,I,λ_=>?_,nofun,c.tell _ _⟩;·rw[q]at k;show N+17*(e.sched.many 0).toNat+0+(e.sent++[x]).length<=K;simp at k|-;omega
 .show e.link.aU<=x.til;rw[(J x q).1];exact Zv _
theorem V4.til(h:V4 K e){t:Nat}(d:e.now<=t)(k:t<=e.hor)(u:∀x,e.aM=some x->t<=x.til):V4 K {e with now:=t}:=
 ⟨h.sok,h.rate,h.lrate,h.hor,k,h.taken,λq=>Zp (h.free q) d,λx c=>⟨(h.und x c).1,u x c⟩,h.book⟩
theorem V4.idle(h:V4 K e)(c:e.aM=none){t:Nat}(z:e.now<=t)(B:t<=e.hor):V4 K (e.idle t):=by
 obtain⟨l,d,E,q,u⟩:∃l,l=(if e.now<e.sched.tick then e.link.idle e.now else e.link)/\l.aU=e.link.aU/\l.rate=e.link.rate/\l.taken=e.link.taken:=by
  refine⟨_,rfl,?_⟩;split;·exact Qw4 _ _
  .exact⟨rfl,rfl,rfl⟩
 unfold Vi.idle;rw[<-d];refine⟨h.sok,h.rate,q.trans h.lrate,h.hor,?_,by show l.taken<=_;rw[u];exact h.taken,λ_=>?_,λx k=>(by rw[show e.aM=some x from k]at c;cases c),h.book⟩;·show min (max e.now e.sched.tick) t<=e.hor;omega
 .show l.aU<=min (max e.now e.sched.tick) t;have:=h.free c;omega
theorem V4.choose(h:V4 K e)(u:e.aM=none):
  (e.choose=(none,e)/\e.sched.who e.now=none)\/
  ∃c s,e.sched.next e.now=(some c,s)/\e.choose=(some ⟨1,e.chosen c⟩,{e with sched:=s,link:=e.link.send e.now c.p.len,aM:=some (e.chosen c),book:=e.book.tell c.p.cls (Qwn c.p c.rule)})/\V4 K e.choose.2/\e.choose.2.left+1=e.left/\
   e.link.sendE e.now c.p.len=0/\Ll c.p/\(c.rule=1\/c.rule=2)/\e.sched.qOf c.p.cls=c.p::s.qOf c.p.cls/\(∀i,i≠c.p.cls->s.qOf i=e.sched.qOf i)/\s.tree=e.sched.tree/\e.now<=(e.chosen c).til/\c.p.len.toNat*256+e.now*e.rate<((e.chosen c).til+1)*e.rate:=by
 obtain⟨N,J,z⟩:=h.sok;rcases Qxr J e.now with⟨k,hw⟩|⟨c,s,k,q,hm,B,Z,V,U,ht⟩;·exact .inl ⟨by unfold Vi.choose;rw[k],hw⟩
 .have d:e.choose=(some ⟨1,e.chosen c⟩,{e with sched:=s,link:=e.link.send e.now c.p.len,aM:=some (e.chosen c),book:=e.book.tell c.p.cls (Qwn c.p c.rule)}):=by unfold Vi.choose;rw[k]
  obtain⟨s1,s2,s3,E,s5,I⟩:=Qxu e.link (by rw[h.lrate];exact h.rate) (h.free u) (Zp h.now h.hor.2) B;have R:=Qhw (s:=s) 0;rw[h.lrate]at I;refine .inr ⟨c,s,k,d,?_,?_,s1,B,Z,V,U,ht,E,I⟩
  .rw[d];refine⟨⟨N+16,q,?_⟩,h.rate,s2.trans h.lrate,h.hor,h.now,s3,nofun,λx hx=>?_,h.book.tell _ _⟩;·show N+16+17*(s.many 0).toNat+1+e.sent.length<=K;rw[u]at z;simp at z;omega
   .obtain rfl:e.chosen c=x:=Zs hx;exact⟨s5.symm,E⟩
  .rw[d];unfold Vi.left;rw[u];show 2*(s.many 0).toNat+1+1=2*(e.sched.many 0).toNat+0;omega
theorem Qwo(h:V4 K e)(c:Nat):e.now<=e.clip c/\e.clip c<=e.hor:=by have:=h.now;unfold Vi.clip;omega
theorem V4.tick(h:V4 K e){t:Nat}(d:t<=1099511627776):(∃x,e.sched.who t=some x)↔e.sched.tick<=t:=by obtain⟨N,c,_⟩:=h.sok;exact Qs6 c c.sr.row (Nat.lt_of_le_of_lt d (by decide))
theorem V4.step(h:V4 K e)(til:Nat):
  V4 K (e.step til).2/\(∀x,(e.step til).1=some x->(e.step til).2.left+1=e.left)/\
  ((e.step til).1=none->e.stopped=false->(e.step til).2.now=e.clip til/\(e.step til).2.aM=e.aM/\(e.step til).2.sched=e.sched/\(e.step til).2.sent=e.sent/\(e.step til).2.book=e.book/\
   (∀x,e.aM=some x->e.clip til<x.til/\(e.step til).2.link=e.link)/\(e.aM=none->e.clip til<e.sched.tick)):=by
 obtain⟨I,B⟩:=Qwo h til;unfold Vi.step;split;·rename_i hs;exact⟨h,λx d=>(by cases d),λ_ u=>(by rw[hs]at u;cases u)⟩
 .rename_i hs;split
  .rename_i x d;split;·rename_i z;refine⟨h.through d (Zp z B),λ_ _=>?_,λq=>(by cases q)⟩;unfold Vi.left Vi.through;rw[d];simp
   .rename_i z;exact⟨h.til I B (λy k=>by rw[d]at k;obtain rfl:=Zs k;omega),λx d=>(by cases d),λ_ _=>⟨rfl,rfl,rfl,rfl,rfl,λy k=>(by rw[d]at k;obtain rfl:=Zs k;exact⟨by omega,rfl⟩),λq=>(by rw[d]at q;cases q)⟩⟩
  .rename_i E;split;·rename_i ht;refine⟨h.idle E I B,λx d=>(by cases d),λ_ _=>⟨?_,rfl,rfl,rfl,rfl,λy k=>(by rw[E]at k;cases k),λ_=>by omega⟩⟩;show min (max e.now e.sched.tick) (e.clip til)=e.clip til;omega
   .rename_i ht;have hi:=h.idle E I B;have R:(e.idle (e.clip til)).now=max e.now e.sched.tick:=by show min (max e.now e.sched.tick) (e.clip til)=_;omega
    have hl:(e.idle (e.clip til)).left=e.left:=rfl;rcases hi.choose E with⟨_,Z⟩|⟨c,s,_,J,V,U,_⟩;·have hb:=h.hor.2;obtain⟨x,d⟩:=(h.tick (t:=max e.now e.sched.tick) (by omega)).2 (by omega);rw[R]at Z;rw[show(e.idle (e.clip til)).sched=e.sched from rfl,d]at Z;cases Z
    .refine⟨V,λ_ _=>by rw[U,hl],λq=>?_⟩;rw[J]at q;cases q
theorem V4.all(c:Nat):∀(n:Nat){e:Vi},V4 K e->V4 K (Vi.all c n e)
 |0,_,h=>h
 |n+1,e,h=>by
  rw[Vi.all];split;·exact(h.step c).1
  .exact V4.all c n (h.step c).1
theorem Qwu(c:Nat):∀(n m:Nat){e:Vi},V4 K e->e.left<n->e.left<m->Vi.all c n e=Vi.all c m e
 |0,_,e,_,h,_=>absurd h (Nat.not_lt_zero _)
 |_+1,0,e,_,_,h=>absurd h (Nat.not_lt_zero _)
 |n+1,m+1,e,ok,h1,h2=>by
  rw[Vi.all,Vi.all];obtain⟨k,q,_⟩:=ok.step c;cases d:(e.step c).1 with
  |none=>rfl
  |some x=> have:=q x d;exact Qwu c n m k (by omega) (by omega)
theorem V4.run(h:V4 K e)(til:Nat):V4 K (e.run til):=h.all til _
theorem P6(h:V4 K e){til:Nat}{x:EvM}(c:(e.step til).1=some x):e.run til=(e.step til).2.run til:=by obtain⟨d,k,_⟩:=h.step til;have:=k x c;unfold Vi.run;rw[Vi.all];simp only[c];exact Qwu til _ _ d (by omega) (by omega)
theorem G9{til:Nat}(c:(e.step til).1=none):e.run til=(e.step til).2:=by unfold Vi.run;rw[Vi.all];simp only[c]
theorem Qwr{P:Vi->Prop}{til:Nat}(k:∀e,V4 K e->P e->(e.step til).1.isSome=true->P (e.step til).2){Q:Vi->Prop}(d:∀e,V4 K e->P e->(e.step til).1=none->Q (e.step til).2):
  ∀(n:Nat){e:Vi},e.left<n->V4 K e->P e->Q (e.run til)
 |0,_,h,_,_=>absurd h (Nat.not_lt_zero _)
 |n+1,e,h,ok,hp=>by
  obtain⟨q,u,_⟩:=ok.step til;cases c:(e.step til).1 with
  |none=>rw[G9 c];exact d e ok hp c
  |some x=> have:=u x c;rw[P6 ok c];exact Qwr k d n (by omega) q (k e ok hp (by rw[c];rfl))
theorem W8(e:Vi)(til:Nat):(e.step til).2.hor=e.hor/\(e.step til).2.rate=e.rate:=by
 unfold Vi.step;split;·exact⟨rfl,rfl⟩
 .split;·split<;>exact⟨rfl,rfl⟩
  .split;·exact⟨rfl,rfl⟩
   .unfold Vi.choose;split<;>exact⟨rfl,rfl⟩
theorem Qwf(c:Nat):∀(n:Nat)(e:Vi),(Vi.all c n e).hor=e.hor/\(Vi.all c n e).rate=e.rate
 |0,_=>⟨rfl,rfl⟩
 |n+1,e=>by
  have h:=W8 e c;rw[Vi.all];split;·exact h
  .exact⟨(Qwf c n _).1.trans h.1,(Qwf c n _).2.trans h.2⟩
theorem V3(h:e.stopped=true)(til:Nat):e.step til=(none,e):=by unfold Vi.step;rw[if_pos h]
theorem Qxc(h:V4 K e){til:Nat}(J:e.now<=til)(U:e.stopped=false):(e.run til).now=min til e.hor:=by
 refine Qwr (K:=K) (P:=λx=>x.hor=e.hor/\x.now<=min til e.hor) (til:=til) (λx u q d=>?_) (Q:=λx=>x.now=min til e.hor) (λx u q d=>?_) _ (Nat.lt_succ_self _) h ⟨rfl,by have:=h.now;omega⟩
 .obtain⟨z,R⟩:=q;refine⟨(W8 x til).1.trans z,?_⟩;have k:x.clip til<=min til e.hor:=by unfold Vi.clip;omega
  unfold Vi.step at d|-;split;·rename_i B;rw[if_pos B]at d;cases d
  .split
   .rename_i y Z;split;·rename_i E;show y.til<=_;omega
    .show x.clip til<=_;exact k
   .split;·show min _ (x.clip til)<=_;omega
    .rename_i V E;have I:(x.idle (x.clip til)).now<=min til e.hor:=by show min _ (x.clip til)<=_;omega
     unfold Vi.choose;split<;>exact I
 .obtain⟨z,R⟩:=q;by_cases c:x.stopped=true;·rw[V3 c];unfold Vi.stopped at c;simp only[decide_eq_true_eq]at c;show x.now=_;omega
  .have:=((u.step til).2.2 d (by simpa using c)).1;rw[this];unfold Vi.clip;omega
end
section
variable{K:Nat}{e:Vi}
theorem V4.add(h:V4 K e)(s:Yk):V4 K (e.add s):=by
 unfold Vi.add;split;·exact h
 .obtain⟨N,c,k⟩:=h.sok;by_cases d:e.sched.aO s=0;·have:=Qe6 c (c.add d) (Qt8 c s);exact⟨⟨N,c.add d,by show N+17*((e.sched.add s).many 0).toNat+_+_<=K;rw[this];exact k⟩,h.rate,h.lrate,h.hor,h.now,h.taken,h.free,h.und,h.book⟩
  .rw[Qem d];exact h
theorem V4.change(h:V4 K e)(s:Yk):V4 K (e.change s):=by
 unfold Vi.change;split;·exact h
 .obtain⟨N,d,k⟩:=h.sok;by_cases c:e.sched.aG s=0;·have:=Qe6 d (d.change c) (Qbb s);exact⟨⟨N,d.change c,by show N+17*((e.sched.change s).many 0).toNat+_+_<=K;rw[this];exact k⟩,h.rate,h.lrate,h.hor,h.now,h.taken,h.free,h.und,h.book⟩
  .rw[Sj c];exact h
theorem V4.drop(h:V4 K e)(i:Int):V4 K (e.drop i):=by
 unfold Vi.drop;split;·exact h
 .obtain⟨N,c,k⟩:=h.sok;split;·rename_i d;have:=Qe6 c (c.drop d) (Qsf c i);exact⟨⟨N,c.drop d,by show N+17*((e.sched.drop i).many 0).toNat+_+_<=K;rw[this];exact k⟩,h.rate,h.lrate,h.hor,h.now,h.taken,h.free,h.und,h.book.drop i⟩
  .exact h
theorem V4.adv(h:V4 K e)(c:Nat):V4 K (e.adv c):=by
 unfold Vi.adv;split;·exact h.run c
 .exact h
def Vi.came(e:Vi)(q:Jr):Vi:={e with sched:=e.sched.push q e.now,book:=e.book.tell q.cls (Qx4 q)}
def Vi.refused(e:Vi)(q:Jr):Vi:={e with book:=e.book.tell q.cls Qwx}
theorem Qwb(e:Vi)(p:Jr):e.arr p=if e.stopped then e else if(e.run e.now).sched.aQ (e.arrP p)=0 then((e.run e.now).came (e.arrP p)).run (e.run e.now).now else(e.run e.now).refused (e.arrP p):=rfl
theorem V4.came(h:V4 K e){q:Jr}(c:e.sched.aQ q=0):V4 (K+33) (e.came q):=by obtain⟨N,d,k⟩:=h.sok;have:=Qw6 d e.now c;have u:=Qhw (s:=e.sched) 0;refine⟨⟨N+16,d.push e.now c,?_⟩,h.rate,h.lrate,h.hor,h.now,h.taken,h.free,h.und,h.book.tell _ _⟩;show N+16+17*((e.sched.push q e.now).many 0).toNat+(if e.aM.isSome then 1 else 0)+e.sent.length<=K+33;omega
theorem V4.refused(h:V4 K e)(q:Jr):V4 K (e.refused q):=⟨h.sok,h.rate,h.lrate,h.hor,h.now,h.taken,h.free,h.und,h.book.tell _ _⟩
theorem V4.arr(h:V4 K e)(p:Jr):V4 (K+33) (e.arr p):=by
 rw[Qwb];split;·exact h.more (by omega)
 .split;·rename_i c;exact((h.run _).came c).run _
  .exact((h.run _).refused _).more (by omega)
def P4(now c:Nat):Nat:=min (now+c%1048576) 1099511627781
def Vi.does(e:Vi)(k:Nat)(s:Yk)(p:Jr)(c:Nat):Vi:=
 if k%7=0 then e.add s else if k%7=1 then e.change s else if k%7=2 then e.drop s.id else if k%7=3 then e.arr p else if k%7=4 then e.adv (P4 e.now c)else(e.step (P4 e.now c)).2
def Vi.aY(e:Vi)(k:Nat)(s:Yk)(p:Jr)(c:Nat):Int:=
 if k%7=0 then e.aO s else if k%7=1 then e.aG s else if k%7=2 then e.aP s.id else if k%7=3 then e.arrE p else if k%7=4 then e.advE (P4 e.now c)else 0
theorem V4.does(h:V4 K e)(k:Nat)(s:Yk)(p:Jr)(c:Nat):V4 (K+33) (e.does k s p c):=by
 unfold Vi.does;split;·exact(h.add s).more (by omega)
 split;·exact(h.change s).more (by omega)
 split;·exact(h.drop s.id).more (by omega)
 split;·exact h.arr p
 split;·exact(h.adv _).more (by omega)
 .exact(h.step _).1.more (by omega)
end
def Qx6(l:V2):Array Value:=#[ZU l.rate,ZU l.taken,.bool l.idles]
abbrev P3(w:World)(F:Fp)(b:Nat)(l:V2):Prop:=Tv b (Qx6 l) 125 w F
theorem P3.obj:Hf P3:=Qwp (λb x=>Ks _ _ _) (λh=>h.2.1)
theorem P3.set{w w'}{F:Fp}{b:Nat}{l l':V2}(h:P3 w F b l)(q:Qc (λk=>k=b) w w')(d:Qh w' b (Qx6 l') 125):P3 w' (Qn F w w') b l'/\Qc F w w':=by have c:Qc F w w':=q.sub λk e=>e▸h.2.1;exact⟨⟨d,.inl h.2.1,h.2.2.ext c⟩,c⟩
def Qye(s:X7):List Value:=s.map λ(n:Nat)=>ZU n
def Qw0(s:X7):Array Value:=(Qye s).toArray
def Qv7(b:V1):List (Int×Value):=b.map λx=>(x.1,.agg (Qw0 x.2))
def Qxp(m b:Nat)(c:V1):List Ya:=[Tv b #[.map (some m)] 130,Qo8 m (Qv7 c)]
theorem Qwg(m b:Nat)(d:V1):∀P∈Qxp m b d,Uy P:=by
 intro P c;simp only[Qxp,Zu,List.not_mem_nil,or_false]at c;rcases c with rfl|rfl;·exact Ks _ _ _
 .exact Qhd _ _
def Qau(w:World)(F:Fp)(b:Nat)(bk:V1):Prop:=∃m,Oh (Qxp m b bk) w F
theorem Qau.obj:Hf Qau:=Qwp (λb x=>Qtk λm=>Je (Qwg m b x)) λ⟨m,h⟩=>by obtain⟨G,c,d⟩:=J6 (Qwg _ _ _) 0 rfl h;exact d _ c.2.1
theorem Qw1(b:V1)(i:Int):look i (Qv7 b)=(b.at i).map λs=>.agg (Qw0 s):=by
 unfold look V1.at Qv7
 suffices h:∀(b:V1)(n:Nat),(Oe i (b.map λx=>(x.1,.agg (Qw0 x.2))) n).map (·.2)=((b.find? λx=>decide (x.1=i)).map (·.2)).map λs=>Value.agg (Qw0 s)from h b 0
 intro b;induction b with
 |nil=>intro n;rfl
 |cons x b c=>
  intro n;rw[List.map_cons,Oe,List.find?_cons];by_cases e:x.1=i;·rw[if_pos e.symm];simp[e]
  .rw[if_neg (λh=>e h.symm),c];simp[e]
theorem Qwk(i:Int)(s:X7):∀b:V1,Oi i (.agg (Qw0 s)) (Qv7 b)=Qv7 (V1.set i s b)
 |[]=>rfl
 |x::b=>by
  unfold Qv7;rw[V1.set,List.map_cons,Oi];split;·rfl
  .rw[List.map_cons];exact congrArg _ (Qwk i s b)
theorem Qxg(i:Int)(b:V1):Vu i (Qv7 b)=Qv7 (b.filter λx=>!decide (x.1=i)):=by unfold Vu Qv7;rw[List.filter_map];rfl
def Qxe(x:D7):List Value:=[ZU x.p.id,ZI x.p.cls,ZI x.p.len,ZU x.p.at_,.int .u8 x.rule,ZU x.frm,ZU x.til,ZU x.due]
theorem Qws(x:D7):(Qxe x).length=8:=rfl
def Qyd:D7:=⟨Jr.zero,0,0,0,0⟩
abbrev Qxw(w:World)(v:Value)(l:List D7):Prop:=Own Qxe 8 51 w v l
def Qwq(v:Value)(l:List D7):Ya:=λw F=>Qxw w v l/\(∀k,v.ownBlock=some k->F k)/\Bd F w
theorem Qww(v:Value)(l:List D7):Uy (Qwq v l) where
 bd:=λh=>h.2.2
 aB:=λh d u=>⟨h.1.aB d (λk c=>u k (h.2.1 k c)),h.2.1,h.2.2.later d⟩
 more:=λh z q=>⟨h.1,λk c=>z k (h.2.1 k c),q⟩
theorem sentT:Qce prog Qxe 8 43 51 64 Qyd where
 ht:=underlying43
 hi:=Ee (by kernel_rfl)
 pos:=by decide
 hc:=Qws
 one:=λx u c=>by simp only[Qxe,Zu,List.not_mem_nil,or_false]at c;rcases c with rfl|rfl|rfl|rfl|rfl|rfl|rfl|rfl<;>rfl
structure EAd where
 sb:Nat
 lb:Nat
 kb:Nat
 us:Value
 ss:Value
def Qyg(A:EAd)(e:Vi):Array Value:=#[ZU e.rate,ZI e.most,ZU e.hor,ZU e.now,ptr A.sb,ptr A.lb,ptr A.kb,A.us,A.ss]
def Qxi(cs:Array Value)(A:EAd)(b:Nat)(e:Vi):List Ya:=
 [Tv b cs 87,λw F=>Qt w F A.sb e.sched,λw F=>P3 w F A.lb e.link,λw F=>Qau w F A.kb e.book,Qwq A.us e.aM.toList,Qwq A.ss e.sent]
theorem N3(cs:Array Value)(A:EAd)(b:Nat)(e:Vi):∀P∈Qxi cs A b e,Uy P:=by
 intro P c;simp only[Qxi,Zu,List.not_mem_nil,or_false]at c;rcases c with rfl|rfl|rfl|rfl|rfl|rfl;·exact Ks _ _ _
 .exact Qt.obj.good _ _
 .exact P3.obj.good _ _
 .exact Qau.obj.good _ _
 .exact Qww _ _
 .exact Qww _ _
def V6(cs:Array Value)(A:EAd)(w:World)(F:Fp)(b:Nat)(e:Vi):Prop:=Oh (Qxi cs A b e) w F
abbrev Qyf(A:EAd)(w:World)(F:Fp)(b:Nat)(e:Vi):Prop:=V6 (Qyg A e) A w F b e
def Qxn(w:World)(F:Fp)(b:Nat)(e:Vi):Prop:=∃A,Qyf A w F b e
theorem Qw9{w}{F:Fp}{P0:Ya}{L:List Ya}{i:Nat}{P:Ya}(J:∀Q∈P0::L,Uy Q)(Z:(P0::L)[i+1]? =some P)(h:Oh (P0::L) w F):
  ∃c:Fp,P0 w c/\(∀k,c k->F k)/\∃G:Fp,P w G/\(∀k,G k->F k)/\Jl c G/\∀w' Q,Qc G w w'->Q w' (Qn G w w')->Oh (P0::L.set i Q) w' (Qn F w w'):=by
 obtain⟨I,c,K,E,U,d,B,s1⟩:=h;obtain⟨G,k1,z,k3,k4⟩:=Xv i (λR V=>J R (Zr _ V)) (by simpa using Z) U;exact⟨c,E,B,G,k1,λk q=>s1 k (z k q),d.subR z,λw' Q u hq=>⟨I.ext u,c,Qn K w w',(J P0 (List.mem_cons_self ..)).aB E u (d.subR z),k4 w' Q u hq,Jl.extR d (I.sub B),λk q=>.inl (B k q),λk q=>Qn.mono s1 k q⟩⟩
section
variable{cs cs':Array Value}{A:EAd}{w w':World}{F:Fp}{b:Nat}{e:Vi}
theorem V6.good(cs:Array Value)(A:EAd)(b:Nat)(e:Vi):Uy (λw F=>V6 cs A w F b e):=Je (N3 cs A b e)
theorem V6.blk(h:V6 cs A w F b e):Qh w b cs 87/\F b:=by obtain⟨G,c,d⟩:=J6 (N3 cs A b e) 0 rfl h;exact⟨c.1,d _ c.2.1⟩
theorem Qxn.obj:Hf Qxn:=Qwp (λb x=>Qtk λA=>V6.good _ A b x) λ⟨A,h⟩=>h.blk.2
theorem V6.aB(h:V6 cs A w F b e)(c:Qc Qb w w'):V6 cs A w' F b e:=(V6.good cs A b e).aB h c (Jl.none F)
theorem V6.cells(h:V6 cs A w F b e)(d:Qc (λk=>k=b) w w')(c:Qh w' b cs' 87):V6 cs' A w' (Qn F w w') b e/\Qc F w w':=
 (Xv 0 (N3 cs A b e) rfl h).cells d c
theorem V6.part(h:V6 cs A w F b e)(i:Nat){P:Ya}(K:(Qxi cs A b e)[i+1]? =some P):
  ∃G:Fp,P w G/\(∀k,G k->F k)/\¬G b/\∀w' d q Q,Qxi cs d b q=(Qxi cs A b e).set (i+1) Q->Q w' (Qn G w w')->Qc G w w'->V6 cs d w' (Qn F w w') b q/\Qc F w w':=by
 obtain⟨V,z,_,G,B,u,E,I⟩:=Qw9 (N3 cs A b e) K h;refine⟨G,B,u,λJ=>E b z.2.1 J,λw' d q Q U R c=>⟨?_,c.sub u⟩⟩;have:=I w' Q c R;rw[<-Zb]at this;unfold V6;rw[U];exact this
theorem V6.schedOf(h:V6 cs A w F b e):∃G:Fp,Qt w G A.sb e.sched/\(∀k,G k->F k)/\¬G b/\∀w' s,Qt w' (Qn G w w') A.sb s->Qc G w w'->V6 cs A w' (Qn F w w') b {e with sched:=s}/\Qc F w w':=by obtain⟨G,c,d,q,u⟩:=h.part 0 rfl;exact⟨G,c,d,q,λw' s B z=>u w' A {e with sched:=s} (λw F=>Qt w F A.sb s) rfl B z⟩
theorem V6.linkOf(h:V6 cs A w F b e):∃G:Fp,P3 w G A.lb e.link/\(∀k,G k->F k)/\¬G b/\∀w' l,P3 w' (Qn G w w') A.lb l->Qc G w w'->V6 cs A w' (Qn F w w') b {e with link:=l}/\Qc F w w':=by obtain⟨G,c,d,q,u⟩:=h.part 1 rfl;exact⟨G,c,d,q,λw' l B z=>u w' A {e with link:=l} (λw F=>P3 w F A.lb l) rfl B z⟩
theorem V6.bookOf(h:V6 cs A w F b e):∃G:Fp,Qau w G A.kb e.book/\(∀k,G k->F k)/\¬G b/\∀w' l,Qau w' (Qn G w w') A.kb l->Qc G w w'->V6 cs A w' (Qn F w w') b {e with book:=l}/\Qc F w w':=by obtain⟨G,c,d,q,u⟩:=h.part 2 rfl;exact⟨G,c,d,q,λw' l B z=>u w' A {e with book:=l} (λw F=>Qau w F A.kb l) rfl B z⟩
theorem V6.underOf(h:V6 cs A w F b e):∃G:Fp,Qwq A.us e.aM.toList w G/\(∀k,G k->F k)/\¬G b/\∀w' v(x:Option D7),Qwq v x.toList w' (Qn G w w')->Qc G w w'->V6 cs {A with us:=v} w' (Qn F w w') b {e with aM:=x}/\Qc F w w':=by obtain⟨G,c,d,q,u⟩:=h.part 3 rfl;exact⟨G,c,d,q,λw' v x B z=>u w' {A with us:=v} {e with aM:=x} (Qwq v x.toList) rfl B z⟩
theorem V6.sentOf(h:V6 cs A w F b e):∃G:Fp,Qwq A.ss e.sent w G/\(∀k,G k->F k)/\¬G b/\∀w' v l,Qwq v l w' (Qn G w w')->Qc G w w'->V6 cs {A with ss:=v} w' (Qn F w w') b {e with sent:=l}/\Qc F w w':=by obtain⟨G,c,d,q,u⟩:=h.part 4 rfl;exact⟨G,c,d,q,λw' v l B z=>u w' {A with ss:=v} {e with sent:=l} (Qwq v l) rfl B z⟩
end
section
variable{w:World}{F:Fp}{b:Nat}{l:V2}
theorem Q1h(c:Nat)(w)(h:c<1\/1048576<c):ZW 29 #[ZU c] w (.tuple #[.pointer none,ZI 240]) λw'=>Qc Qb w w':=by
 by_cases u:c<1
 .have k:decide ((c:Int)<1)=true:=by simp;omega
  have d:decide (c<1)=true:=by simp;omega
  apply WH func29;go_wp2;go_ret2;refine⟨rfl,?_⟩;(exact Z0)
 .have B:1048576<c:=h.resolve_left u;have k:decide ((c:Int)<1)=false:=by simp;omega
  have d:decide (c<1)=false:=by simp;omega
  have z:decide ((1048576:Int)<(c:Int))=true:=by simp;omega
  have q:decide (1048576<c)=true:=by simp;omega
  apply WH func29;go_wp2;go_ret2;refine⟨rfl,?_⟩;(exact Z0)
theorem Qz1(d:Nat)(w)(R:1<=d)(U:d<=1048576):Cl 29 #[ZU d] w λe w'=>∃b,e=.returned (.tuple #[ptr b,ZI 0])/\P3 w' (Qn Qb w w') b (.new d)/\Qc Qb w w':=by
 have J:decide ((d:Int)<1)=false:=by simp;omega
 have B:decide (d<1)=false:=by simp;omega
 have K:decide ((1048576:Int)<(d:Int))=false:=by simp;omega
 have E:decide (1048576<d)=false:=by simp;omega
 have q:Hi (∀w1,Qc Qb w w1->P3 (w1.alloc (.cells #[ZU d,ZU 0,.bool true] 125)) (Qn Qb w (w1.alloc (.cells #[ZU d,ZU 0,.bool true] 125))) w1.heap.size (.new d)/\Qc Qb w (w1.alloc (.cells #[ZU d,ZU 0,.bool true] 125))):=O (λw1 c=>by
  have u:Qh (w1.alloc (.cells #[ZU d,ZU 0,.bool true] 125)) w1.heap.size #[ZU d,ZU 0,.bool true] 125:=Qh.new _ _ _;exact⟨⟨u,.inr ⟨c.size,u.lt⟩,λk I=>((Qr k).1 I).2⟩,c.alloc _⟩)
 have z:=O (Zg Qb w);unfold ptr;apply WH func29;go_wp2;go_ret2;exact⟨_,rfl,q.o _ z.o⟩
theorem Qzb{c:Nat}{v1 v2:Value}(h:Qh w b #[ZU c,v1,v2] 125)(z:1<=c):ZW 136 #[ptr b] w (.bool false) λw'=>w=w':=by
 have d:=L6 h;have k:((c:Int)==0)=false:=by simp;omega
 have q:decide ((c:Int)=0)=false:=by simp;omega
 have u:decide (c=0)=false:=by simp;omega
 unfold ptr;clear h;apply WH func136;exact WE
theorem Q0l{c g:Nat}{v1 v2:Value}(h:Qh w b #[ZU c,v1,v2] 125)(R:1<=c)(U:c<=1048576)(K:g<=1152921504623624192):ZW 191 #[ptr b,ZU g] w (ZU (((g+c-1)/c:Nat):Int)) λw'=>Qc Qb w w':=by
 have E:=L6 ((Zg Qb w).drew.blk h (λh=>h));have B:IntKind.u64.wrap ((g:Int)+(c:Int))=((g+c:Nat):Int):=by rw[IntWalk.u64_in _ (by omega)];omega
 have d:IntKind.u64.wrap (((g+c:Nat):Int)-1)=((g+c-1:Nat):Int):=by rw[IntWalk.u64_in _ (by omega)];omega
 have I:((c:Int)==0)=false:=by simp;omega
 have J:(c:Int)≠0:=by omega
 have u:(g+c-1)/c<=g+c-1:=Nat.div_le_self _ _;have k:IntKind.u64.wrap (((g+c-1:Nat):Int)/(c:Int))=(((g+c-1)/c:Nat):Int):=by rw[<-Int.natCast_ediv];generalize(g+c-1)/c=q at u|-;rw[IntWalk.u64_in _ (by omega)]
 have V:¬c=0:=by omega
 have z:=O (Zg Qb w).drew;generalize(g+c-1)/c=q at k|-;generalize g+c-1=p at d k;generalize g+c=Z at B d;unfold ptr;clear h u;apply WH func191;go_wp2_with fail;apply XB 2000000000000;apply YI 0;exact WD z
structure Qy9(l:V2):Prop where
 rate:1<=l.rate/\l.rate<=1048576
 taken:l.taken<=1152921504623624192
theorem Qy4(h:Qh w b (Qx6 l) 125)(c:Qy9 l):ZW 137 #[ptr b] w (ZU l.aU) λw'=>Qc Qb w w':=by have z:=O (Qzb h c.rate.1);have d:=O (Q0l h c.rate.1 c.rate.2 c.taken);have B:=L6 h;have q:(l.taken+l.rate-1)/l.rate=l.aU:=rfl;rw[q]at d;clear h c q;apply WH func137;go_wp2_with fail;apply Zy z;rintro w1 rfl;go_wp2_with fail;apply ZQ d;intro w1 u;exact WD u
theorem Qzt(h:Qh w b (Qx6 l) 125)(d:Qy9 l)(now:Nat):ZW 82 #[ptr b,ZU now] w (.bool (l.free now)) λw'=>Qc Qb w w':=by
 have E:=O (Qzb h d.rate.1);have k:=O (Qy4 h d);have z:decide ((l.aU:Int)<=(now:Int))=l.free now:=by unfold V2.free;simp
 have c:decide (l.aU<=now)=l.free now:=rfl;generalize l.aU=u at k z c;generalize l.free now=v at z c|-;clear h d;apply WH func82;go_wp2_with fail;apply Zy E;rintro w1 rfl;go_wp2_with fail;apply ZQ k;intro w1 B;exact WD B
theorem Q0w(h:P3 w F b l)(E:Qy9 l)(now:Nat):ZW 45 #[ptr b,ZU now] w (.tuple #[]) λw'=>P3 w' (Qn F w w') b (l.idle now)/\Qc F w w':=by
 have u:=O (Qzt h.1 E now);have B:=O (λw1 w' l'(c:Qc Qb w w1)(U:Qc (λk=>k=b) w1 w')R=>h.set (l':=l') (c.none.aA U) R);have q:=O (λw1(c:Qc Qb w w1)=>P3.obj.same h c);have J:=O h.1;unfold V2.idle;cases d:l.free now with
 |true=> rw[d]at u;rw[if_pos rfl];unfold ptr Qx6 at*;clear h E d;apply WH func45;go_wp2_with fail;apply Zy u;intro w1 c;have z:=O (c.blk J.o (λh=>h));have I:=O c;clear c;have V:=L6 z.o;have f2:=z.o.frozen;go_wp2;refine WB rfl rfl ⟨rfl,B.o _ _ _ I.o ((Zg _ _).setCell _ (.inl rfl)) (z.o.set' 2 _ rfl)⟩
 |false=> rw[d]at u;rw[if_neg Bool.false_ne_true];unfold ptr Qx6 at*;clear h E d;apply WH func45;go_wp2_with fail;apply ZF u (λ_ c=>q.o _ c);intro w1 K;exact WD K
theorem Q0m(h:Qh w b (Qx6 l) 125)(k:Qy9 l){now:Nat}{c:Int}(d:l.sendE now c=0):ZW 139 #[ptr b,ZU now,ZI c] w (ZI 0) λw'=>Qc Qb w w':=by
 have E:=O (Qzb h k.rate.1);have q:=O (Qzt h k now);unfold V2.sendE at d;split at d;·exact absurd d (by decide)
 split at d;·exact absurd d (by decide)
 split at d
 .rename_i J K z;rw[z]at q;have R:decide ((1099511627776:Int)<(now:Int))=false:=by simp;omega
  have I:decide (1099511627776<now)=false:=by simp;omega
  have U:decide (c<1)=false:=by simp;omega
  have V:decide (65536<=c)=false:=by simp;omega
  clear h k d J K z;apply WH func139;go_wp2_with fail;apply Zy E;rintro w1 rfl;go_wp2_with fail;apply ZQ q;intro w1 B;exact WD B
 .exact absurd d (by decide)
end
def M3(k:Nat):FuncId:=match k with
 |0=>112
 |1=>111
 |2=>134
 |3=>135
 |4=>141
 |5=>140
 |6=>113
 |_=>114
theorem Q06(k:Nat)(u:k<8)(b:Nat)(cs:Array Value)(w)(h:Qh w b cs 46)(q:cs.size=8):Cl (M3 k) #[ZP b] w λe w'=>e=.returned (.pointer (some ⟨b,k,none⟩))/\w=w':=by
 have d:=h.cell 0;obtain⟨v,c⟩:∃v,cs[0]? =some v:=⟨_,Array.getElem?_eq_getElem (by omega)⟩;rw[c]at d;clear h c q;obtain rfl|rfl|rfl|rfl|rfl|rfl|rfl|rfl:k=0\/k=1\/k=2\/k=3\/k=4\/k=5\/k=6\/k=7:=by omega
 .show Cl 112 _ _ _;apply WH func112;exact WE
 .show Cl 111 _ _ _;apply WH func111;exact WE
 .show Cl 134 _ _ _;apply WH func134;exact WE
 .show Cl 135 _ _ _;apply WH func135;exact WE
 .show Cl 141 _ _ _;apply WH func141;exact WE
 .show Cl 140 _ _ _;apply WH func140;exact WE
 .show Cl 113 _ _ _;apply WH func113;exact WE
 .show Cl 114 _ _ _;apply WH func114;exact WE
theorem Q0h(k:Nat)(d:k<8)(c:Array Value)(w):(callFunc (M3 k) c).run prog w=.ok (.enter (M3 k) c) w:=by
 obtain rfl|rfl|rfl|rfl|rfl|rfl|rfl|rfl:k=0\/k=1\/k=2\/k=3\/k=4\/k=5\/k=6\/k=7:=by omega
 .exact enters_of func112 (by kernel_rfl) rfl c w
 .exact enters_of func111 (by kernel_rfl) rfl c w
 .exact enters_of func134 (by kernel_rfl) rfl c w
 .exact enters_of func135 (by kernel_rfl) rfl c w
 .exact enters_of func141 (by kernel_rfl) rfl c w
 .exact enters_of func140 (by kernel_rfl) rfl c w
 .exact enters_of func113 (by kernel_rfl) rfl c w
 .exact enters_of func114 (by kernel_rfl) rfl c w
theorem Q02(n x:Nat)(d:Bool)(z o c:Nat)(w:World)(K:n<=Xw)(R:x<18446744073709551616)(ha:w.cell? ⟨z,o,none⟩=some (ZU x)):
  ZW 178 #[ZU n,.bool d,.slice (some ⟨z,o,none⟩) 1 c] w (ZU ((Qx9 d n x:Nat):Int)) λw'=>Qc Qb w w':=by
 have q:=Yz;have B:=O (Zg Qb w);have J:=λ(U:Array TypeId)t k a b(w)=>X8 (P:=prog) U t k a b w;have E:IntKind.u64.wrap ((n:Int)-min (n:Int) (x:Int))=((Qx9 true n x:Nat):Int):=by unfold Qx9;rw[if_pos rfl,IntWalk.u64_in _ (by omega)];omega
 have I:IntKind.u64.wrap (4611686018427387904-(n:Int))=((Xw-n:Nat):Int):=by rw[IntWalk.u64_in _ (by omega)];omega
 have u:IntKind.u64.wrap ((n:Int)+min (x:Int) ((Xw-n:Nat):Int))=((Qx9 false n x:Nat):Int):=by unfold Qx9;rw[if_neg (by decide),IntWalk.u64_in _ (by omega)];omega
 cases d;all_goals
  generalize Qx9 true n x=s1 at E|-;generalize Qx9 false n x=s2 at u|-;generalize Xw-n=m at I u;clear K R q;apply WH func178;go_wp2_with fail;refine wp_loop_rounds 2 ?_;rw[rounds_succ];go_wp2;rw[rounds_succ];exact WD B
section
def Q1s:Value:=.agg ZJ
theorem eight{s:X7}(h:s.length=8):∃a b c d e f g i,s=[a,b,c,d,e,f,g,i]:=by
 match s,h with
 |[a,b,c,d,e,f,g,i],_=>exact⟨a,b,c,d,e,f,g,i,rfl⟩
theorem Q0y(w):(zeroValue 46).run prog w=.ok Q1s w:=by unfold Q1s;go_simp
theorem Lq{s:X7}(h:s.length=8):(Qw0 s).size=8:=by unfold Qw0 Qye;simpa using h
theorem Qy8(s:X7):∀v∈(Qw0 s).toList,v.oneCell'=true:=by intro v c;simp only[Qw0,Qye,Z3]at c;obtain⟨n,_,rfl⟩:=c;rfl
theorem Qzf{s:X7}{k:Nat}(c:k<s.length):(Qw0 s)[k]? =some (ZU ((s.getD k 0:Nat):Int)):=by unfold Qw0 Qye;simp[List.getD_eq_getElem?_getD,List.getElem?_eq_getElem c]
theorem Q1c(s:X7)(k n:Nat):(Qw0 s).setIfInBounds k (ZU n)=Qw0 (s.set k n):=by unfold Qw0 Qye;rw[Za,List.map_set]
theorem Q0g(m:Nat)(w):(binOp .eql 128 (.map (some m)) (.map none)).run prog w=.ok (.bool false) w:=by kernel_rfl
attribute [local go_sem] Q0g
section
variable{w w':World}{F:Fp}{b m:Nat}{bk:V1}
theorem Qza(h:Qh w b #[.map (some m)] 130):ZW 70 #[ptr b] w (.bool false) λw'=>w=w':=by have c:=Jf h;unfold ptr;clear h;apply WH func70;exact WE
theorem Qau.opn(h:Qau w F b bk):∃m,Qh w b #[.map (some m)] 130/\Xq w m (Qv7 bk)/\F b/\F m/\b≠m/\Bd F w/\
  ∀w' c,Qc (λk=>k=m) w w'->Xq w' m (Qv7 c)->Qau w' (Qn F w w') b c/\Qc F w w':=by
 obtain⟨m,J⟩:=h;obtain⟨V,z,U,G,q,I,d,E⟩:=Qw9 (Qwg m b bk) (i:=0) rfl J;have B:=(Je (Qwg m b bk)).bd J;refine⟨m,z.1,q.1,U _ z.2.1,I _ q.2.1,λe=>d b z.2.1 (e▸q.2.1),B,λw' c K R=>?_⟩;have u:Qc G w w':=K.sub λk e=>e▸q.2.1;exact⟨⟨m,E w' (Qo8 m (Qv7 c)) u ⟨R,.inl q.2.1,q.2.2.ext u⟩⟩,u.sub I⟩
theorem Qau.lookup(h:Xq w m (Qv7 bk))(i:Int):(Instr.lookup 128 (.map (some m)) (ZI i) false).run prog w=.ok (.agg (Qw0 (bk.get i))) w:=by
 rw[Du h underlying128 underlying3 (Q0y w) i,Qw1];unfold V1.get;cases bk.at i with
 |none=>rfl
 |some s=>rfl
theorem Qau.update(h:Xq w m (Qv7 bk))(i:Int)(s:X7):∃w',(Instr.mapUpdate 128 (.map (some m)) (ZI i) (.agg (Qw0 s))).run prog w=.ok () w'/\Xq w' m (Qv7 (V1.set i s bk))/\Qc (λk=>k=m) w w':=by obtain⟨w',d,c,q⟩:=X6 (P:=prog) h underlying128 underlying3 i (.agg (Qw0 s));rw[Qwk]at c;exact⟨w',d,c,q⟩
theorem Q1w(v1 v2:Value)(w):(Instr.index 236 (.agg #[v1,v2]) (ZI 0)).run prog w=.ok v1 w:=by kernel_rfl
theorem Q1x(v1 v2:Value)(w):(Instr.index 236 (.agg #[v1,v2]) (ZI 1)).run prog w=.ok v2 w:=by kernel_rfl
theorem Q0p{i:Int}{l:List P5}(h:i<=0):bk.tell i l=bk.upd 0 l:=by unfold V1.tell;rw[if_pos h]
theorem Q1l{i:Int}{l:List P5}(h:¬i<=0):bk.tell i l=(bk.upd 0 l).upd i l:=by unfold V1.tell;rw[if_neg h]
def Qzv(x:P5):List Value:=[.func (.func (M3 x.k)) #[] #[],ZU x.n,.bool x.less]
def Qy0(w:World)(c:Nat)(l:List P5):Prop:=c<w.heap.size/\∀(i:Nat)(x:P5),l[i]? =some x->w.cell? ⟨c,i*3,none⟩=some (.func (.func (M3 x.k)) #[] #[])/\w.cell? ⟨c,i*3+1,none⟩=some (ZU x.n)/\w.cell? ⟨c,i*3+2,none⟩=some (.bool x.less)
theorem Qy0.aB{l:List P5}{rb:Nat}{S:Fp}(h:Qy0 w rb l)(c:Qc S w w')(d:¬S rb):Qy0 w' rb l:=
 ⟨Nat.lt_of_lt_of_le h.1 c.size,λi x z=>by
  obtain⟨k,q,u⟩:=h.2 i x z;exact⟨(c.cell (a:=⟨rb,i*3,none⟩) h.1 d).trans k,(c.cell (a:=⟨rb,i*3+1,none⟩) h.1 d).trans q,(c.cell (a:=⟨rb,i*3+2,none⟩) h.1 d).trans u⟩⟩
theorem Q07{l:List P5}{s:X7}{k:Nat}{x:P5}(c:l[k]? =some x):(l.take (k+1)).foldl Qwa s=Qwa ((l.take k).foldl Qwa s) x:=by rw[List.take_add_one,c];simp
theorem Q0t(h:Qau w F b bk)(ok:BOk bk)(c:Int)(l:List P5)(rb cap:Nat)(hr:Qy0 w rb l)(hF:¬F rb)(hl:∀x∈l,x.k<8/\x.n<18446744073709551616)(hn:l.length<=8):
  ZW 110 #[ptr b,ZI c,.slice (some ⟨rb,0,none⟩) l.length cap] w (.tuple #[]) λw'=>Qau w' (Qn F w w') b (bk.tell c l)/\Qc F w w':=by
 have a5:=O (Qau.obj.bd h);have u:=O (Zt (Qau.obj.more h (λk hk=>.inl hk) ((Qau.obj.bd h).ext (Zg F w))) (Zt ok (Zg F w)));obtain⟨m,J,_⟩:=h.opn;have HN:=O (Qza J);have HR:=O hr;have HF:=O hF;have HL:=O hl;obtain⟨n,af⟩:=Zx (l.length);have av:=O af;have ba:=O (show n<=8 by rw[af];exact hn);rw[<-af];clear h ok hr hF hl hn af J;apply WH func110;go_wp2_with fail;apply Zy HN;rintro w1 rfl;go_wp2_with fail;go_loopw [7,8,10,11,16,27,28,29] (λ_ _ _ _ ti _ _ _ wr=>∃i:Nat,ti=ZI i/\i<=2/\∃B,((i=0/\B=bk)\/(i=1/\c≠0/\B=bk.upd 0 l)\/(i=2/\B=bk.tell c l))/\Qau wr (Qn F w wr) b B/\BOk B/\Qc F w wr) (λ_ _ _ _ ti _ _ _ _=>2-(intOf ti).toNat);case atStart=>exact⟨0,rfl,by omega,bk,.inl ⟨rfl,rfl⟩,u.o.1,u.o.2.1,u.o.2.2⟩
 case round=>
  obtain⟨i,rfl,hi,B,I,J,z,hC⟩:=hrel;obtain⟨V,hV⟩:=Zx wr;rw[<-hV]at J hC|-;clear hV;by_cases a2:i<2
  .have hd:decide ((i:Int)<2)=true:=by simp;omega
   have bi:decide (i<2)=true:=by simpa using a2
   have bv:IntKind.i64.wrap ((i:Int)+1)=(i:Int)+1:=by rw[IntWalk.i64_in _ (by omega)]
   obtain⟨id,ae,bp,ag⟩:∃id:Int,(id=0\/(i=1/\id=c/\c≠0))/\(Instr.index 236 (.agg #[ZI 0,ZI c]) (ZI i)).run prog V=.ok (ZI id) V/\
     (id<0->B=bk.tell c l)/\(0<=id->(c=0->i=0/\B.upd id l=bk.tell c l)/\(c≠0->(i=0/\B.upd id l=bk.upd 0 l)\/(i=1/\B.upd id l=bk.tell c l))):=by
    rcases I with⟨rfl,rfl⟩|⟨rfl,hc,rfl⟩|⟨h,_⟩;·exact⟨0,.inl rfl,Q1w _ _ _,λh=>absurd h (by decide),λ_=>⟨λhc=>⟨rfl,by rw[Q0p (by omega)]⟩,λ_=>.inl ⟨rfl,rfl⟩⟩⟩
    .exact⟨c,.inr ⟨rfl,rfl,hc⟩,Q1x _ _ _,λh=>by rw[Q0p (by omega)],λh=>⟨λh0=>absurd h0 hc,λ_=>.inr ⟨rfl,by rw[Q1l (by omega)]⟩⟩⟩
    .omega
   have CC:=O hC;by_cases q:id<0
   .have bq:decide (id<0)=true:=by simpa using q
    have a9:=O (show i=1 by
     rcases ae with h|⟨h,_⟩;·omega
     .exact h)
    have ak:=ag.1 q;rw[ak]at J z;have K:=O (Zt J z);clear I J z hC ag ae ak;go_wp2_with fail;go_roundw;case measure=>simp only[intOf];omega
    case rel=>exact⟨i+1,by rw[<-Int.natCast_one,<-Int.natCast_add],by omega,_,.inr (.inr ⟨by have:=a9.o;omega,rfl⟩),K.o.1,K.o.2,CC.o⟩
   .have bq:decide (id<0)=false:=by simpa using q
    obtain⟨mb,an,hM,fb,fm,a1,bg,ai⟩:=J.opn;have ap:=Qau.lookup hM id;have S8:=O (z.get id);obtain⟨s0,ar⟩:=Zx (B.get id);rw[<-ar]at ap S8;have bc:=O ar;obtain⟨W1,s1,az,c1⟩:=Q0 (P:=prog) (vs:=Qw0 s0) (Qh.new V ZJ 46) (by rw[Lq S8.o.1];rfl) (Qy8 s0);have br:(Qw0 s0).size=8:=Lq S8.o.1;have C1:=O (((Zg Qb V).alloc (.cells ZJ 46)).trans c1 (λk e=>.inr (by omega)));have bd:=O az;have a0:=Jf an;have bs:=O ae;have aw:=O ag;have ax:=O ai;have HM:=O hM;have a6:=O (Zt an a1);have bb:=O z;have bu:=O I;have ah:=O q;obtain⟨sa,au⟩:=Zx (Qw0 s0);rw[<-au]at ap s1 br;have bt:=O au;clear au az c1 ai hM an z ae ag ar I hC J fb fm a1 bg q;go_wp2_with fail;clear s1 ap a0 bp;go_loopw [10,11,29] (λ_ _ tk wk=>∃k:Nat,tk=ZI k/\k<=n/\Qh wk V.heap.size (Qw0 ((l.take k).foldl Qwa s0)) 46/\Qc (λj=>j=V.heap.size) W1 wk) (λ_ _ tk _=>n-(intOf tk).toNat);case atStart=>exact⟨0,rfl,Nat.zero_le _,bd.o,Zg _ _⟩
    case round=>
     obtain⟨k,rfl,hk,aa,Z⟩:=hrel;have bw:IntKind.i64.wrap ((k:Int)+1)=(k:Int)+1:=by have:=ba.o;rw[IntWalk.i64_in _ (by omega)]
     have CK:=O Z;have SK:=O aa;have U:=O (S8.o.fold (l.take k));obtain⟨sk,E⟩:=Zx ((l.take k).foldl Qwa s0);rw[<-E]at SK U;by_cases bz:k<n
     .have bj:=ZT (show k<n by omega);obtain⟨x,hx⟩:∃x,l[k]? =some x:=⟨_,List.getElem?_eq_getElem (by have:=av.o;omega)⟩;have CW:Hi (Qc F w V):=O (CC.o);have a4:Hi (Qc F w wr):=O ((CW.o.aA C1.o.none).trans Z (λj e=>.inr (by have:=CW.o.size;omega)));have r0:=(HR.o.aB a4.o HF.o).2 k x hx;obtain⟨xk,xn⟩:=HL.o x (List.mem_of_getElem? hx);have XK:=O xk;have FX:=O (Q07 (s:=s0) hx);rw[<-E]at FX;have bh:=Q0h x.k xk;have k0:(0:Int)<=(k:Int):=by omega
      have HX:=O hx;clear aa Z hx E xk xn;go_wp2_with fail;obtain⟨V1,ab⟩:=Zx (wr.alloc (.cells #[.func (.func (M3 x.k)) #[] #[],ZU x.n,.bool x.less] 181));have C2:Hi (Qc Qb wr V1):=O (by rw[ab];exact(Zg _ _).alloc _);have XB:Hi (Qh V1 wr.heap.size #[.func (.func (M3 x.k)) #[] #[],ZU x.n,.bool x.less] 181):=O (by rw[ab];exact Qh.new _ _ _);have SV:=O (C2.o.blk SK.o (λh=>h));have a8:=O (Q06 x.k XK.o V.heap.size (Qw0 sk) V1 SV.o (Lq U.o.1));rw[<-ab];clear ab r0 bh;apply Zy a8;rintro w3 rfl;go_wp2_with fail;have R:=O (show x.k<sk.length by rw[U.o.1];exact XK.o);have CD:=O (Zg Qb V1).drew;have g0:=L6 (CD.o.blk XB.o (λh=>h));have g3:=(CD.o.blk SV.o (λh=>h)).at x.k (Qzf R.o);obtain⟨y,hy⟩:=Zx (sk.getD x.k 0);have HY:=O hy;rw[<-hy]at g3;clear hy;apply XC 302200111111 Qb V1;iterate 3 (refine Qy (h:=?_);try simp only[Act.put,Za,Zc,Zb])
      iterate 1 (refine Qy (by kernel_rfl) (λwv hv=>by(have z3:=(hv.blk SV.o (λh=>h)).at x.k (Qzf R.o);rw[<-HY.o]at z3;have z0:=L6 (hv.blk XB.o (λh=>h)));go_simp;try rfl) ?_;try simp only[Act.put,Za,Zc,Zb])
      (refine Qy (h:=?_);try simp only[Act.put,Za,Zc,Zb]);iterate 1 (refine Qy (by kernel_rfl) (λwv hv=>by(have z3:=(hv.blk SV.o (λh=>h)).at x.k (Qzf R.o);rw[<-HY.o]at z3;have z0:=L6 (hv.blk XB.o (λh=>h)));go_simp;try rfl) ?_;try simp only[Act.put,Za,Zc,Zb])
      apply YA 0;go_wp2_with fail;refine⟨((Zg Qb V1).alloc _).drew,?_⟩;have NB:Hi (Qh (V1.alloc (.cells #[ZU x.n] 22)).drew V1.heap.size #[ZU x.n] 22):=O ((Qh.new _ _ _).drew);have C3:Hi (Qc Qb V1 (V1.alloc (.cells #[ZU x.n] 22)).drew):=O (((Zg Qb V1).alloc _).drew);generalize(V1.alloc (.cells #[ZU x.n] 22)).drew=V2 at NB C3|-;have XN:=O ((HL.o x (List.mem_of_getElem? HX.o)).2);have YC:=O (show y<=Xw by rw[HY.o,List.getD_eq_getElem?_getD,List.getElem?_eq_getElem R.o];exact U.o.2 _ (List.getElem_mem _));have ay:=O (Q02 y x.n x.less V1.heap.size 0 1 V2 YC.o XN.o (Jf NB.o));clear g0 g3;refine Yb ?_;go_wp2_with fail;apply ZF ay (λ_ c4=>C3.o.aA c4);intro w4 C4;go_wp2_with fail;refine⟨C4.o,?_⟩;have am:=O (C4.o.blk SV.o (λh=>h));have g3:=am.o.at x.k (Qzf R.o);have f3:=am.o.frozen x.k;apply YI 0;obtain⟨V5,ac⟩:=Zx (w4.setCell ⟨V.heap.size,x.k,none⟩ (ZU ((Qx9 x.less y x.n:Nat):Int)));have NS:=O (show Qh V5 V.heap.size (Qw0 (Qwa sk x)) 46 by
       rw[ac];have:=am.o.set' x.k (ZU ((Qx9 x.less y x.n:Nat):Int)) rfl;rw[Q1c]at this;unfold Qwa;rw[<-HY.o];exact this)
      have C5:=O (show Qc (λj=>j=V.heap.size) W1 V5 by
       rw[ac];exact((CK.o.aA C2.o.none).aA C4.o.none).aA ((Zg _ _).setCell _ (.inl rfl)))
      rw[<-ac];clear ac g3 f3;go_wp2_with fail;refine⟨⟨k+1,by rw[<-Int.natCast_one,<-Int.natCast_add],by omega,?_,C5.o⟩,by simp only[intOf];omega⟩;rw[FX.o];exact NS.o
     .have bj:=ZN (show¬k<n by omega);have a3:l.take k=l:=by have:=av.o;rw[List.take_of_length_le (by omega)]
      rw[a3]at E;have CV:Hi (Qc Qb V wr):=O (C1.o.trans Z (λj e=>.inr (by omega)));have LT:Hi (V.heap.size<wr.heap.size):=O (aa.lt);obtain⟨w6,h6,ao,c6⟩:=Qau.update (w:=wr.drew) (HM.o.aB (CV.o.drew) (λh=>h)) id sk;obtain⟨m0,m1,m2,m3,m4,m5,m6,m7,aq⟩:=eight U.o.1;have B8:Qh wr.drew V.heap.size #[ZU m0,ZU m1,ZU m2,ZU m3,ZU m4,ZU m5,ZU m6,ZU m7] 46:=by have:=SK.o.drew;rw[aq]at this;exact this
      have g0:=Ja B8;rw[aq]at h6;have h6:(Instr.mapUpdate 128 (.map (some mb)) (ZI id) (.agg #[ZU m0,ZU m1,ZU m2,ZU m3,ZU m4,ZU m5,ZU m6,ZU m7])).run prog wr.drew=.ok () w6:=h6;have a0:=Jf (CV.o.drew.blk a6.o.1 (λh=>h));have be:=O (show V1.set id sk B=B.upd id l by rw[E,bc.o];rfl);rw[be.o]at ao;obtain⟨p1,p2⟩:=ax.o w6 _ ((CV.o.drew.mono λk h=>h.elim).trans c6 (λk h=>.inl h)) ao;obtain⟨q1,q2⟩:=Qau.obj.two p1 a5.o CC.o p2;have K:=O (Zt q1 q2);have bf:=O (bb.o.upd id l);clear aa Z E a3 c6 ao p1 p2 q1 q2 B8 aq;go_wp2_with fail;apply XB 2000000;apply YA 0;go_wp2_with fail;clear h6 a0 g0;refine Jo ?_;by_cases d:c=0
      .have bo:decide (c=0)=true:=by simpa using d
       have bm:(c==0)=true:=by simpa using d
       have al:=O (show Qau w6 (Qn F w w6) b (bk.tell c l)/\Qc F w w6 by
        rw[<-((aw.o.2 (by have:=ah.o;omega)).1 d).2];exact K.o)
       clear d;exact WD al
      .have bo:decide (c=0)=false:=by simpa using d
       have bm:(c==0)=false:=by simpa using d
       have al:=O ((aw.o.2 (by have:=ah.o;omega)).2 d);have a7:=O d;clear d;go_wp2_with fail;go_roundw;case measure=>simp only[intOf];omega
       case rel=>
        refine⟨i+1,by rw[<-Int.natCast_one,<-Int.natCast_add],by omega,_,?_,K.o.1,bf.o,K.o.2⟩;rcases al.o with⟨e1,e2⟩|⟨e1,e2⟩;·exact .inr (.inl ⟨by omega,a7.o,e2⟩)
        .exact .inr (.inr ⟨by omega,e2⟩)
  .have hd:decide ((i:Int)<2)=false:=by simp;omega
   have bi:decide (i<2)=false:=by simpa using a2
   have aj:B=bk.tell c l:=by
    rcases I with⟨h,_⟩|⟨h,_⟩|⟨_,h⟩;·omega
    .omega
    .exact h
   rw[aj]at J;have K:=O (Zt J hC);clear I J z hC aj;exact WD K
end
end
theorem Qz8(x:P5):(Qzv x).length=3:=rfl
theorem Qy0.of{w}{rb:Nat}{l:List P5}{cs:Array Value}{t:TypeId}(h:Qh w rb cs t)(k:cs=(Jm Qzv l).toArray):Qy0 w rb l:=by
 subst k;refine⟨h.lt,λi x d=>?_⟩;obtain⟨q,d⟩:=Z1.1 d;have c:=λj(u:j<3)=>Eb (cells:=Qzv) (sz:=3) Qz8 l i j q u;rw[d]at c;refine⟨h.at _ ?_,h.at _ ?_,h.at _ ?_⟩;·have:=c 0 (by decide);simpa[Qzv]using this
 .have:=c 1 (by decide);simpa[Qzv]using this
 .have:=c 2 (by decide);simpa[Qzv]using this
section
variable{w W:World}{F:Fp}{b rb:Nat}{bk:V1}{p:Jr}
theorem Qzg(h:Qau w F b bk)(R:BOk bk)(d:Qc Qb w W)(c:Int)(l:List P5){cs:Array Value}(B:Qh W rb cs 181)(k:cs=(Jm Qzv l).toArray)(U:w.heap.size<=rb)(I:∀x∈l,x.k<8/\x.n<18446744073709551616)(J:l.length<=8)(n:Int)(K:n=l.length)(cap:Nat):
  ZW 110 #[ZP b,ZI c,.slice (some ⟨rb,0,none⟩) l.length cap] W (.tuple #[]) λw'=>Qau w' (Qn F w w') b (bk.tell c l)/\Qc F w w':=by
 have u:=Qau.obj.bd h;apply Zz (Q0t (Qau.obj.aB h d (Jl.none F)) R c l rb cap (Qy0.of B k) (λE=>by have:=u _ E;omega) I J);rintro w'⟨h',z⟩;have q:Qc F w w':=d.none.aA z;exact⟨rfl,Qau.obj.more h' (Ke d.size) (u.ext q),q⟩
theorem Qzk{n:Int}(h:1<=n/\n<=65535):(Qx0 n:Int)=n/\Qx0 n<65536:=by unfold Qx0;omega
theorem Qy3(p:Jr)(c:Ll p)(w):ZW 115 #[.agg (ZL p)] w (ZU (Qx0 p.len:Int)) λw'=>Qc Qb w w':=by
 have K:=λ(E:Array TypeId)t k a b(w)=>Yd (P:=prog) E t k a b w;have q:=Qzk c;have B:IntKind.u64.wrap (max p.len 0)=(Qx0 p.len:Int):=by have I:=c;rw[IntWalk.u64_in _ (by omega)];omega
 have d:=O ((Zg Qb w).alloc (.cells (ZL p) 31));have z:Qh (w.alloc (.cells (ZL p) 31)) w.heap.size (ZL p) 31:=Qh.new _ _ _;have z0:=X9 z;generalize Qx0 p.len=n at B|-;clear z q;apply WH func115;exact WD d
theorem Qzw(h:Qau w F b bk)(u:BOk bk)(d:Int):ZW 61 #[ptr b,ZI d] w (.tuple #[]) λw'=>Qau w' (Qn F w w') b (bk.tell d Qwx)/\Qc F w w':=by
 have z:=O (λW(c:Qc Qb w W)B=>Qzg (W:=W) (rb:=w.heap.size) (cs:=#[.func (.func (M3 1)) #[] #[],ZU 1,.bool false]) h u c d Qwx B rfl (Zv _) (λx E=>by
  obtain rfl:=List.mem_singleton.1 E;exact⟨by decide,by decide⟩) (by decide) 1 rfl 1)
 clear h u;apply WH func61;go_wp2_with fail;apply ZD (z.o _ ((Zg _ _).alloc _) (Qh.new _ _ _));intro w2 K;exact WD K
theorem Q10{s:X7}(h:St8 s)(k:Nat):s.getD k 0<18446744073709551616:=by
 have c:=Yz;rw[List.getD_eq_getElem?_getD];cases d:s[k]? with
 |none=>exact(by decide:(0:Nat)<18446744073709551616)
 |some y=> have:=h.2 y (List.mem_of_getElem? d);show y<_;omega
theorem Q0r(h:Qau w F b bk)(Z:BOk bk)(p:Jr)(U:Ll p):ZW 62 #[ptr b,.agg (ZL p)] w (.tuple #[]) λw'=>Qau w' (Qn F w w') b (bk.tell p.cls (Qx4 p))/\Qc F w w':=by
 have k:=(Qzk U).2;obtain⟨n,z⟩:=Zx (Qx0 p.len);have HT:Hi (∀W rb,Qc Qb w W->w.heap.size<=rb->Qh W rb #[.func (.func (M3 0)) #[] #[],ZU 1,.bool false,.func (.func (M3 6)) #[] #[],ZU 1,.bool false,.func (.func (M3 7)) #[] #[],ZU n,.bool false] 181->
   ZW 110 #[ZP b,ZI p.cls,.slice (some ⟨rb,0,none⟩) 3 3] W (.tuple #[]) λw'=>Qau w' (Qn F w w') b (bk.tell p.cls (Qx4 p))/\Qc F w w'):=O (λW rb c hr hB=>Qzg h Z c p.cls (Qx4 p) hB (by rw[z];rfl) hr (λx V=>by
  simp only[Qx4,Zu,List.not_mem_nil,or_false]at V;rcases V with rfl|rfl|rfl<;>exact⟨by dsimp only;omega,by dsimp only;omega⟩) (show 3<=8 by decide) 3 rfl 3)
 have d:=O (λW=>Qy3 p U W);rw[<-z]at d;obtain⟨W,u⟩:=Zx (w.alloc (.cells (ZL p) 31));have B:Hi (Qc Qb w W):=O (by rw[u];exact(Zg _ _).alloc _);have E:Hi (Qh W w.heap.size (ZL p) 31):=O (by rw[u];exact Qh.new _ _ _);clear h Z k z;apply WH func62;go_wp2_with fail;rw[<-u];clear u;have g0:=X9 (E.o.drew);apply XC 3202011111 Qb W;iterate 2 (refine Qy (h:=?_);try simp only[Act.put,Za,Zc,Zb])
 iterate 1 (apply YK λ_ hv=>X9 (hv.blk E.o (λh=>h)))
 apply YA 0;clear g0;go_wp2_with fail;apply Z9 (d.o _) (λ_ I=>(Zg Qb W).drew.aA I);intro w2 q;go_wp2_with fail;refine⟨q.o,?_⟩;apply YA 0;go_wp2_with fail;refine⟨q.o.alloc _,?_⟩;refine Km ?_;go_wp2_with fail;apply ZD (HT.o _ w2.heap.size (B.o.aA (q.o.alloc _)) (Zp B.o.size q.o.size) (Qh.new _ _ _));intro w4 K;go_wp2_with fail;refine Ky ?_;exact WD K
theorem Qzx(h:Qau w F b bk)(Z:BOk bk)(p:Jr)(U:Ll p):ZW 81 #[ptr b,.agg (ZL p)] w (.tuple #[]) λw'=>Qau w' (Qn F w w') b (bk.tell p.cls (Qxv p))/\Qc F w w':=by
 have k:=(Qzk U).2;obtain⟨n,z⟩:=Zx (Qx0 p.len);have HT:Hi (∀W rb,Qc Qb w W->w.heap.size<=rb->Qh W rb #[.func (.func (M3 2)) #[] #[],ZU 1,.bool false,.func (.func (M3 3)) #[] #[],ZU n,.bool false] 181->
   ZW 110 #[ZP b,ZI p.cls,.slice (some ⟨rb,0,none⟩) 2 2] W (.tuple #[]) λw'=>Qau w' (Qn F w w') b (bk.tell p.cls (Qxv p))/\Qc F w w'):=O (λW rb c hr hB=>Qzg h Z c p.cls (Qxv p) hB (by rw[z];rfl) hr (λx V=>by
  simp only[Qxv,Zu,List.not_mem_nil,or_false]at V;rcases V with rfl|rfl<;>exact⟨by dsimp only;omega,by dsimp only;omega⟩) (show 2<=8 by decide) 2 rfl 2)
 have d:=O (λW=>Qy3 p U W);rw[<-z]at d;obtain⟨W,u⟩:=Zx (w.alloc (.cells (ZL p) 31));have B:Hi (Qc Qb w W):=O (by rw[u];exact(Zg _ _).alloc _);have E:Hi (Qh W w.heap.size (ZL p) 31):=O (by rw[u];exact Qh.new _ _ _);clear h Z k z;apply WH func81;go_wp2_with fail;rw[<-u];clear u;have g0:=X9 (E.o.drew);apply XC 320201111 Qb W;iterate 2 (refine Qy (h:=?_);try simp only[Act.put,Za,Zc,Zb])
 iterate 1 (apply YK λ_ hv=>X9 (hv.blk E.o (λh=>h)))
 apply YA 0;clear g0;go_wp2_with fail;apply Z9 (d.o _) (λ_ I=>(Zg Qb W).drew.aA I);intro w2 q;go_wp2_with fail;refine⟨q.o,?_⟩;apply YA 0;go_wp2_with fail;refine⟨q.o.alloc _,?_⟩;refine Km ?_;go_wp2_with fail;apply ZD (HT.o _ w2.heap.size (B.o.aA (q.o.alloc _)) (Zp B.o.size q.o.size) (Qh.new _ _ _));intro w4 K;go_wp2_with fail;refine Ky ?_;exact WD K
end
section
open Go.Shelf
attribute [local go_sem] Q0g
section
variable{w W:World}{F:Fp}{b rb:Nat}{bk:V1}{p:Jr}
theorem Qau.mk'{w w':World}{m b:Nat}(q:Qh w' b #[.map (some m)] 130)(u:Xq w' m (Qv7 bk))(E:w.heap.size<=b)(I:w.heap.size<=m)(c:b≠m):Qau w' (Qn Qb w w') b bk:=by refine⟨m,?_⟩;have z:=q.lt;have d:=u.lt;exact Q7 (G:=λk=>k=b) (H:=λk=>k=m) ⟨q,rfl,λk e=>e▸z⟩ (Y6 ⟨u,rfl,λk e=>e▸d⟩ (λk e=>e▸d)) (λk e h=>c (e.symm.trans h)) (λk e=>(Qr k).2 (by omega)) (λk e=>(Qr k).2 (by omega)) (λk B=>((Qr k).1 B).2)
theorem Q00(h:Qau w F b bk)(E:BOk bk)(i:Int):ZW 39 #[ptr b,ZI i] w (.agg (Qw0 (bk.get i))) λw'=>Qc Qb w w':=by obtain⟨m,K,hM,_⟩:=h.opn;have HN:=O (λw'(c:Qc Qb w w')=>Qza (c.blk K (λh=>h)));obtain⟨V,Z,n2,n3,n4,n5,n6,n7,R⟩:=eight (E.get i).1;obtain⟨J,d⟩:=Zx (w.alloc (.cells ZJ 46));have B:Hi (Qc Qb w J):=O (by rw[d];exact(Zg _ _).alloc _);have B0:Hi (Qh J w.heap.size ZJ 46):=O (by rw[d];exact Qh.new _ _ _);have z:=Qau.lookup (w:=J) (hM.aB B.o (λh=>h)) i;have a0:=Jf (B.o.blk K (λh=>h));obtain⟨W3,s3,q,c3⟩:=Q0 (P:=prog) (vs:=Qw0 (bk.get i)) B0.o (by rw[Lq (E.get i).1];rfl) (Qy8 _);have U:(Qw0 (bk.get i)).size=8:=Lq (E.get i).1;have C3:=O (B.o.trans c3 (λk e=>.inr (by omega)));have B3:Hi (Qh W3 w.heap.size #[ZU V,ZU Z,ZU n2,ZU n3,ZU n4,ZU n5,ZU n6,ZU n7] 46):=O (by rw[R]at q;exact q);obtain⟨sa,u⟩:=Zx (Qw0 (bk.get i));have I:=O (show sa=#[ZU V,ZU Z,ZU n2,ZU n3,ZU n4,ZU n5,ZU n6,ZU n7] by rw[u,R];rfl);rw[<-u]at z s3 U|-;clear h E K hM R q c3 u;apply WH func39;go_wp2_with fail;rw[<-d];clear d;apply Zz (HN.o _ B.o);rintro w1 rfl;go_wp2_with fail;clear s3 z a0;have g0:=Ja B3.o;rw[I.o];refine bodyPost_ret (v:=.agg #[ZU V,ZU Z,ZU n2,ZU n3,ZU n4,ZU n5,ZU n6,ZU n7]) (by rw[Lv (p:=4) (ty:=46) (by kernel_rfl)];go_simp;try rfl) rfl ⟨rfl,C3.o⟩
theorem Q01(w):Cl 31 #[] w λe w'=>∃b,e=.returned (ptr b)/\Qau w' (Qn Qb w w') b V1.new/\Qc Qb w w':=by
 have E:=@run_makeMap prog;obtain⟨d,z,c,B⟩:=Qau.update (bk:=[]) (w:=w.alloc (.map #[] 0)) (Xq.new w) 0 Qwi;have z:(Instr.mapUpdate 128 (.map (some w.heap.size)) (ZI 0) (.agg ZJ)).run prog (w.alloc (.map #[] 0))=.ok () d:=z;have q:Qc Qb w d:=((Zg Qb w).alloc (.map #[] 0)).trans B (λk e=>.inr (by omega));have Xg:=c.lt;have u:=O (show Qau (d.alloc (.cells #[.map (some w.heap.size)] 130)) (Qn Qb w (d.alloc (.cells #[.map (some w.heap.size)] 130))) d.heap.size V1.new/\Qc Qb w (d.alloc (.cells #[.map (some w.heap.size)] 130))from
  ⟨Qau.mk' (Qh.new _ _ _) (c.aB ((Zg Qb d).alloc _) (λh=>h)) q.size (Zv _) (by omega),q.alloc _⟩)
 clear c B q Xg;unfold ptr;apply WH func31;go_wp2_with fail;clear z;exact WG u
end
end
section
variable{w W:World}{F:Fp}{b rb:Nat}{bk:V1}
theorem Q0s(h:Qau w F b bk)(B:BOk bk)(i:Int)(hi:1<=i):ZW 68 #[ptr b,ZI i] w (.tuple #[]) λw'=>Qau w' (Qn F w w') b (bk.drop i)/\Qc F w w':=by
 have ae:=O (Qau.obj.bd h);obtain⟨m,E,hM,_⟩:=h.opn;have HN:=O (Qza E);obtain⟨n0,n1,n2,n3,n4,n5,n6,n7,U⟩:=eight (B.get i).1;obtain⟨W0,d⟩:=Zx (w.alloc (.cells ZJ 46));have C0:Hi (Qc Qb w W0):=O (by rw[d];exact(Zg _ _).alloc _);have B0:Hi (Qh W0 w.heap.size ZJ 46):=O (by rw[d];exact Qh.new _ _ _);have R:=Qau.lookup hM i;have a0:=Jf E;obtain⟨W3,s3,u,c3⟩:=Q0 (P:=prog) (vs:=Qw0 (bk.get i)) B0.o (by rw[Lq (B.get i).1];rfl) (Qy8 _);have ac:(Qw0 (bk.get i)).size=8:=Lq (B.get i).1;have C3:=O (C0.o.trans c3 (λk e=>.inr (by omega)));have B3:Hi (Qh W3 w.heap.size #[ZU n0,ZU n1,ZU n2,ZU n3,ZU n4,ZU n5,ZU n6,ZU n7] 46):=O (by rw[U]at u;exact u);have ah:=O (C3.o.blk E (λh=>h));have aa:n6<18446744073709551616:=by have:=Q10 (B.get i) 6;rw[U]at this;exact this
 have ab:n7<18446744073709551616:=by have:=Q10 (B.get i) 7;rw[U]at this;exact this
 have HT:Hi (∀W rb,Qc Qb w W->w.heap.size<=rb->Qh W rb #[.func (.func (M3 6)) #[] #[],ZU n6,.bool true,.func (.func (M3 7)) #[] #[],ZU n7,.bool true] 181->
   ZW 110 #[ZP b,ZI 0,.slice (some ⟨rb,0,none⟩) 2 2] W (.tuple #[]) λw'=>Qau w' (Qn F w w') b (bk.tell 0 (Qx5 (bk.get i)))/\Qc F w w'):=O (λW rb c ag E=>by
  have:=Qzg h B c 0 [⟨6,n6,true⟩,⟨7,n7,true⟩] E rfl ag (λx hx=>by
   simp only[Zu,List.not_mem_nil,or_false]at hx;rcases hx with rfl|rfl;·exact⟨by dsimp only;omega,aa⟩
   .exact⟨by dsimp only;omega,ab⟩) (show 2<=8 by decide) 2 rfl 2
  rw[show Qx5 (bk.get i)=[⟨6,n6,true⟩,⟨7,n7,true⟩] by rw[U];rfl];exact this)
 have HD:=O (show bk.drop i=(bk.tell 0 (Qx5 (bk.get i))).filter λy=>!decide (y.1=i) by unfold V1.drop;rw[if_neg (by omega)]);have ai:decide (i<1)=false:=by simp;omega
 obtain⟨sa,Z⟩:=Zx (Qw0 (bk.get i));rw[<-Z]at R s3 ac;rw[d]at s3;have g0:=Ja B3.o;clear h B E hM U u c3 Z aa ab hi d;apply WH func68;go_wp2_with fail;apply Zy HN;rintro w1 rfl;go_wp2_with fail;clear s3 R a0 ac g0;apply Zz (HT.o _ W3.heap.size (C3.o.alloc _) C3.o.size (Qh.new _ _ _));rintro w4⟨h4,c4⟩;obtain⟨m4,I,J,f4,g4,V,af,q⟩:=h4.opn;obtain⟨w5,h5,z,c5⟩:=Di (P:=prog) J underlying128 underlying3 3 0 i;rw[Qxg,<-HD.o]at z;obtain⟨p1,p2⟩:=q w5 _ c5 z;obtain⟨q1,q2⟩:=Qau.obj.two p1 ae.o c4 p2;have K:=O (Zt q1 q2);have a0:=Jf I;clear h4 c4 I J f4 g4 V af q z c5 p1 p2 q1 q2;go_wp2_with fail;clear h5 a0;exact WD K
end
section
variable{A:EAd}{w:World}{F:Fp}{b:Nat}{e:Vi}
theorem Qyu(h:Qh w b (Qyg A e) 87):ZW 32 #[ptr b] w (.bool false) λw'=>w=w':=by have c:=Av h;clear h;apply WH func32;exact WE
theorem Qzo(h:Qh w b (Qyg A e) 87):ZW 13 #[ptr b] w (ZU e.now) λw'=>w=w':=by have c:=O (Qyu h);have d:=Av h;clear h;apply WH func13;go_wp2_with fail;apply Zo c;rintro r w1⟨rfl,rfl⟩;exact WE
theorem Qzd(h:Qh w b (Qyg A e) 87):ZW 10 #[ptr b] w (.bool e.stopped) λw'=>Qc Qb w w':=by
 have q:=O (λw'(c:Qc Qb w w')=>Qyu (c.blk h (λh=>h)));have k:=O (Zg Qb w).drew;have z:=Av ((Zg Qb w).drew.blk h (λh=>h));have u:decide ((e.hor:Int)<=(e.now:Int))=e.stopped:=by unfold Vi.stopped;simp
 have d:decide (e.hor<=e.now)=e.stopped:=rfl;generalize e.stopped=Z at u d|-;clear h;apply WH func10;go_wp2_with fail;apply XB 2000000000000020;apply YA 0;go_wp2_with fail;refine(q.o _ k.o).mono ?_;rintro r w1⟨rfl,rfl⟩;go_wp2_with fail;apply YI 0;exact WD k
theorem Qyv(h:Qh w b (Qyg A e) 87):ZW 36 #[ptr b] w (ZI (if e.stopped then 261 else 0)) λw'=>Qc Qb w w':=by
 have u:=O (Qyu h);have c:=O (Qzd h);clear h;cases k:e.stopped;all_goals
  rw[k]at c;clear k;go_enter func36,ntmps36;go_wp2_with fail;refine Zo u ?_;rintro r w1⟨rfl,rfl⟩;go_wp2_with fail;refine Zo c ?_;rintro r w2⟨rfl,d⟩;have q:=O d;clear d;go_wp2;go_ret;exact⟨rfl,q.o⟩
theorem Qzp(h:V6 (Qyg A e) A w F b e){N:Nat}(u:Xp N e.sched)(k:N<549755813000):Cl 16 #[ptr b] w λr w'=>∃p,r=.returned (ptr p)/\Qt w' (Qn Qb w w') p e.sched/\Qc Qb w w':=by have B:=O (Qyu h.blk.1);obtain⟨G,⟨E,q⟩,_⟩:=h.schedOf;have z:=O (Qmc q u k);have I:=Av h.blk.1;clear h q u k;apply WH func16;go_wp2_with fail;apply Zo B;rintro r w1⟨rfl,rfl⟩;go_wp2_with fail;apply Zo z;rintro r w2⟨p,rfl,d,c⟩;have K:=O (Zt d c);clear d c;exact WG K
end
theorem Q0o(v:Value)(K:List D7)(w)(V:Own Qxe 8 51 w v K)(hl:K.length<1099511627776):
  Cl 38 #[v] w λe w'=>∃u,e=.returned u/\Own Qxe 8 51 w' u K/\Qc Qb w w'/\(∀k,u.ownBlock=some k->w.heap.size<=k)/\(v=.slice none 0 0->u=.slice none 0 0):=by
 obtain⟨a,cap,rfl,B,U,d⟩:=V.row sentT.hc;have HR:=O d;have HK:=O V;clear d V;have I:=λ(W)=>Lib.run_eql_slice_nil (P:=prog) W 43 51 a K.length cap 0 0 underlying43;cases a with
 |none=>
  obtain rfl:=U rfl;have E:K.length=0:=by omega
  obtain rfl:=List.eq_nil_of_length_eq_zero E;have C0:=O (Zg Qb w);simp only[List.length_nil,Option.isNone_none]at I;clear B U hl E;apply WH func38;go_wp2;go_ret;exact⟨_,rfl,Own.nil _ _ _ _,C0.o,nofun,λ_=>rfl⟩
 |some ad=>
  clear U;apply WH func38;go_wp2_with (at_builtin;refine Jj sentT rfl (.tmp 5) (.tmp 6) rfl _ ([]:List D7) rfl (Own.empty (Qh.new' _ _ (by simp))) _ _ K rfl ?a2 ?a3 ?a4 ?a5 ?a6);case a2=>intro h;cases h
  case a3=>exact HR.o.aB ((Zg Qb w).alloc _) (λ_ _ h=>h)
  case a4=>simp[maxLen];omega
  case a5=>simp;omega
  case a6=>
   intro u w1 c z J;have Z:Qc Qb w w1:=((Zg Qb w).alloc (.cells #[] 51)).trans z λj hj=>.inr (by simp[Value.ownBlock]at hj;omega);have K2:∀k,u.ownBlock=some k->w.heap.size<=k:=by
    intro k R;rcases J with h|h;·rw[h]at R;simp[Value.ownBlock]at R;omega
    .rw[h]at R;have:=Zs R;have hz:(w.alloc (.cells #[] 51)).heap.size=w.heap.size+1:=by simp
     omega
   have q:=O (Zt c (Zt Z K2));clear c Z K2 z J;go_wp2;go_ret;exact⟨_,rfl,q.o.1,q.o.2.1,q.o.2.2,nofun⟩
section
variable{A:EAd}{w:World}{F:Fp}{b:Nat}{e:Vi}{v:Value}{x:D7}{cs:Array Value}
theorem Qxw.one(h:Qxw w v [x]):∃g cap,v=.slice (some ⟨g,0,none⟩) 1 cap/\v.ownBlock=some g/\∃cs,Qh w g cs 51/\∀(j:Nat)(u:Value),(Qxe x)[j]? =some u->cs[j]? =some u:=by
 obtain⟨_,h⟩:=h;rcases h with⟨rfl,B⟩|⟨g,cap,d,rfl,I,z,K,k,E,c⟩;·cases B
 .refine⟨g,cap,rfl,rfl,d,z,λj u q=>?_⟩;have J:j<8:=(Z1.1 q).1;have e:(d.toList.take (1*8))[j]? =(Qxe x)[j]? :=by rw[show(1:Nat)=[x].length from rfl];rw[c];simp[Jm]
  rw[List.getElem?_take_of_lt (by omega),q]at e;simpa using e
theorem Q11(h:Qh w b cs 51)(c:∀(j:Nat)(u:Value),(Qxe x)[j]? =some u->cs[j]? =some u):
  w.cell? ⟨b,0,none⟩=some (ZU x.p.id)/\w.cell? ⟨b,1,none⟩=some (ZI x.p.cls)/\w.cell? ⟨b,2,none⟩=some (ZI x.p.len)/\w.cell? ⟨b,3,none⟩=some (ZU x.p.at_)/\
  w.cell? ⟨b,4,none⟩=some (.int .u8 x.rule)/\w.cell? ⟨b,5,none⟩=some (ZU x.frm)/\w.cell? ⟨b,6,none⟩=some (ZU x.til)/\w.cell? ⟨b,7,none⟩=some (ZU x.due):=
 ⟨h.at 0 (c 0 _ rfl),h.at 1 (c 1 _ rfl),h.at 2 (c 2 _ rfl),h.at 3 (c 3 _ rfl),h.at 4 (c 4 _ rfl),h.at 5 (c 5 _ rfl),h.at 6 (c 6 _ rfl),h.at 7 (c 7 _ rfl)⟩
theorem Qzz(h:V6 (Qyg A e) A w F b e)(z:e.sent.length<1099511627776):Cl 14 #[ptr b] w λr w'=>∃c,r=.returned c/\Qxw w' c e.sent/\Qc Qb w w'/\∀k,c.ownBlock=some k->w.heap.size<=k:=by have I:=O (Qyu h.blk.1);obtain⟨G,u,_⟩:=h.sentOf;have E:=O (Q0o A.ss e.sent w u.1 z);have J:=Av h.blk.1;clear h u z;apply WH func14;go_wp2_with fail;apply Zo I;rintro r w1⟨rfl,rfl⟩;go_wp2_with fail;apply Zo E;rintro r w2⟨c,rfl,q,d,B,_⟩;have K:=O (Zt q (Zt d B));clear q d B;exact WG K
end
section
variable{A:EAd}{w:World}{F:Fp}{b:Nat}{e:Vi}
theorem Q0v(h:V6 (Qyg A e) A w F b e)(E:BOk e.book)(i:Int):ZW 15 #[ptr b,ZI i] w (.agg (Qw0 (e.book.get i))) λw'=>Qc Qb w w':=by
 have HN:=O (λw'(c:Qc Qb w w')=>Qyu (c.blk h.blk.1 (λh=>h)));obtain⟨G,hK,_⟩:=h.bookOf;obtain⟨Z,n1,n2,n3,n4,n5,n6,n7,U⟩:=eight (E.get i).1;obtain⟨R,q⟩:=Zx (w.alloc (.cells ZJ 46));have I:Hi (Qc Qb w R):=O (by rw[q];exact(Zg _ _).alloc _);have B0:Hi (Qh R w.heap.size ZJ 46):=O (by rw[q];exact Qh.new _ _ _);have HG:=O (Q00 (Qau.obj.aB hK I.o (Jl.none G)) E i);have a0:=Av (I.o.blk h.blk.1 (λh=>h));have ST:Hi (∀w2,Qc Qb R w2->∃z,(storeCells ⟨w.heap.size,0,none⟩ (Qw0 (e.book.get i)).toList 0).run prog w2=.ok () z/\Qh z w.heap.size #[ZU Z,ZU n1,ZU n2,ZU n3,ZU n4,ZU n5,ZU n6,ZU n7] 46/\Qc Qb w z):=O (λw2 B=>by
  obtain⟨z,s3,d,J⟩:=Q0 (P:=prog) (vs:=Qw0 (e.book.get i)) (B.blk B0.o (λh=>h)) (by rw[Lq (E.get i).1];rfl) (Qy8 _);rw[U]at d;exact⟨z,s3,d,(I.o.aA B).trans J (λk e=>.inr (by omega))⟩)
 have V:(Qw0 (e.book.get i)).size=8:=Lq (E.get i).1;obtain⟨sa,u⟩:=Zx (Qw0 (e.book.get i));have K:=O (show sa=#[ZU Z,ZU n1,ZU n2,ZU n3,ZU n4,ZU n5,ZU n6,ZU n7] by rw[u,U];rfl);rw[<-u]at HG ST V|-;clear h E hK U u;apply WH func15;go_wp2_with fail;rw[<-q];clear q;refine(HN.o _ I.o).mono ?_;rintro r w1⟨rfl,rfl⟩;go_wp2_with fail;apply Zo HG;rintro r w2⟨rfl,B⟩;obtain⟨z,s3,d,J⟩:=ST.o w2 B;have B3:=O d;have C3:=O J;clear d J B;go_wp2_with fail;clear s3 a0;have g0:=Ja B3.o;rw[K.o];refine bodyPost_ret (v:=.agg #[ZU Z,ZU n1,ZU n2,ZU n3,ZU n4,ZU n5,ZU n6,ZU n7]) (by rw[Lv (p:=4) (ty:=46) (by kernel_rfl)];go_simp;try rfl) rfl ⟨rfl,C3.o⟩
def Qyz:Option D7->Array Value
 |none=>#[ZU 0,ZI 0,ZI 0,ZU 0,.int .u8 0,ZU 0,ZU 0,ZU 0]
 |some x=>#[ZU x.p.id,ZI x.p.cls,ZI x.p.len,ZU x.p.at_,.int .u8 x.rule,ZU x.frm,ZU x.til,ZU x.due]
theorem Qzq(h:V6 (Qyg A e) A w F b e):ZW 21 #[ptr b] w (.tuple #[.agg (Qyz e.aM),.bool e.aM.isSome]) λw'=>Qc Qb w w':=by
 have HN:=O (λw'(c:Qc Qb w w')=>Qyu (c.blk h.blk.1 (λh=>h)));obtain⟨G,E,_⟩:=h.underOf;obtain⟨R,d⟩:=Zx (w.alloc (.cells ZG 51));have B:Hi (Qc Qb w R):=O (by rw[d];exact(Zg _ _).alloc _);have K:Hi (Qh R w.heap.size ZG 51):=O (by rw[d];exact Qh.new _ _ _);have Z:=O (B.o.blk h.blk.1 (λh=>h));cases I:e.aM with
 |some x=> rw[I]at E;obtain⟨g,cap,q,_,cs,hB,hx⟩:=Qxw.one E.1;have HL:Hi (R.rangeAt g 0 (Qxe x)):=O (λj u I=>by rw[Nat.zero_add];exact(B.o.blk hB (λh=>h)).at j (hx j u I));obtain⟨a0,a1,a2,a3,a4,a5,a6,U,a8⟩:=Av Z.o;rw[q]at U;obtain⟨W3,s3,J,c3⟩:=Q0 (P:=prog) (vs:=(Qxe x).toArray) K.o rfl (λv hv=>sentT.one x v (by simpa using hv));have C3:=O (B.o.trans c3 (λk e=>.inr (by omega)));have B3:Hi (Qh W3 w.heap.size (ZM x) 51):=O J;have V:(Qxe x).toArray.size=8:=rfl;have z:Hi ((Qxe x).toArray=(ZM x)):=O (rfl);show Cl 21 #[ptr b] w λr w'=>r=.returned (.tuple #[.agg (ZM x),.bool true])/\Qc Qb w w';rw[<-z.o];clear h E I q hB hx J c3;apply WH func21;go_wp2_with fail;rw[<-d];clear d;refine(HN.o _ B.o).mono ?_;rintro r w1⟨rfl,rfl⟩;go_wp2_with (with_reducible refine wpList_load_mid rfl 51 (.tmp 19) rfl g 0 rfl (Qxe x) _ HL.o underlying51 rfl (by kernel_rfl) ?_);generalize(Qxe x).toArray=sa at s3 V z|-;go_wp2_with fail;clear s3;have g0:=Ja B3.o;rw[z.o];refine bodyPost_ret (v:=.tuple #[.agg (ZM x),.bool true]) (by rw[results_cell_tmp (p:=2) (u:=3) (ty:=51) (by kernel_rfl)];go_simp;try rfl) rfl ⟨rfl,C3.o⟩
 |none=>
  rw[I]at E;obtain⟨ad,cap,q,_⟩:=Own.row Qws E.1;obtain⟨a0,a1,a2,a3,a4,a5,a6,U,a8⟩:=Av Z.o;rw[q]at U;clear h E I q;apply WH func21;go_wp2_with fail;rw[<-d];clear d;refine(HN.o _ B.o).mono ?_;rintro r w1⟨rfl,rfl⟩;have z0:=Ja K.o;have fz:=K.o.frozen;go_wp2_with fail;refine bodyPost_ret (v:=.tuple #[.agg ZG,.bool false]) (by rw[results_cell_tmp (p:=2) (u:=3) (ty:=51) (by kernel_rfl)];go_simp;try rfl) rfl ⟨rfl,?_⟩;iterate 8 (with_reducible refine Qc.setCell ?_ _ (Or.inr (Zv _)))
  exact B.o
end
section
variable{w W:World}{F:Fp}{b n3 n5 n6 n7 n8 fr now:Nat}{l:V2}{len:Int}
theorem Q1a(K:Qh W n3 #[ZP b] 79)(B5:Qh W n5 #[ZI len] 3)(c:Qh W n6 #[ZU 0] 22)(B:Qh W n7 #[ZI 0] 37)(B8:Qh W n8 #[ZU fr] 22)
  (E:Qh W b (Qx6 l) 125)(h3:b≠n3)(h5:b≠n5)(h6:b≠n6)(h7:b≠n7)(h8:b≠n8)(d:n6≠n3)(q:n6≠n7)(hr:1<=l.rate/\l.rate<=1048576)(hl:1<=len/\len<=65535)(hf:fr<=1152921504606846976)(u:FrameMode):
  CallsD prog 138 #[ZP n7,ZP n8,ZP n5,ZP n3,ZP n6] u W λe u' w'=>u'=u/\(e=.returned (.tuple #[])/\
   Qh w' b (Qx6 ⟨l.rate,fr+len.toNat*256,false⟩) 125/\Qh w' n6 #[ZU ((V2.aU ⟨l.rate,fr+len.toNat*256,false⟩:Nat):Int)] 22/\Qh w' n7 #[ZI 0] 37/\Qc (λk=>k=b\/k=n6) W w'):=by
 have e1:IntKind.u64.wrap len=len:=by rw[IntWalk.u64_in _ (by omega)]
 have e2:IntKind.u64.wrap (len*256)=((len.toNat*256:Nat):Int):=by rw[IntWalk.u64_in _ (by omega)];omega
 have e3:IntKind.u64.wrap ((fr:Int)+((len.toNat*256:Nat):Int))=((fr+len.toNat*256:Nat):Int):=by rw[IntWalk.u64_in _ (by omega)];omega
 have OK:Qy9 ⟨l.rate,fr+len.toNat*256,false⟩:=⟨hr,by show fr+len.toNat*256<=_;omega⟩;obtain⟨tk,z⟩:=Zx (fr+len.toNat*256);rw[<-z]at e3 OK|-;generalize len.toNat*256=lg at e2 e3;have W1:Hi (∀w1,w1=(W.setCell ⟨b,1,none⟩ (ZU tk)).setCell ⟨b,2,none⟩ (.bool false)->Qh w1 b (Qx6 ⟨l.rate,tk,false⟩) 125/\Qc (λk=>k=b) W w1):=O (by
  rintro w1 rfl;exact⟨(E.set' 1 _ rfl).set' 2 _ rfl,((Zg (λk=>k=b) W).setCell (a:=⟨b,1,none⟩) _ (.inl rfl)).setCell (a:=⟨b,2,none⟩) _ (.inl rfl)⟩)
 have Z:=O c;have aa:=O B;have ab:=O K;have I:=O (Zt h3 (Zt h6 (Zt h7 (Zt d q))));have a0:=L6 E;have fb:=E.frozen;have c3:=Jf K;have c5:=Jf B5;have c7:=Jf B;have c8:=Jf B8;clear K B5 B8 E z hl hf hr h5 h8;go_enter_d func138,ntmps138;go_wp2_with fail;obtain⟨J,k2⟩:=W1.o _ rfl;generalize(W.setCell ⟨b,1,none⟩ (ZU tk)).setCell ⟨b,2,none⟩ (.bool false)=V at J k2|-;apply Zz (Qy4 J OK);intro w2 c2;have U:=O (k2.aA c2.none);have R:=O (c2.blk J (λh=>h));have c:=O (U.o.blk Z.o (λe=>I.o.2.1 e.symm));have B:=O (U.o.blk aa.o (λe=>I.o.2.2.1 e.symm));have d6:=Jf c.o;have f6:=c.o.frozen 0;clear J k2 c2 a0 fb c3 c5 c7 c8 h3 h6 h7 d q;go_wp2_with fail;go_end0;refine⟨rfl,R.o.other (a:=⟨n6,0,none⟩) _ (λe=>I.o.2.1 e.symm),c.o.set' 0 _ rfl,B.o.other (a:=⟨n6,0,none⟩) _ (λe=>I.o.2.2.2.2 e),?_⟩;exact(U.o.sub λk h=>.inl h).setCell (a:=⟨n6,0,none⟩) _ (.inl (.inr rfl))
theorem Q0x(h:P3 w F b l)(ok:Qy9 l)(he:l.sendE now len=0)(hn:now<=1099511627776)(al:l.from_ now<=1152921504606846976):
  ZW 83 #[ptr b,ZU now,ZI len] w (.tuple #[ZU (l.til now len:Int),ZI 0]) λw'=>P3 w' (Qn F w w') b (l.send now len)/\Qc F w w':=by
 have aq:∀(fn:Fn)(R cap:Array Value)(w),(Instr.makeFunc fn R cap).run prog w=.ok (.func fn R cap) w:=λ_ _ _ _=>rfl;obtain⟨n,J⟩:=Zx (w.heap.size);have Xg:b<n:=by rw[J];exact h.1.lt
 have ae:1<=len/\len<=65535:=by
  unfold V2.sendE at he;split at he;·exact absurd he (by decide)
  split at he;·exact absurd he (by decide)
  .omega
 obtain⟨W,hW⟩:=Zx (((((w.alloc (.cells #[ZP b] 79)).alloc (.cells #[ZI len] 3)).alloc (.cells #[ZU 0] 22)).alloc (.cells #[ZI 0] 37)).alloc (.cells #[ZU 0] 22));have C0:Hi (Qc Qb w W):=O (by rw[hW];exact(((((Zg _ _).alloc _).alloc _).alloc _).alloc _).alloc _);have B3:Hi (Qh W n #[ZP b] 79):=O (by rw[hW,J];exact((((Qh.new' _ _ (by simp<;>omega)).alloc _).alloc _).alloc _).alloc _);have B5:Hi (Qh W (n+1) #[ZI len] 3):=O (by rw[hW,J];exact(((Qh.new' _ _ (by simp<;>omega)).alloc _).alloc _).alloc _);have B6:Hi (Qh W (n+1+1) #[ZU 0] 22):=O (by rw[hW,J];exact((Qh.new' _ _ (by simp<;>omega)).alloc _).alloc _);have B7:Hi (Qh W (n+1+1+1) #[ZI 0] 37):=O (by rw[hW,J];exact(Qh.new' _ _ (by simp<;>omega)).alloc _);have B8:Hi (Qh W (n+1+1+1+1) #[ZU 0] 22):=O (by rw[hW,J];exact Qh.new' _ _ (by simp<;>omega));have BL:=O (C0.o.blk h.1 (λh=>h));have ah:=O (λw1(c:Qc Qb W w1)=>Q0m (c.blk BL.o (λh=>h)) ok he);obtain⟨id,ac⟩:=Zx (l.idles);have ag:=O (λw1(hB:Qh w1 b #[ZU l.rate,ZU l.taken,.bool id] 125)=>Qy4 (l:=l) (by rw[ac]at hB;exact hB) ok);have HL:=O h;have E1:IntKind.u64.wrap ((now:Int)*(l.rate:Int))=((now*l.rate:Nat):Int):=by have:=Nat.mul_le_mul hn ok.rate.2;rw[IntWalk.u64_in _ (by omega)];omega
 obtain⟨pr,ak⟩:=Zx (now*l.rate);rw[<-ak]at E1;have aa:l.from_ now=if !id&&decide (now=l.aU)then l.taken else pr:=by rw[ak,ac];rfl
 have Z:l.send now len=⟨l.rate,l.from_ now+len.toNat*256,false⟩:=by unfold V2.send;rw[if_pos he]
 have am:l.til now len=(V2.aU ⟨l.rate,l.from_ now+len.toNat*256,false⟩):=by unfold V2.til;rw[if_pos he,Z]
 rw[Z,am];have E:=O (show∀V,Qc (λk=>n+1+1<=k) W V->Qh V (n+1+1) #[ZU 0] 22->Qh V (n+1+1+1) #[ZI 0] 37->Qh V (n+1+1+1+1) #[ZU (l.from_ now:Int)] 22->
  CallsD prog 138 #[ZP (n+1+1+1),ZP (n+1+1+1+1),ZP (n+1),ZP n,ZP (n+1+1)] .returning V λe u' w'=>u'=.returning/\(e=.returned (.tuple #[])/\
   w'.cell? ⟨n+1+1,0,none⟩=some (ZU ((V2.aU ⟨l.rate,l.from_ now+len.toNat*256,false⟩:Nat):Int))/\w'.cell? ⟨n+1+1+1,0,none⟩=some (ZI 0)/\P3 w' (Qn F w w') b ⟨l.rate,l.from_ now+len.toNat*256,false⟩/\Qc F w w')from by
  intro V c B6 B7 B8;have ao:=c.blk BL.o (λh=>by omega);refine(Q1a (c.blk B3.o (λh=>by omega)) (c.blk B5.o (λh=>by omega)) B6 B7 B8 ao (by omega) (by omega) (by omega) (by omega) (by omega) (by omega) (by omega) ok.rate ae al .returning).mono ?_;rintro e u' w'⟨rfl,rfl,b1,b2,b3,I⟩;have cc:Qc (λk=>k=b) w w':=((C0.o.none (F:=λk=>k=b)).trans c λk hk=>.inr (by omega)).trans I λk hk=>hk.elim .inl (λe=>.inr (by omega));exact⟨rfl,rfl,Jf b2,Jf b3,h.set cc b1⟩)
 have BL:Hi (Qh W b #[ZU l.rate,ZU l.taken,.bool id] 125):=O (by rw[ac];exact BL.o);have d0:decide ((now:Int)=(l.aU:Int))=decide (now=l.aU):=decide_eq_decide.2 (by omega);have d1:((now:Int)==(l.aU:Int))=decide (now=l.aU):=by rw[Bool.eq_iff_iff,beq_iff_eq,decide_eq_true_eq];omega
 generalize l.from_ now=fr at aa E|-;have K:=O aa;generalize l.aU=un at ag d0 d1 aa K;have q0:¬b=n+1+1:=by omega
 have q1:¬b=n+1+1+1:=by omega
 have q2:¬b=n+1+1+1+1:=by omega
 have q3:¬n+1+1=b:=by omega
 have q4:¬n+1+1+1=b:=by omega
 have q5:¬n+1+1+1+1=b:=by omega
 have af:=O J;have ai:=O hW;clear h ok he hn al Xg ae ak J hW aa;unfold ptr Qx6 at*;have QQ:=O (Zt q0 (Zt q1 q2));clear ac;cases id with
 |true=> have U:fr=pr:=K.o;subst U;clear d0 d1;go_enter_defers func83,ntmps83;go_wp2_with fail;rw[<-af.o,<-ai.o];apply Zz (ah.o _ (Zg _ _));intro w1 d;have q:=O (d.blk B6.o (λh=>h));have u:=O (d.blk B7.o (λh=>h));have z:=O (d.blk B8.o (λh=>h));have B:=O (d.blk BL.o (λh=>h));have b3:=Jf (d.blk B3.o (λh=>h));have b5:=Jf (d.blk B5.o (λh=>h));have a0:=L6 B.o;have b6:=Jf q.o;have b7:=Jf u.o;have b8:=Jf z.o;have g6:=q.o.frozen 0;have g7:=u.o.frozen 0;have g8:=z.o.frozen 0;have C1:=O (d.none (F:=λk=>n+1+1<=k));clear d;go_wp2_with fail;refine leaves_cons (f:=138) (args:=#[ZP (n+1+1+1),ZP (n+1+1+1+1),ZP (n+1),ZP n,ZP (n+1+1)]) (by simp) (by simp[go_sem]) ?_;refine(E.o _ ((((C1.o.setCell _ (by show _\/_;left;show n+1+1<=n+1+1+1;omega)).setCell _ (by left;show n+1+1<=n+1+1+1+1;omega)).setCell _ (by left;exact Zv _)).setCell _ (by left;show n+1+1<=n+1+1+1;omega)) ((((q.o.other _ (by simp<;>omega)).other _ (by simp<;>omega)).set' 0 _ rfl).other _ (by simp<;>omega)) ((((u.o.set' 0 _ rfl).other _ (by simp<;>omega)).other _ (by simp<;>omega)).set' 0 _ rfl) ((((z.o.other _ (by simp<;>omega)).set' 0 _ rfl).other _ (by simp<;>omega)).other _ (by simp<;>omega))).mono ?_;rintro e u' an⟨rfl,rfl,r6,r7,hh,hc⟩;exact⟨.tuple #[ZU ((V2.aU ⟨l.rate,fr+len.toNat*256,false⟩:Nat):Int),ZI 0],by simp[results,Tryz.results83,go_sem,r6,r7],rfl,hh,hc⟩
 |false=>
  cases ab:decide (now=un)with
  |true=> rw[ab]at d0 d1 K;have U:fr=l.taken:=K.o;subst U;clear ab;go_enter_defers func83,ntmps83;go_wp2_with fail;rw[<-af.o,<-ai.o];apply Zz (ah.o _ (Zg _ _));intro w1 d;have q:=O (d.blk B6.o (λh=>h));have u:=O (d.blk B7.o (λh=>h));have z:=O (d.blk B8.o (λh=>h));have B:=O (d.blk BL.o (λh=>h));have aj:=O (d.blk B3.o (λh=>h));have b3:=Jf (d.blk B3.o (λh=>h));have b5:=Jf (d.blk B5.o (λh=>h));have a0:=L6 B.o;have b6:=Jf q.o;have b7:=Jf u.o;have b8:=Jf z.o;have g6:=q.o.frozen 0;have g7:=u.o.frozen 0;have g8:=z.o.frozen 0;have C1:=O (d.none (F:=λk=>n+1+1<=k));clear d;go_wp2_with fail;apply Zz (ag.o _ ((B.o.other _ (by simp<;>omega)).other _ (by simp<;>omega)));intro w2 I;have D6:=O (I.blk ((q.o.other (a:=⟨n+1+1+1,0,none⟩) (ZI 0) (by simp<;>omega)).other (a:=⟨n+1+1+1+1,0,none⟩) (ZU pr) (by simp<;>omega)) (λh=>h));have D7:=O (I.blk ((u.o.set' 0 (ZI 0) rfl).other (a:=⟨n+1+1+1+1,0,none⟩) (ZU pr) (by simp<;>omega)) (λh=>h));have D8:=O (I.blk ((z.o.other (a:=⟨n+1+1+1,0,none⟩) (ZI 0) (by simp<;>omega)).set' 0 (ZU pr) rfl) (λh=>h));have DL:=O (I.blk ((B.o.other (a:=⟨n+1+1+1,0,none⟩) (ZI 0) (by simp<;>omega)).other (a:=⟨n+1+1+1+1,0,none⟩) (ZU pr) (by simp<;>omega)) (λh=>h));have ap:=Jf (I.blk ((aj.o.other (a:=⟨n+1+1+1,0,none⟩) (ZI 0) (by simp<;>omega)).other (a:=⟨n+1+1+1+1,0,none⟩) (ZU pr) (by simp<;>omega)) (λh=>h));have C2:=O (((C1.o.setCell (a:=⟨n+1+1+1,0,none⟩) (ZI 0) (by left;show n+1+1<=n+1+1+1;omega)).setCell (a:=⟨n+1+1+1+1,0,none⟩) (ZU pr) (by left;show n+1+1<=n+1+1+1+1;omega)).trans I (λk h=>h.elim));clear I a0 b3 b5 b6 b7 b8 g6 g7 g8;have a0:=L6 DL.o;have b6:=Jf D6.o;have b7:=Jf D7.o;have b8:=Jf D8.o;have g6:=D6.o.frozen 0;have g7:=D7.o.frozen 0;have g8:=D8.o.frozen 0;go_wp2_with fail;refine leaves_cons (f:=138) (args:=#[ZP (n+1+1+1),ZP (n+1+1+1+1),ZP (n+1),ZP n,ZP (n+1+1)]) (by simp) (by simp[go_sem]) ?_;refine(E.o _ ((C2.o.setCell _ (by left;show n+1+1<=n+1+1+1+1;omega)).setCell _ (by left;show n+1+1<=n+1+1;omega) |>.setCell _ (by left;show n+1+1<=n+1+1+1;omega)) (((D6.o.other _ (by simp<;>omega)).set' 0 _ rfl).other _ (by simp<;>omega)) (((D7.o.other _ (by simp<;>omega)).other _ (by simp<;>omega)).set' 0 _ rfl) (((D8.o.set' 0 _ rfl).other _ (by simp<;>omega)).other _ (by simp<;>omega))).mono ?_;rintro e u' an⟨rfl,rfl,r6,r7,hh,hc⟩;exact⟨.tuple #[ZU ((V2.aU ⟨l.rate,l.taken+len.toNat*256,false⟩:Nat):Int),ZI 0],by simp[results,Tryz.results83,go_sem,r6,r7],rfl,hh,hc⟩
  |false=> rw[ab]at d0 d1 K;have U:fr=pr:=K.o;subst U;clear ab;go_enter_defers func83,ntmps83;go_wp2_with fail;rw[<-af.o,<-ai.o];apply Zz (ah.o _ (Zg _ _));intro w1 d;have q:=O (d.blk B6.o (λh=>h));have u:=O (d.blk B7.o (λh=>h));have z:=O (d.blk B8.o (λh=>h));have B:=O (d.blk BL.o (λh=>h));have aj:=O (d.blk B3.o (λh=>h));have b3:=Jf (d.blk B3.o (λh=>h));have b5:=Jf (d.blk B5.o (λh=>h));have a0:=L6 B.o;have b6:=Jf q.o;have b7:=Jf u.o;have b8:=Jf z.o;have g6:=q.o.frozen 0;have g7:=u.o.frozen 0;have g8:=z.o.frozen 0;have C1:=O (d.none (F:=λk=>n+1+1<=k));clear d;go_wp2_with fail;apply Zz (ag.o _ ((B.o.other _ (by simp<;>omega)).other _ (by simp<;>omega)));intro w2 I;have D6:=O (I.blk ((q.o.other (a:=⟨n+1+1+1,0,none⟩) (ZI 0) (by simp<;>omega)).other (a:=⟨n+1+1+1+1,0,none⟩) (ZU fr) (by simp<;>omega)) (λh=>h));have D7:=O (I.blk ((u.o.set' 0 (ZI 0) rfl).other (a:=⟨n+1+1+1+1,0,none⟩) (ZU fr) (by simp<;>omega)) (λh=>h));have D8:=O (I.blk ((z.o.other (a:=⟨n+1+1+1,0,none⟩) (ZI 0) (by simp<;>omega)).set' 0 (ZU fr) rfl) (λh=>h));have DL:=O (I.blk ((B.o.other (a:=⟨n+1+1+1,0,none⟩) (ZI 0) (by simp<;>omega)).other (a:=⟨n+1+1+1+1,0,none⟩) (ZU fr) (by simp<;>omega)) (λh=>h));have ap:=Jf (I.blk ((aj.o.other (a:=⟨n+1+1+1,0,none⟩) (ZI 0) (by simp<;>omega)).other (a:=⟨n+1+1+1+1,0,none⟩) (ZU fr) (by simp<;>omega)) (λh=>h));have C2:=O (((C1.o.setCell (a:=⟨n+1+1+1,0,none⟩) (ZI 0) (by left;show n+1+1<=n+1+1+1;omega)).setCell (a:=⟨n+1+1+1+1,0,none⟩) (ZU fr) (by left;show n+1+1<=n+1+1+1+1;omega)).trans I (λk h=>h.elim));clear I a0 b3 b5 b6 b7 b8 g6 g7 g8;have a0:=L6 DL.o;have b6:=Jf D6.o;have b7:=Jf D7.o;have b8:=Jf D8.o;have g6:=D6.o.frozen 0;have g7:=D7.o.frozen 0;have g8:=D8.o.frozen 0;go_wp2_with fail;refine leaves_cons (f:=138) (args:=#[ZP (n+1+1+1),ZP (n+1+1+1+1),ZP (n+1),ZP n,ZP (n+1+1)]) (by simp) (by simp[go_sem]) ?_;refine(E.o _ ((C2.o.setCell _ (by left;show n+1+1<=n+1+1;omega)).setCell _ (by left;show n+1+1<=n+1+1+1;omega)) ((D6.o.set' 0 _ rfl).other _ (by simp<;>omega)) ((D7.o.other _ (by simp<;>omega)).set' 0 _ rfl) ((D8.o.other _ (by simp<;>omega)).other _ (by simp<;>omega))).mono ?_;rintro e u' an⟨rfl,rfl,r6,r7,hh,hc⟩;exact⟨.tuple #[ZU ((V2.aU ⟨l.rate,fr+len.toNat*256,false⟩:Nat):Int),ZI 0],by simp[results,Tryz.results83,go_sem,r6,r7],rfl,hh,hc⟩
end
section
variable{w W:World}{F:Fp}{b rb:Nat}{bk:V1}{p:Jr}
theorem Qz3(h:Qau w F b bk)(ok:BOk bk)(p:Jr)(hg:Ll p)(d:Nat)(hr:d=1\/d=2):ZW 84 #[ptr b,.agg (ZL p),.int .u8 d] w (.tuple #[]) λw'=>Qau w' (Qn F w w') b (bk.tell p.cls (Qwn p d))/\Qc F w w':=by
 have q:=(Qzk hg).2;obtain⟨n,I⟩:=Zx (Qx0 p.len);have B:Hi (∀W rb,Qc Qb w W->w.heap.size<=rb->Qh W rb #[.func (.func (M3 (if d=1 then 4 else 5))) #[] #[],ZU n,.bool false,.func (.func (M3 6)) #[] #[],ZU 1,.bool true,.func (.func (M3 7)) #[] #[],ZU n,.bool true] 181->
   ZW 110 #[ZP b,ZI p.cls,.slice (some ⟨rb,0,none⟩) 3 3] W (.tuple #[]) λw'=>Qau w' (Qn F w w') b (bk.tell p.cls (Qwn p d))/\Qc F w w'):=O (λW rb c J hB=>Qzg h ok c p.cls (Qwn p d) hB (by rw[I];rfl) J (λx hx=>by
  simp only[Qwn,Zu,List.not_mem_nil,or_false]at hx;rcases hx with rfl|rfl|rfl;·refine⟨?_,by dsimp only;omega⟩;dsimp only;split<;>omega
  .exact⟨by dsimp only;omega,by dsimp only;omega⟩
  .exact⟨by dsimp only;omega,by dsimp only;omega⟩) (show 3<=8 by decide) 3 rfl 3)
 have k:=O (λW=>Qy3 p hg W);rw[<-I]at k;obtain⟨W,z⟩:=Zx (w.alloc (.cells (ZL p) 31));have V:Hi (Qc Qb w W):=O (by rw[z];exact(Zg _ _).alloc _);have E:Hi (Qh W w.heap.size (ZL p) 31):=O (by rw[z];exact Qh.new _ _ _);clear h ok q I;rcases hr with rfl|rfl;all_goals
  first
  |rw[if_pos rfl]at B
  |rw[if_neg (by decide)]at B
  apply WH func84;go_wp2_with fail;rw[<-z];clear z;have g0:=X9 (E.o.drew);apply YC [100,101,102,103,4,107,108,205,106,209,10,211,312] Qb W;iterate 2 (refine Qy (h:=?_);try simp only[Act.put,Za,Zc,Zb])
  iterate 1 (apply YK λ_ R=>X9 (R.blk E.o (λh=>h)))
  (refine Qy (h:=?_);try simp only[Act.put,Za,Zc,Zb]);refine Xe (h:=?_)
  (refine Qy (h:=?_);try simp only[Act.put,Za,Zc,Zb]);iterate 1 (apply YK λ_ R=>X9 (R.blk E.o (λh=>h)))
  clear g0;refine Yb ?_;go_wp2_with fail;apply Z9 (k.o _) (λ_ c2=>(Zg Qb W).drew.aA c2);intro w2 Z;go_wp2_with fail;refine⟨Z.o,?_⟩;apply YA 0;go_wp2_with fail;apply Z9 (k.o _) (λ_ c3=>Z.o.aA c3);intro w3 u;go_wp2_with fail;refine⟨u.o,?_⟩;apply YA 0;go_wp2_with fail;refine⟨u.o.alloc _,?_⟩;refine Km ?_;go_wp2_with fail;apply ZD (B.o _ w3.heap.size (V.o.aA (u.o.alloc _)) (Zp V.o.size u.o.size) (Qh.new _ _ _));intro w4 K;go_wp2_with fail;refine Ky ?_;exact WD K
end
def Fr(e:Vi):Prop:=∀x,e.aM=some x->Ll x.p
section
variable{K:Nat}{e:Vi}
theorem Fr.step(u:Fr e)(q:V4 K e)(til:Nat):Fr (e.step til).2:=by
 obtain⟨z,B⟩:=Qwo q til;unfold Vi.step;split;·exact u
 .split
  .split;·exact nofun
   .exact u
  .rename_i k;split;·exact u
   .rcases(q.idle k z B).choose k with⟨d,_⟩|⟨c,s,_,d,_,_,_,E,_⟩;·rw[d];exact u
    .rw[d];intro x I;cases I;exact E
theorem Fr.all(c:Nat):∀(n:Nat){e:Vi},Fr e->V4 K e->Fr (Vi.all c n e)
 |0,_,u,_=>u
 |n+1,e,u,ok=>by
  rw[Vi.all];split;·exact u.step ok c
  .exact Fr.all c n (u.step ok c) (ok.step c).1
theorem Fr.run(u:Fr e)(c:V4 K e)(til:Nat):Fr (e.run til):=Fr.all til _ u c
end
section
def ewC:Yk:=⟨1,0,true,⟨0,0,0⟩,⟨0,0,256⟩,⟨0,0,0⟩,5,1000⟩
def ewP:Jr:=⟨7,1,10,0⟩
def ewQ:Jr:=⟨0,2,10,0⟩
def ew0:Vi:=.new 256 1500 100
def ew1:Vi:=ew0.add ewC
def ew2:Vi:=ew1.adv 5
def ew3:Vi:=ew2.arr ewP
def ew4:Vi:=ew3.arr ewQ
def ew5:Vi:=ew4.adv 4
def ew6:Vi:=ew5.adv 99
def ew7:Vi:=ew6.adv 200
def ewX:D7:=⟨⟨7,1,10,5⟩,2,5,15,0⟩
set_option maxRecDepth 100000
theorem Qyb:Qxy 256 1500 100=0:=by decide
theorem Qyq:Qxy 256 1500 0=2:=by decide
theorem Qyh:ew0.aO ewC=0:=by decide+kernel
theorem Qyi:ew1.advE 5=0:=by decide+kernel
theorem Qyj:ew2.arrE ewP=0:=by decide+kernel
theorem Qyt:ew3.aM=some ewX:=by rfl
theorem Qyk:ew3.arrE ewQ=81:=by decide+kernel
theorem Qyl:ew4.advE 4=260:=by decide+kernel
theorem Qym:ew5.advE 99=0:=by decide+kernel
theorem Qyr:ew6.sent=[ewX]:=by rfl
theorem Qyn:ew6.advE 200=0:=by decide+kernel
theorem Qys:ew7.now=100/\ew7.stopped=true:=by decide+kernel
theorem Qyo:ew7.advE 100=261:=by decide+kernel
theorem Qyp:ew7.book.get 0=[1,1,1,10,0,10,0,0]:=by decide+kernel
theorem ew_ok0:V4 0 ew0:=V4.new Qyb
theorem ew_ok1:V4 0 ew1:=ew_ok0.add ewC
theorem ew_ok2:V4 0 ew2:=ew_ok1.adv 5
theorem ew_ok3:V4 33 ew3:=ew_ok2.arr ewP
theorem ew_ok4:V4 66 ew4:=ew_ok3.arr ewQ
theorem ew_ok5:V4 66 ew5:=ew_ok4.adv 4
theorem ew_ok6:V4 66 ew6:=ew_ok5.adv 99
theorem ew_ok7:V4 66 ew7:=ew_ok6.adv 200
end
end Go.Proofs.YtigcnnkagkbflaaGreat
