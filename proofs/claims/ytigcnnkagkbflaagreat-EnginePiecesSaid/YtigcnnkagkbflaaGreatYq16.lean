/- A part of the proof: no condition. -/
import Derived.Test.YtigcnnkagkbflaaGreatYq15
import Derived.Deep.WholeRow
import Derived.Laws.ResultCell
namespace Go.Proofs.YtigcnnkagkbflaaGreat
set_option linter.unusedVariables false
set_option maxRecDepth 100000
set_option maxHeartbeats 4000000
open Go.RowKit
open Go.Proofs.Tryz
attribute [local go_sem] Qp
attribute [local irreducible] Kl J9 Xo
def Fb(s:Yk):Value:=.agg #[.int .i64 s.id,.int .i64 s.par,.bool s.leaf,.int .u64 s.real.f,.int .u64 s.real.l,.int .u64 s.real.r,.int .u64 s.share.f,.int .u64 s.share.l,.int .u64 s.share.r,.int .u64 s.aN.f,.int .u64 s.aN.l,.int .u64 s.aN.r,.int .i64 s.pk,.int .i64 s.bt]
theorem Ns(s:Yk)(w):ZW 167 #[Fb s] w (.bool s.aJ) λw'=>Qc Qb w w':=by
 have I:=O (Xx.new w s);have u:=O ((Zg Qb w).alloc (.cells (Z4 s.leaf s) 29));have k:=O (λw=>Kz s.share w);have z:=O (λw=>K8 s.share w);unfold Yk.aJ;cases c:s.share.none with
 |true=> rw[c]at k;unfold Fb;clear c;apply WH func167;go_wp2_with fail;apply Z9 (k.o _) (λ_ d=>u.o.aA d);intro w1 q;exact WD q
 |false=> rw[c]at k;generalize decide s.share.May=r at z|-;unfold Fb;clear c;apply WH func167;go_wp2_with fail;apply Zz (k.o _);intro w1 d;have V:=(I.o.aB d).cells;have q:=O (u.o.aA d);clear d;go_wp2_with fail;apply Z9 (z.o _) (λ_ B=>q.o.aA B);intro w2 E;go_wp2;go_ret;exact⟨by simp,E.o⟩
section
variable{X:Type}{key:X->Int}{Is Is':World->Fp->Nat->X->Prop}{w w':World}{F:Fp}{m:Nat}{ad:Int->Nat}{l:List X}
theorem Yn.imp(h:Yn key Is w F m ad l)(u:∀x∈l,∀G,Is w G (ad (key x)) x->Is' w G (ad (key x)) x):Yn key Is' w F m ad l:=by obtain⟨G,d,k,q⟩:=h.ex;exact⟨h.map,h.bd,h.at_,G,λx c=>u x c _ (d x c),k,q⟩
end
section
variable{A:Dz}{w:World}{F:Fp}{b:Nat}{p:Qe}{N:Nat}{dep:Int->Nat}
def Dz.put(A:Dz)(i:Int)(c:Nat)(vb:Value)(pf pt:Nat):Dz:=⟨A.m,λj=>if j=i then c else A.ad j,λj=>if j=i then vb else A.vl j,λj=>if j=i then pf else A.pf j,λj=>if j=i then pt else A.pt j⟩
theorem Qgu{i:Int}{d k q:Nat}{u:Value}{c:Qx}(h:c.id≠i):Sy (A.put i d u k q) c=Sy A c:=by unfold Sy Dz.put;simp only[h,if_false]
theorem Qaa{w0 w1 w2 w3:World}(h:w1.heap.size<=w2.heap.size):Jl (Qn Qb w0 w1) (Qn Qb w2 w3):=λk a b=>by have:=((Qr k).1 a).2;have:=((Qr k).1 b).1;omega
theorem G5{w0 w1 w2 w3:World}(c:w0.heap.size<=w1.heap.size)(d:w2.heap.size<=w3.heap.size):∀k,Qn Qb w1 w2 k->Qn Qb w0 w3 k:=λk a=>by have:=(Qr k).1 a;exact(Qr k).2 ⟨by omega,by omega⟩
theorem Td(w0 w1):Bd (Qn Qb w0 w1) w1:=λk c=>((Qr k).1 c).2
theorem Qtf{w0 w1 w2 w3 w4}{x:Qx}{c:Nat}{d q:Nat}(Z:Qc Qb w0 w1)(U:Qc Qb w1 w2)(R:Qc Qb w2 w3)(E:Qc Qb w3 w4)
  (hl:Ho w1 (Qn Qb w0 w1) c x.limit)(hf:J0 w2 (Qn Qb w1 w2) d x.mem)(ht:Jg w3 (Qn Qb w2 w3) q x.tree)(V:Qh w4 w3.heap.size (Pn x (ptr c) d q) 147):
  Um (A.put x.id w3.heap.size (ptr c) d q) w4 (Qn Qb w0 w4) w3.heap.size x:=by
 have s1:=Z.size;have s2:=U.size;have s3:=R.size;have I:=E.size;have Xg:=V.lt;refine⟨by simp[Dz.put],?_⟩;have e1:(A.put x.id w3.heap.size (ptr c) d q).ad x.id=w3.heap.size:=by simp[Dz.put]
 have e2:(A.put x.id w3.heap.size (ptr c) d q).vl x.id=ptr c:=by simp[Dz.put]
 have e3:(A.put x.id w3.heap.size (ptr c) d q).pf x.id=d:=by simp[Dz.put]
 have e4:(A.put x.id w3.heap.size (ptr c) d q).pt x.id=q:=by simp[Dz.put]
 unfold Sy;rw[e1,e2,e3,e4];have h1:Do (ptr c) x.limit w4 (Qn Qb w0 w1):=.inr ⟨c,rfl,Ho.obj.aB hl ((U.aA R).aA E) (Jl.none _)⟩;have h2:J0 w4 (Qn Qb w1 w2) d x.mem:=J0.obj.aB hf (R.aA E) (Jl.none _);have h3:Jg w4 (Qn Qb w2 w3) q x.tree:=Jg.obj.aB ht E (Jl.none _);have K:Bd (Qn Qb w0 w4) w4:=Td _ _;have J:Bd (Qn Qb w0 w3) w4:=λk u=>Nat.lt_of_lt_of_le (Td _ _ k u) I;have z:Bd (Qn Qb w1 w3) w4:=λk u=>Nat.lt_of_lt_of_le (Td _ _ k u) I;have B:Bd (Qn Qb w2 w3) w4:=λk u=>Nat.lt_of_lt_of_le (Td _ _ k u) I;refine Q7 (G:=λk=>k=w3.heap.size) (H:=Qn Qb w0 w3) ⟨V,rfl,λk e=>e▸Xg⟩ ?_ (λk e u=>by have:=Td _ _ k u;omega) (λk e=>(Qr k).2 ⟨by omega,by omega⟩) (G5 (Zv _) I) K;refine Q7 (G:=Qn Qb w0 w1) (H:=Qn Qb w1 w3) h1 ?_ (Qaa (Zv _)) (G5 (Zv _) (by omega)) (G5 s1 (Zv _)) J;exact Q7 (G:=Qn Qb w1 w2) (H:=Qn Qb w2 w3) h2 (Y6 h3 B) (Qaa (Zv _)) (G5 (Zv _) s3) (G5 s2 (Zv _)) z
theorem Qo.newC(h:Qo A w F b p){x:Qx}{c:Nat}{E:Value}{z B:Nat}(hn:p.at x.id=none){w4}(U:Qc Qb w w4)(hx:Um (A.put x.id c E z B) w4 (Qn Qb w w4) c x):
  ∃d,(Instr.mapUpdate 163 (.map (some A.m)) (ZI x.id) (ptr c)).run prog w4=.ok () d/\Qo (A.put x.id c E z B) d (Qn F w d) b (p++[x])/\Qc F w d/\Qc (λk=>k=A.m) w4 d:=by
 have ac:=(Qo.obj A).bd h;obtain⟨l,hp,hs⟩:=h;obtain⟨G,q,hG,_,J⟩:=Xv 1 (Vh A b l) rfl hs;obtain⟨d,K,ae,R⟩:=X6 (P:=prog) (q.map.aB U (λh=>h)) underlying163 underlying3 x.id (ptr c);have aa:=(q.aB (Um.obj A) U (Jl.none G)).imp (Is':=Um (A.put x.id c E z B)) (λy hy G' af=>by
  have I:y.id≠x.id:=λe=>by have Z:=Qe.at_of (p:=l) q.nodup hy;rw[Qe.at_eq hp q.nodup]at hn;rw[e]at Z;have:Qe.at l x.id=none:=hn;rw[Z]at this;cases this
  refine⟨?_,?_⟩;·show A.ad y.id=(if y.id=x.id then c else A.ad y.id);rw[if_neg I]
  .rw[Qgu I];exact af.2)
 have ab:=aa.put (Um.obj _) hx (λk a b'=>by
  have Z:=((Qr k).1 a).1;have:=ac k (hG k b');omega) (by rw[<-Qe.at_eq hp q.nodup];exact hn) ae R
 have V:Qc G w d:=(U.none (F:=G)).aA (R.sub λk u=>u▸q.at_);have h5:=J d (λw G=>Yn Qx.id (Um (A.put x.id c E z B)) w G (A.put x.id c E z B).m (A.put x.id c E z B).ad (l++[x])) V
  (ab.more (λk u=>u.elim .inl (λu=>.inr ⟨((Qr k).1 u).1,Nat.lt_of_lt_of_le ((Qr k).1 u).2 R.size⟩)) (q.bd.ext V))
 exact⟨d,K,⟨l++[x],hp.append_right _,h5⟩,V.sub hG,R⟩
end
section
variable{A:Dz}{w:World}{F:Fp}{b:Nat}{p:Qe}{N:Nat}{dep:Int->Nat}
def Yr(w:World)(F:Fp)(b:Nat)(p:Qe):Prop:=∃A,Qo A w F b p
theorem Yr.obj:Hf Yr where
 bd:=λ⟨A,h⟩=>(Qo.obj A).bd h
 own:=λ⟨A,h⟩=>(Qo.obj A).own h
 aB:=λ⟨A,h⟩d k=>⟨A,(Qo.obj A).aB h d k⟩
 more:=λ⟨A,h⟩q c=>⟨A,(Qo.obj A).more h q c⟩
theorem Qo.ne(h:Qo A w F b p):b≠A.m:=by obtain⟨l,B,z,G,H,c,⟨_,u,_,q,_,_,k,_⟩,d,_⟩:=h;rintro rfl;exact d _ c.2.1 (k _ q.at_)
theorem Qo.mlt(h:Qo A w F b p):F A.m:=by obtain⟨l,I,E,G,H,u,⟨_,q,_,k,_,_,c,_⟩,z,B,d⟩:=h;exact d _ (c _ k.at_)
theorem Qe.set_set(p:Qe){x y:Qx}(h:x.id=y.id):(p.set x).set y=p.set y:=by
 unfold Qe.set;rw[List.map_map];refine List.map_congr_left λz _=>?_;simp only[Function.comp];by_cases c:z.id=x.id;·rw[if_pos c,if_pos h,if_pos (c.trans h)]
 .rw[if_neg c]
theorem Qep{x:Qx}{i:Int}{q:Qx}(h:p.at i=some q):Qe.at (p++[x]) i=some q:=by unfold Qe.at at*;rw[List.find?_append,h];rfl
def Y0(s:Yk):Qx:=⟨s.id,s.par,s.leaf,s.aJ,0,Ha s.aN,⟨[],0⟩,[],0⟩
theorem Qlr{s:Yk}{q:Qx}(u:1<=s.id)(d:p.at s.id=none)(k:p.at s.par=some q)(c:q.leaf=false):
  p.put s=Qe.set (p++[Y0 s]) {q with mem:=if s.aJ then q.mem.add s.id s.share else q.mem,aM:=q.aM+1}:=by
 unfold Qe.put;rw[k];dsimp only;rw[d,c];have:¬s.id<1:=by omega
 simp[this,Y0]
theorem Qpl(h:Qo A w F b p)(s:Yk)(h1:1<=s.id)(hn:p.at s.id=none){q:Qx}(hq:p.at s.par=some q)(hl:q.leaf=false)(ce:q.aM<=65536):
  ZW 103 #[ptr b,Fb s] w (.bool true) λw'=>Yr w' (Qn F w w') b (p.put s)/\Qc F w w':=by
 have K:=(Qo.obj A).bd h;obtain⟨W,hW⟩:=Zx (w.alloc (.cells (Z4 s.leaf s) 29));have S0:Hi (Xx W w.heap.size s):=O (by rw[hW];exact Xx.new w s);have C0:Hi (Qc Qb w W):=O (by rw[hW];exact(Zg _ _).alloc _);have hP:=(Qo.obj A).aB h C0.o (Jl.none F);have al:=O (Hw hP s.par);rw[Xz hq]at al;have am:=O (Hw hP s.id);rw[Ep hn]at am;obtain⟨q0,q1,q2,q3,q4,q5,q6,q7⟩:=Ja (hP.cell hq);rw[hl]at q1;obtain⟨a0,a1,a2,a3,a4,a5,a6,a7,a8,a9,bk,bl,bm,bo⟩:=(show Xx (w.alloc _) _ _ from hW▸S0.o).cells;have Xg:¬s.id<1:=by omega
 have ap:=O (λw=>Ns s w);have bf:=O (λw=>Qdj s.aN w);have bb:=O hP.blk;have bu:=O hP.ne;have ay:Hi (w.heap.size≠A.m):=O (λe=>by have:=K _ h.mlt;omega);obtain⟨az,I⟩:=Zx (p.put s);rw[<-I];rw[Qlr h1 hn hq hl]at I;have af:=O I;clear I;have bi:=O Qei;have ba:=O Bw;have bj:Hi (∀w0 w1 w2 w3 w4 vb pf pt,Qc Qb W w0->Qc Qb w0 w1->Qc Qb w1 w2->Qc Qb w2 w3->Ho w1 (Qn Qb w0 w1) vb (Ha s.aN)->J0 w2 (Qn Qb w1 w2) pf ⟨[],0⟩->Jg w3 (Qn Qb w2 w3) pt []->
   w4=w3.alloc (.cells #[ZI s.par,.bool s.leaf,.bool s.aJ,ZU 0,ptr vb,ptr pf,ptr pt,ZI 0] 147)->
   ∃w5 J,(Instr.mapUpdate 163 (.map (some A.m)) (ZI s.id) (ZP w3.heap.size)).run prog w4=.ok () w5/\Qo J w5 (Qn F W w5) b (p++[Y0 s])/\Qc F W w5/\J.ad s.par=A.ad s.par/\J.pf s.par=A.pf s.par):=O (by
  rintro w0 w1 w2 w3 w4 vb pf pt c0 c1 c2 c3 hL hF hT rfl;have c4:Qc Qb w3 (w3.alloc (.cells #[ZI s.par,.bool s.leaf,.bool s.aJ,ZU 0,ptr vb,ptr pf,ptr pt,ZI 0] 147)):=(Zg _ _).alloc _;have hx:=Qtf (A:=A) (x:=Y0 s) c1 c2 c3 c4 hL hF hT (Qh.new _ _ _);have cW:Qc Qb W (w3.alloc (.cells #[ZI s.par,.bool s.leaf,.bool s.aJ,ZU 0,ptr vb,ptr pf,ptr pt,ZI 0] 147)):=(((c0.aA c1).aA c2).aA c3).aA c4;have bz:=(Um.obj _).more hx (G5 c0.size (Zv _)) (Td _ _);obtain⟨w5,r1,r2,r3,r4⟩:=hP.newC (x:=Y0 s) hn cW bz;have aw:s.par≠s.id:=λe=>by rw[e]at hq;rw[hq]at hn;cases hn
  exact⟨w5,_,r1,r2,r3,by simp[Dz.put,Y0,aw],by simp[Dz.put,Y0,aw]⟩)
 have R:Qe.at (p++[Y0 s]) s.par=some q:=Qep hq;unfold Fb ptr at*;clear h hP hl;apply WH func103;go_wp2_with fail;rw[<-hW]at a0 a1 a2 a3 a4 a5 a6 a7 a8 a9 bk bl bm bo|-;clear hW;apply Zy al;rintro w1 rfl;go_wp2_with fail;apply Zy am;rintro w1 rfl;go_wp2_with fail;apply YC [100,101,102,103,104,105,106,107,108,109,10,112,113,211,214,215,216,17,218,319] (λk=>k=A.m) W;iterate 3 (refine Qy (h:=?_);try simp only[Act.put,Za,Zc,Zb])
 iterate 7 (apply YK λwv hv=>Zt (Jf (hv.blk bb.o bu.o)) ((show Xx wv w.heap.size s from (hv.blk S0.o ay.o)).cells))
 have b0:=(show Xx W.drew w.heap.size s from S0.o.aB (Zg _ _).drew).cells;refine Xe (h:=?_);clear b0;iterate 2 (apply YK λwv hv=>(show Xx wv w.heap.size s from (hv.blk S0.o ay.o)).cells)
 refine Yb ?_;go_wp2_with fail;apply Z9 (ap.o _) (λ_ c0=>c0.aT);intro w0 D0;go_wp2_with fail;refine⟨D0.o.none,?_⟩;refine Yb ?_;go_wp2_with fail;refine(bf.o _).mono ?_;rintro e w1⟨vb,rfl,hL,c1⟩;have E1:=O c1;have D1:=O (D0.o.aA c1);have be:=O hL;clear c1 hL;go_wp2_with fail;refine⟨D1.o.none,?_⟩;refine Yb ?_;go_wp2_with fail;refine(bi.o _).mono ?_;rintro e w2⟨pf,rfl,hF,c2⟩;have E2:=O c2;have D2:=O (D1.o.aA c2);have bc:=O hF;clear c2 hF;go_wp2_with fail;refine⟨D2.o.none,?_⟩;refine Yb ?_;go_wp2_with fail;refine(ba.o _).mono ?_;rintro e w3⟨pt,rfl,hT,c3⟩;have E3:=O c3;have D3:=O (D2.o.aA c3);have bh:=O hT;have NN:=O (bj.o w0 w1 w2 w3 _ vb pf pt D0.o E1.o E2.o E3.o be.o bc.o bh.o rfl);clear c3 hT;go_wp2_with fail;refine⟨D3.o.none,?_⟩;apply YA 0;go_wp2_with fail;refine⟨D3.o.none.alloc _,?_⟩;obtain⟨w5,J,bw,aq,au,ar,ax⟩:=NN.o;have bg:=O aq;have an:=O au;have u:=O (Zt ar ax);clear aq au ar ax;apply YI 0;clear bw;have S5:=O (an.o.blk S0.o (λhk=>by have:=K _ hk;omega));have b0:=(show Xx w5 w.heap.size s from S5.o).cells;go_wp2_with fail;apply Zz (ap.o _);intro w6 c6;have d:=(Qo.obj J).same bg.o c6;obtain⟨d,ae⟩:=(Qo.obj J).two d.1 (K.later C0.o) an.o d.2;have ag:Hi (∀V P' q',Qo J V (Qn F W V) b P'->Qc F W V->P'.at s.par=some q'->q'.aM=q.aM->∀w8,w8=V.setCell ⟨A.ad s.par,7,none⟩ (ZI ((q.aM:Int)+1))->Yr w8 (Qn F w w8) b (P'.set {q' with aM:=q.aM+1})/\Qc F w w8):=O (by
  rintro V P' q' h7 bp U hu w8 rfl;obtain⟨bv,av⟩:=Qe.aE U;have E:=h7.cell U;have e0:J.ad q'.id=A.ad s.par:=by rw[av];exact u.o.1
  obtain⟨k1,k2⟩:=h7.setC (c:=q') (c':={q' with aM:=q.aM+1}) bv rfl rfl rfl rfl
   (by rw[e0];exact(Zg (λk=>k=A.ad s.par) V).setCell (a:=⟨A.ad s.par,7,none⟩) (ZI ((q.aM:Int)+1)) (.inl rfl))
   (by rw[av,u.o.1];rw[u.o.1]at E;exact E.set' 7 (ZI ((q.aM:Int)+1)) rfl)
  obtain⟨m1,m2⟩:=(Qo.obj J).two k1 (K.later C0.o) bp k2;have c8:Qc F w (V.setCell ⟨A.ad s.par,7,none⟩ (ZI ((q.aM:Int)+1))):=C0.o.none.aA m2;exact⟨⟨J,(Qo.obj J).more m1 (Ke C0.o.size) (K.ext c8)⟩,c8⟩)
 have ew:IntKind.i64.wrap ((q.aM:Int)+1)=(q.aM:Int)+1:=by rw[IntWalk.i64_in _ (by omega)]
 rcases Bool.eq_false_or_eq_true s.aJ with B|B
 .have z:=d.drew.cell R;rw[u.o.1,u.o.2]at z;have e5:=Ja z;have ah:s.share.May:=by unfold Yk.aJ at B;simp only[Zw,decide_eq_true_eq]at B;exact B.2
  have bd:Hi (Cl 169 #[ptr (A.pf s.par),ZI s.id,cV s.share] w6.drew λe w'=>(∃r,e=.returned (.bool r))/\Qo J w' (Qn F W w') b ((p++[Y0 s]).set {q with mem:=q.mem.add s.id s.share})/\Qc F W w'):=O (by
   obtain⟨G,hF,_,ai⟩:=d.drew.famAt R;rw[u.o.2]at hF ai;refine(Qeh hF s.id s.share ah).mono ?_;rintro e V⟨hr,hf,c7⟩;obtain⟨m1,m2⟩:=ai _ V _ (Zg Qb _) hf c7;obtain⟨n1,n2⟩:=(Qo.obj J).two (w1:=w6) m1 (K.later C0.o) ae m2.aT;exact⟨hr,n1,n2⟩)
  have ak:=(Qe.aE R).2;have U:((p++[Y0 s]).set {q with mem:=q.mem.add s.id s.share}).at s.par=some {q with mem:=q.mem.add s.id s.share}:=by have:=Hq (p:=p++[Y0 s]) (x:={q with mem:=q.mem.add s.id s.share}) (y:=q) (by show Qe.at _ q.id=_;rw[ak];exact R);rw[<-ak];exact this
  have ao:=O U;have SS:=O (Qe.set_set (p++[Y0 s]) (x:={q with mem:=q.mem.add s.id s.share}) (y:={q with mem:=q.mem.add s.id s.share,aM:=q.aM+1}) rfl);have aj:Hi (az=((p++[Y0 s]).set {q with mem:=q.mem.add s.id s.share}).set {q with mem:=q.mem.add s.id s.share,aM:=q.aM+1}):=O (by rw[af.o,if_pos B];exact SS.o.symm);have g0:=(show Xx w6.drew w.heap.size s from c6.drew.blk S5.o (λh=>h)).cells;unfold ptr cV at*;clear d ae z ah ak U b0 c6;rw[B];go_wp2_with fail;apply XB 200000000;apply YA 0;clear g0 e5;go_wp2_with fail;apply Zo bd;rintro e V⟨⟨r,rfl⟩,h7,c7⟩;have E:=h7.cell ao.o;rw[u.o.1]at E;have e7:=Ja E;have z7:=E.frozen 7;have FF:=O (ag.o V _ _ h7 c7 ao.o rfl _ rfl);clear h7 c7 E;go_wp2_with fail;refine Jo ?_;go_wp2_with fail;go_ret;exact⟨rfl,by rw[aj.o];exact FF.o⟩
 .have z:=d.cell R;rw[u.o.1]at z;have e7:=Ja z;have z7:=z.frozen 7;have FF:=O (ag.o w6 _ q d ae R rfl _ rfl);have aj:Hi (az=(p++[Y0 s]).set {q with aM:=q.aM+1}):=O (by rw[af.o,if_neg (by rw[B];decide)]);rw[B];clear d ae c6 z b0;go_wp2_with fail;go_ret;exact⟨rfl,by rw[aj.o];exact FF.o⟩
end
section
variable{A:Dz}{w:World}{F:Fp}{b:Nat}{p:Qe}{N:Nat}{dep:Int->Nat}
theorem Qo.delC(h:Qo A w F b p)(i:Int)(I ty:TypeId):
  ∃w',(Builtin.delete_ #[163,I] ty #[.map (some A.m),ZI i]).run prog w=.ok (.tuple #[]) w'/\Qo A w' (Qn F w w') b (p.filter λx=>!decide (x.id=i))/\Qc F w w':=by
 obtain⟨l,R,U⟩:=h;obtain⟨G,u,K,_,d⟩:=Xv 1 (Vh A b l) rfl U;obtain⟨w',q,E,c⟩:=Di (P:=prog) u.map underlying163 underlying3 I ty i;have z:Qc G w w':=c.sub λk B=>B▸u.at_;have J:Yn Qx.id (Um A) w' (Qn G w w') A.m A.ad (Kp Qx.id i l):=(u.del (Um.obj A) i E c).more (λk B=>.inl B) (u.bd.ext z);exact⟨w',q,⟨Kp Qx.id i l,R.filter _,d w' (λw G=>Yn Qx.id (Um A) w G A.m A.ad (Kp Qx.id i l)) z J⟩,z.sub K⟩
theorem drop_eq{i:Int}{c q:Qx}(d:1<=i)(k:p.at i=some c)(z:c.aM=0)(ha:p.aL i=false)(u:p.at c.par=some q):
  p.drop i=(p.set {q with mem:=q.mem.drop i,aM:=q.aM-1}).filter λx=>!decide (x.id=i):=by unfold Qe.drop at*;simp_all;omega
theorem Qlj(h:Qo A w F b p)(I:Qs dep N p){i:Int}{c q:Qx}(h1:1<=i)(hc:p.at i=some c)(hu:c.aM=0)(ha:p.aL i=false)(E:p.at c.par=some q)(an:1<=q.aM):
  ZW 122 #[ptr b,ZI i] w (.bool true) λw'=>Qo A w' (Qn F w w') b (p.drop i)/\Qc F w w':=by
 have aa:=(Qo.obj A).bd h;have HA:=O (Hw h i);rw[Xz hc]at HA;have U:=O (Hx h I i);rw[ha]at U;have ae:=(I.ok q (Qe.aE E).1).aM;obtain⟨ak,d⟩:=Zx (p.drop i);rw[<-d];rw[drop_eq h1 hc hu ha E]at d;have V:=O d;obtain⟨_,c1,_,_,_,_,_,c7⟩:=Ja (h.cell hc);rw[hu]at c7;have Xg:¬i<1:=by omega
 have J:=(Qe.aE E).2;have ew:IntKind.i64.wrap ((q.aM:Int)-1)=((q.aM-1:Nat):Int):=by rw[IntWalk.i64_in _ (by omega)];omega
 have ag:Hi (∀w1,Qc Qb w w1->Cl 182 #[ptr (A.pf c.par),ZI i] w1 λe w'=>(∃r,e=.returned (.bool r))/\Qo A w' (Qn F w w') b (p.set {q with mem:=q.mem.drop i})/\Qc F w w'):=O (by
  intro w1 cc;obtain⟨G,hF,am,ac⟩:=h.famAt E;apply Zz (Qb3 (J0.obj.aB hF cc (Jl.none G)) i);rintro w2⟨hf,c2⟩;obtain⟨m1,m2⟩:=ac w1 w2 _ cc hf c2;exact⟨⟨_,rfl⟩,m1,m2⟩)
 have B:(p.set {q with mem:=q.mem.drop i}).at c.par=some {q with mem:=q.mem.drop i}:=by have:=Hq (p:=p) (x:={q with mem:=q.mem.drop i}) (y:=q) (by show p.at q.id=_;rw[J];exact E);rw[<-J];exact this
 have SS:=O (Qe.set_set p (x:={q with mem:=q.mem.drop i}) (y:={q with mem:=q.mem.drop i,aM:=q.aM-1}) rfl);have Z:Hi (∀w2,Qo A w2 (Qn F w w2) b (p.set {q with mem:=q.mem.drop i})->Qc F w w2->∀w3,w3=w2.setCell ⟨A.ad c.par,7,none⟩ (ZI ((q.aM-1:Nat):Int))->
   w3.cell? ⟨b,0,none⟩=some (.map (some A.m))/\∃K,(Builtin.delete_ #[163,3] 0 #[.map (some A.m),ZI i]).run prog w3=.ok (.tuple #[]) K/\Qo A K (Qn F w K) b ak/\Qc F w K):=O (by
  rintro w2 R ai w3 rfl;obtain⟨aj,ab⟩:=Qe.aE B;have z:=R.cell B;have e0:A.ad ({q with mem:=q.mem.drop i}:Qx).id=A.ad c.par:=by rw[ab]
  obtain⟨k1,k2⟩:=R.setC (c:={q with mem:=q.mem.drop i}) (c':={q with mem:=q.mem.drop i,aM:=q.aM-1}) aj rfl rfl rfl rfl
   (by rw[e0];exact(Zg (λk=>k=A.ad c.par) w2).setCell (a:=⟨A.ad c.par,7,none⟩) (ZI ((q.aM-1:Nat):Int)) (.inl rfl))
   (by rw[ab];exact z.set' 7 (ZI ((q.aM-1:Nat):Int)) rfl)
  obtain⟨m1,m2⟩:=(Qo.obj A).two k1 aa ai k2;refine⟨Jf m1.blk,?_⟩;obtain⟨K,af,h4,c4⟩:=m1.delC i 3 0;obtain⟨n1,n2⟩:=(Qo.obj A).two h4 aa m2 c4;refine⟨K,af,?_,n2⟩;rw[V.o,<-SS.o];exact n1)
 have ah:=O B;have HC:=O (h.cell hc);have HQ:=O (h.cell E);have HL:=O (λw'(cc:Qc Qb w w')=>((Qo.obj A).aB h cc (Jl.none F)).look1 c.par);rw[Xz E]at HL;have HB:=O h.blk;clear h I hc E hu ha d ae J B;apply WH func122;go_wp2_with fail;apply Zy HA;rintro w1 rfl;go_wp2_with fail;apply Zy U;intro w1 u;have C1:=O u;have d0:=Ja (u.drew.blk HC.o (λh=>h));have q5:=Ja (u.drew.blk HQ.o (λh=>h));have hL:=HL.o _ u.drew;have y0:=Jf (u.drew.blk HB.o (λh=>h));clear u c1 c7;go_wp2_with fail;apply XB 2000000000;apply YI 0;go_wp2_with fail;refine(ag.o _ C1.o.drew).mono ?_;rintro e w2⟨⟨r,rfl⟩,R,c2⟩;have z:=R.cell ah.o;have e7:=Ja z;have z7:=z.frozen 7;obtain⟨t0,K,al,h4,c4⟩:=Z.o w2 R c2 _ rfl;have H4:=O (Zt h4 c4);clear R c2 z h4 c4 d0 q5 hL y0;exact WD H4
end
section
variable{A:Dz}{w:World}{F:Fp}{b:Nat}{p:Qe}{N:Nat}{dep:Int->Nat}
def Dz.lim(A:Dz)(i:Int)(vb:Value):Dz:=⟨A.m,A.ad,λj=>if j=i then vb else A.vl j,A.pf,A.pt⟩
theorem Qq7{i:Int}{d:Value}{c:Qx}(h:c.id≠i):Sy (A.lim i d) c=Sy A c:=by unfold Sy Dz.lim;simp only[h,if_false]
theorem Qo.renewed(h:Qo A w F b p){c c':Qx}(hc:c∈p)(I:c'.id=c.id)(hm:c'.mem=c.mem)(ht:c'.tree=c.tree){w0 w1 w2}{E:Nat}(ab:Qc Qb w w0)(c1:Qc Qb w0 w1)(hl:Ho w1 (Qn Qb w0 w1) E c'.limit)
  (c2:Qc (λk=>k=A.ad c.id) w1 w2) (hb:Qh w2 (A.ad c.id) (Pn c' (ptr E) (A.pf c.id) (A.pt c.id)) 147):Qo (A.lim c.id (ptr E)) w2 (Qn F w w2) b (p.set c')/\Qc F w w2:=by
 have ao:=(Qo.obj A).bd h;obtain⟨l,hp,hs⟩:=h;obtain⟨H,R,h2,_,h3⟩:=Xv 1 (Vh A b l) rfl hs;have ai:c∈l:=hp.mem_iff.2 hc;obtain⟨G,k1,k2,k3⟩:=R.ex;have ae:=(k1 c ai).2;obtain⟨ah,G0,R0,g0,ak,d0,s0,s1⟩:=ae;obtain⟨_,G1,R1,g1,al,d1,s2,s3⟩:=ak;obtain⟨_,G2,R2,g2,am,d2,s4,s5⟩:=al;obtain⟨_,G3,R3,g3,_,d3,s6,_⟩:=am;have cc:Qc (G c.id) w w2:=(ab.none.aA c1.none).aA (c2.sub λk d=>d▸s0 _ g0.2.1);have cH:Qc H w w2:=cc.sub λk d=>(k2 _ k d).1;have u:Bd (G c.id) w:=ah;have cA:Qc Qb w w1:=ab.aA c1;have z1:=c1.size;have z2:=c2.size;have z0:=ab.size;have V:∀k,G2 k->k≠A.ad c.id:=λk d e=>d0 (A.ad c.id) g0.2.1 (s3 _ (s4 _ (e▸d)));have Z:∀k,G3 k->k≠A.ad c.id:=λk d e=>d0 (A.ad c.id) g0.2.1 (s3 _ (s5 _ (s6 _ (e▸d))));have z:∀k,G2 k->G c.id k:=λk d=>s1 _ (s3 _ (s4 _ d));have q:∀k,G3 k->G c.id k:=λk d=>s1 _ (s3 _ (s5 _ (s6 _ d)));have ag:A.ad c.id<w.heap.size:=u _ (s0 _ g0.2.1);have f2:J0 w2 G2 (A.pf c.id) c'.mem:=by rw[hm];exact J0.obj.aB (J0.obj.aB g2 cA (Jl.none _)) c2 (λk d e=>V k d e)
 have f3:Jg w2 G3 (A.pt c.id) c'.tree:=by rw[ht];exact Jg.obj.aB (Jg.obj.aB g3 cA (Jl.none _)) c2 (λk d e=>Z k d e)
 have f1:Do (ptr E) c'.limit w2 (Qn Qb w0 w1):=.inr ⟨E,rfl,Ho.obj.aB hl c2 (λk d e=>by have:=((Qr k).1 d).1;omega)⟩;have ac:Bd (Qn (G c.id) w w2) w2:=u.ext cc;have hX:Um (A.lim c.id (ptr E)) w2 (Qn (G c.id) w w2) (A.ad c.id) c':=by
  refine⟨by rw[I];rfl,?_⟩;have e2:(A.lim c.id (ptr E)).vl c'.id=ptr E:=by simp[Dz.lim,I]
  unfold Sy;rw[e2];show Oh [Tv (A.ad c'.id) (Pn c' (ptr E) (A.pf c'.id) (A.pt c'.id)) 147,Do (ptr E) c'.limit,λw F=>J0 w F (A.pf c'.id) c'.mem,λw F=>Jg w F (A.pt c'.id) c'.tree] w2 _;rw[I];have aa:∀{U:Fp},(∀k,U k->Qn (G c.id) w w2 k)->Bd U w2:=λhU=>ac.sub hU;have u1:∀k,Qn Qb w0 w1 k->Qn (G c.id) w w2 k:=λk d=>.inr ⟨by have:=((Qr k).1 d).1;omega,by have:=((Qr k).1 d).2;omega⟩;refine Q7 (G:=λk=>k=A.ad c.id) (H:=λk=>Qn Qb w0 w1 k\/G2 k\/G3 k) ⟨hb,rfl,λk e=>e▸hb.lt⟩ ?_ ?_ (λk e=>e▸ .inl (s0 _ g0.2.1)) ?_ ac
  .refine Q7 (G:=Qn Qb w0 w1) (H:=λk=>G2 k\/G3 k) f1 ?_ ?_ (λk d=>.inl d) (λk d=>.inr d) (aa λk d=>d.elim (u1 k) (λd=>d.elim (λd=>.inl (z k d)) (λd=>.inl (q k d))));·refine Q7 (G:=G2) (H:=G3) f2 (Y6 f3 (aa λk d=>.inl (q k d))) (λk a b=>d2 k a (s6 _ b)) (λk d=>.inl d) (λk d=>.inr d) (aa λk d=>d.elim (λd=>.inl (z k d)) (λd=>.inl (q k d)))
   .intro k d J;have:=((Qr k).1 d).1;rcases J with J|J;·have:=u k (z k J);omega
    .have:=u k (q k J);omega
  .rintro k rfl d;rcases d with d|d|d;·have:=((Qr _).1 d).1;omega
   .exact V _ d rfl
   .exact Z _ d rfl
  .intro k d;rcases d with d|d|d;·exact u1 k d
   .exact .inl (z k d)
   .exact .inl (q k d)
 have an:=R.map.lt;have hC:Yn Qx.id (Um (A.lim c.id (ptr E))) w2 (Qn H w w2) A.m A.ad (Lg Qx.id c' l):=by
  refine⟨?_,R.bd.ext cH,.inl R.at_,λi=>if i=c.id then Qn (G c.id) w w2 else G i,?_,?_,?_⟩;·rw[Qcy];exact R.map.aB cc λB=>(k2 _ _ B).2 rfl
  .intro y hy;rcases Qao (x:=c) R.nodup hy with rfl|⟨hy,aj⟩;·dsimp only;rw[I,if_pos rfl];exact hX
   .dsimp only;have K:y.id≠c.id:=by rw[<-I];exact aj
    rw[if_neg K];have af:=(Um.obj A).aB (k1 y hy) cc (λk a b=>K (k3 _ _ k a b));exact⟨af.1,by rw[Qq7 K];exact af.2⟩
  .intro i k B;try dsimp only at B
   split at B
   .rcases B with B|B;·exact⟨.inl (k2 _ k B).1,(k2 _ k B).2⟩
    .exact⟨.inr B,by omega⟩
   .exact⟨.inl (k2 i k B).1,(k2 i k B).2⟩
  .intro i j k a b;try dsimp only at a b
   split at a<;>split at b;·rename_i e1 e2;rw[e1,e2]
   .rename_i e1 e2;rcases a with a|a;·rw[e1];exact k3 _ _ k a b
    .have:=R.bd k (k2 j k b).1;omega
   .rename_i e1 e2;rcases b with b|b;·rw[e2];exact k3 _ _ k a b
    .have:=R.bd k (k2 i k a).1;omega
   .exact k3 _ _ k a b
 have e3:=h3 w2 (λw G=>Yn Qx.id (Um (A.lim c.id (ptr E))) w G A.m A.ad (Lg Qx.id c' l)) cH hC;exact⟨⟨Lg Qx.id c' l,hp.map _,e3⟩,cH.sub h2⟩
theorem map_set{i:Int}{c:Qx}{g:Qx->Qx}(z:(p.map Qx.id).Nodup)(q:p.at i=some c)(u:(g c).id=c.id):(p.map λx=>if x.id=i then g x else x)=p.set (g c):=by
 obtain⟨E,d⟩:=Qe.aE q;unfold Qe.set;refine List.map_congr_left λx B=>?_;rw[u,d];by_cases e:x.id=i;·rw[if_pos e,if_pos e];have k:=Qe.at_of z B;rw[e,q]at k;rw[Zs k]
 .rw[if_neg e,if_neg e]
theorem Qso{x y:Qx}(h:x.id≠y.id):(p.set x).set y=(p.set y).set x:=by
 unfold Qe.set;rw[List.map_map,List.map_map];refine List.map_congr_left λz _=>?_;simp only[Function.comp];by_cases c:z.id=x.id;·rw[if_pos c,if_neg h,if_neg (λe=>h (c.symm.trans e)),if_pos c]
 .rw[if_neg c];by_cases d:z.id=y.id;·rw[if_pos d,if_neg (λe=>h e.symm)]
  .rw[if_neg d,if_neg c]
def Uk(c:Qx)(s:Yk):Qx:={c with aJ:=s.aJ,total:=0,limit:=Ha s.aN}
theorem Qbf{s:Yk}{c q:Qx}(u:Qs dep N p)(J:1<=s.id)(d:p.at s.id=some c)(ha:p.aL s.id=false)(E:p.at c.par=some q):
  p.aK s=if s.aJ then((p.set {q with mem:=q.mem.drop s.id}).set (Uk c s)).set {q with mem:=(q.mem.drop s.id).add s.id s.share}else(p.set {q with mem:=q.mem.drop s.id}).set (Uk c s):=by
 obtain⟨k,I⟩:=u.pid d (by omega) E;have B:=(Qe.aE d).2;have key:∀f:Jc->Jc,((p.fam s.id f).map λx=>if x.id=s.id then{x with aJ:=s.aJ,total:=0,limit:=Ha s.aN}else x)=(p.set {q with mem:=f q.mem}).set (Uk c s):=λf=>by rw[Py d E];have z:(p.set {q with mem:=f q.mem}).at s.id=some c:=(V5 (x:={q with mem:=f q.mem}) (show s.id≠q.id from λe=>k e.symm)).trans d;exact map_set (g:=λx=>{x with aJ:=s.aJ,total:=0,limit:=Ha s.aN}) (by rw[Qns];exact u.nd) z rfl
 have e:p.aK s=((p.fam s.id λf=>if s.aJ then(f.drop s.id).add s.id s.share else f.drop s.id).map λx=>if x.id=s.id then{x with aJ:=s.aJ,total:=0,limit:=Ha s.aN}else x):=by
  unfold Qe.aK;rw[d];dsimp only;rw[ha];have:¬s.id<1:=by omega
  simp[this]
 rw[e,key];cases K:s.aJ with
 |false=>simp
 |true=> simp only[if_true];rw[<-Qso (p:=p.set {q with mem:=q.mem.drop s.id}) (x:={q with mem:=(q.mem.drop s.id).add s.id s.share}) (y:=Uk c s) (show q.id≠c.id from by rw[B];exact k)];rw[Qe.set_set p (x:={q with mem:=q.mem.drop s.id}) (y:={q with mem:=(q.mem.drop s.id).add s.id s.share}) rfl]
end
section
variable{A:Dz}{w:World}{F:Fp}{b:Nat}{p:Qe}{N:Nat}{dep:Int->Nat}
theorem Qii(h:Qo A w F b p)(ac:Qs dep N p)(s:Yk){c q:Qx}(h1:1<=s.id)(hc:p.at s.id=some c)(ha:p.aL s.id=false)(hq:p.at c.par=some q):
  ZW 120 #[ptr b,Fb s] w (.bool true) λw'=>Yr w' (Qn F w w') b (p.aK s)/\Qc F w w':=by
 have al:=(Qo.obj A).bd h;obtain⟨W,hW⟩:=Zx (w.alloc (.cells (Z4 s.leaf s) 29));have S0:Hi (Xx W w.heap.size s):=O (by rw[hW];exact Xx.new w s);have C0:Hi (Qc Qb w W):=O (by rw[hW];exact(Zg _ _).alloc _);have hP:=(Qo.obj A).aB h C0.o (Jl.none F);have av:=(Qo.obj A).bd hP;have HA:=O (Hw hP s.id);rw[Xz hc]at HA;have an:=O (Hx hP ac s.id);rw[ha]at an;obtain⟨a0,a1,a2,a3,a4,a5,a6,a7,a8,a9,ap,aq,ar,au⟩:=(show Xx (w.alloc _) _ _ from hW▸S0.o).cells;have Xg:¬s.id<1:=by omega
 have bj:=O (λw=>Ns s w);have bh:=O (λw=>Qdj s.aN w);obtain⟨bp,E⟩:=Zx (p.aK s);rw[<-E];rw[Qbf ac h1 hc ha hq]at E;have ah:=O E;obtain⟨am,ae⟩:=ac.pid hc (by omega) hq;obtain⟨ax,I⟩:=Qe.aE hc;have bg:Hi (∀w1,Qc Qb W w1->Cl 182 #[ptr (A.pf c.par),ZI s.id] w1 λe w'=>(∃r,e=.returned (.bool r))/\Qo A w' (Qn F W w') b (p.set {q with mem:=q.mem.drop s.id})/\Qc F W w'):=O (by
  intro w1 cc;obtain⟨G,hF,bo,R⟩:=hP.famAt hq;apply Zz (Qb3 (J0.obj.aB hF cc (Jl.none G)) s.id);rintro w2⟨hf,c2⟩;obtain⟨m1,m2⟩:=R w1 w2 _ cc hf c2;exact⟨⟨_,rfl⟩,m1,m2⟩)
 have ab:(p.set {q with mem:=q.mem.drop s.id}).at s.id=some c:=(V5 (x:={q with mem:=q.mem.drop s.id}) (show s.id≠q.id from λe=>am e.symm)).trans hc;have ba:(p.set {q with mem:=q.mem.drop s.id}).at c.par=some {q with mem:=q.mem.drop s.id}:=by have:=Hq (p:=p) (x:={q with mem:=q.mem.drop s.id}) (y:=q) (by show p.at q.id=_;rw[ae];exact hq);rw[<-ae];exact this
 have bb:((p.set {q with mem:=q.mem.drop s.id}).set (Uk c s)).at c.par=some {q with mem:=q.mem.drop s.id}:=(V5 (x:=Uk c s) (show c.par≠c.id from λe=>am (by rw[ae,e,I]))).trans ba;have ai:F (A.ad s.id):=by obtain⟨G,g1,g2,_⟩:=hP.part ax 0 rfl;rw[<-I];exact g2 _ g1.2.1
 have bm:Hi (w.heap.size≠A.ad s.id):=O (λe=>by have:=al _ ai;omega);have nF:¬F w.heap.size:=λhk=>by have:=al _ hk;omega
 have NF:=O nF;have bk:Hi (∀w2 w3 w4 u,Qo A w2 (Qn F W w2) b (p.set {q with mem:=q.mem.drop s.id})->Qc F W w2->Qc Qb w2 w3->Qc Qb w3 w4->Ho w4 (Qn Qb w3 w4) u (Ha s.aN)->∀d,d=((w4.setCell ⟨A.ad s.id,2,none⟩ (.bool s.aJ)).setCell ⟨A.ad s.id,3,none⟩ (ZU 0)).setCell ⟨A.ad s.id,4,none⟩ (ptr u)->
   Qo (A.lim s.id (ptr u)) d (Qn F W d) b ((p.set {q with mem:=q.mem.drop s.id}).set (Uk c s))/\Qc F W d):=O (by
  rintro w2 w3 w4 u h2 bl c3 c4 hL d rfl;have K:=c4.blk (c3.blk (h2.cell ab) (λh=>h)) (λh=>h);have ay:=(Qe.aE ab).1;have r:=h2.renewed (c:=c) (c':=Uk c s) ay rfl rfl rfl c3 c4 hL (w2:=((w4.setCell ⟨A.ad s.id,2,none⟩ (.bool s.aJ)).setCell ⟨A.ad s.id,3,none⟩ (ZU 0)).setCell ⟨A.ad s.id,4,none⟩ (ptr u))
   (by rw[I];exact(((Zg (λk=>k=A.ad s.id) w4).setCell (a:=⟨A.ad s.id,2,none⟩) _ (.inl rfl)).setCell (a:=⟨A.ad s.id,3,none⟩) _ (.inl rfl)).setCell (a:=⟨A.ad s.id,4,none⟩) _ (.inl rfl))
   (by rw[I];exact((K.set' 2 (.bool s.aJ) rfl).set' 3 (ZU 0) rfl).set' 4 (ptr u) rfl)
  rw[I]at r;obtain⟨r1,r2⟩:=r;exact(Qo.obj _).two r1 av bl r2)
 have ag:Hi (∀A' w' p',Qo A' w' (Qn F W w') b p'->Qc F W w'->Yr w' (Qn F w w') b p'/\Qc F w w'):=O (λA' w' p' h' c'=>by
  have c2:Qc F w w':=C0.o.none.aA c';exact⟨⟨A',(Qo.obj A').more h' (Ke C0.o.size) (al.ext c2)⟩,c2⟩)
 have HC:=O (hP.cell hc);have HQ:=O (hP.cell hq);have HL:=O (λw'(cc:Qc Qb W w')=>((Qo.obj A).aB hP cc (Jl.none F)).look1 c.par);rw[Xz hq]at HL;have HB:=O hP.blk;have bd:=O ab;have bi:=O bb;have bc:=O av;have bf:Hi (s.aJ=true->∀d u,Qo (A.lim s.id (ptr u)) d (Qn F W d) b ((p.set {q with mem:=q.mem.drop s.id}).set (Uk c s))->Qc F W d->Cl 169 #[ptr (A.pf c.par),ZI s.id,cV s.share] d λe w'=>(∃r,e=.returned (.bool r))/\Qo (A.lim s.id (ptr u)) w' (Qn F W w') b (((p.set {q with mem:=q.mem.drop s.id}).set (Uk c s)).set {q with mem:=(q.mem.drop s.id).add s.id s.share})/\Qc F W w'):=O (by
  intro hs d u h5 c5;have az:s.share.May:=by unfold Yk.aJ at hs;simp only[Zw,decide_eq_true_eq]at hs;exact hs.2
  obtain⟨G,hF,_,R⟩:=h5.famAt bi.o;refine(Qeh hF s.id s.share az).mono ?_;rintro e w7⟨hr,hf,c7⟩;obtain⟨m1,m2⟩:=R _ w7 _ (Zg Qb _) hf c7;obtain⟨n1,n2⟩:=(Qo.obj _).two m1 bc.o c5 m2;exact⟨hr,n1,n2⟩)
 unfold Fb ptr cV at*;clear h hP ac hc hq ha E ae I ax ab ba bb am nF ai;apply WH func120;go_wp2_with fail;rw[<-hW]at a0 a1 a2 a3 a4 a5 a6 a7 a8 a9 ap aq ar au|-;clear hW;apply Zy HA;rintro w1 rfl;go_wp2_with fail;apply Zy an;intro w1 z;have C1:=O z;have d0:=Ja (z.drew.blk HC.o (λh=>h));have q5:=Ja (z.drew.blk HQ.o (λh=>h));have hL:=HL.o _ z.drew;have y0:=Jf (z.drew.blk HB.o (λh=>h));have z0:=(show Xx w1.drew w.heap.size s from z.drew.blk S0.o (λh=>h)).cells;clear z a0 a1 a2 a3 a4 a5 a6 a7 a8 a9 ap aq ar au;go_wp2_with fail;apply XB 2000000000000;apply YI 0;go_wp2_with fail;refine(bg.o _ C1.o.drew).mono ?_;rintro e w2⟨⟨r,rfl⟩,h2,c2⟩;have H2:=O (Zt h2 c2);have S2:=O (c2.blk S0.o NF.o);have ao:=O (h2.cell bd.o);clear h2 c2 d0 q5 hL y0 z0;have z0:=(show Xx w2.drew w.heap.size s from(Zg Qb w2).drew.blk S2.o (λh=>h)).cells;go_wp2_with fail;apply YC [100,101,102,3,105,106,204,207,8,9,210,11,12,213,14,15,316] (λk=>k=A.ad s.id) w2;iterate 3 (refine Qy (h:=?_);try simp only[Act.put,Za,Zc,Zb])
 refine Xe (h:=?_);(refine Qy (h:=?_);try simp only[Act.put,Za,Zc,Zb]);clear z0;iterate 1 (apply YK λwv hv=>(show Xx wv w.heap.size s from (hv.blk S2.o bm.o)).cells)
 refine Yb ?_;go_wp2_with fail;apply Z9 (bj.o _) (λ_ c3=>c3.aT);intro w3 D3;go_wp2_with fail;refine⟨D3.o.none,?_⟩;refine Yb ?_;go_wp2_with fail;refine(bh.o _).mono ?_;rintro e w4⟨u,rfl,aw,c4⟩;have D4:=O c4;have R5:=O (bk.o w2 w3 w4 u H2.o.1 H2.o.2 D3.o c4 aw _ rfl);have K:=c4.blk (D3.o.blk ao.o (λh=>h)) (λh=>h);have B4:=O K;have aj:=O (D3.o.aA c4);have z2:=K.frozen 2;have y2:=(Ja K).2.2.1;clear c4 aw;go_wp2_with fail;refine⟨aj.o.none,?_⟩;apply YA 0;go_wp2_with fail;refine⟨(aj.o.none (F:=λk=>k=A.ad s.id)).setCell (a:=⟨A.ad s.id,2,none⟩) _ (.inl rfl),?_⟩;have b5:=B4.o.set' 2 (.bool s.aJ) rfl;have z3:=b5.frozen 3;have y3:=(Ja b5).2.2.2.1;apply YA 0;go_wp2_with fail;refine⟨((aj.o.none (F:=λk=>k=A.ad s.id)).setCell (a:=⟨A.ad s.id,2,none⟩) _ (.inl rfl)).setCell (a:=⟨A.ad s.id,3,none⟩) _ (.inl rfl),?_⟩;have b6:=b5.set' 3 (ZU 0) rfl;have z4:=b6.frozen 4;have y4:=(Ja b6).2.2.2.2.1;apply YI 0;clear z2 y2 b5 z3 y3 b6 z4 y4;obtain⟨d,af⟩:=Zx (((w4.setCell ⟨A.ad s.id,2,none⟩ (.bool s.aJ)).setCell ⟨A.ad s.id,3,none⟩ (ZU 0)).setCell ⟨A.ad s.id,4,none⟩ (ZP u));have Q5:Hi (Qo (A.lim s.id (ZP u)) d (Qn F W d) b ((p.set {q with mem:=q.mem.drop s.id}).set (Uk c s))/\Qc F W d):=O (by rw[af];exact R5.o);have e2:d.cell? ⟨A.ad s.id,2,none⟩=some (.bool s.aJ):=by rw[af];exact(Ja (((B4.o.set' 2 (.bool s.aJ) rfl).set' 3 (ZU 0) rfl).set' 4 (ZP u) rfl)).2.2.1
 have S5:=O (Q5.o.2.blk S0.o NF.o);rw[<-af];clear af;rcases Bool.eq_false_or_eq_true s.aJ with J|J;·rw[J]at e2;have B:=ah.o;rw[if_pos J]at B;have ak:=O B;clear B;have be:=O (bf.o J d u Q5.o.1 Q5.o.2);have z0:=(show Xx d w.heap.size s from S5.o).cells;go_wp2_with fail;apply Zo be;rintro e w7⟨⟨r,rfl⟩,h7,c7⟩;have FF:=O (ag.o _ _ _ h7 c7);clear h7 c7;go_wp2;go_ret;exact⟨rfl,by rw[ak.o];exact FF.o⟩
 .rw[J]at e2;have B:=ah.o;rw[if_neg (by rw[J];decide)]at B;have ak:=O B;clear B;have FF:=O (ag.o _ _ _ Q5.o.1 Q5.o.2);go_wp2;go_ret;exact⟨rfl,by rw[ak.o];exact FF.o⟩
end
section
variable{A:Dz}{w:World}{F:Fp}{b:Nat}{p:Qe}{N:Nat}{dep:Int->Nat}
theorem Qkv(w):ZW 126 #[.pointer none] w (.pointer none) λw'=>Qc Qb w w':=by apply WH func126;go_wp2;go_ret;exact⟨rfl,Zg _ _⟩
theorem Qhr{v:Value}{l:Kg}{G:Fp}(h:Do v l w G)(k:∀r,l=some r->r.l.length<549755813888):
  Cl 126 #[v] w λe w'=>∃d,e=.returned d/\Do d l w' (Qn Qb w w')/\Qc Qb w w':=by
 rcases h with⟨rfl,rfl,u⟩|⟨q,rfl,h⟩;·apply Zz (Qkv w);intro w1 c;exact⟨_,rfl,.inl ⟨rfl,rfl,Td _ _⟩,c⟩
 .refine(Qku h k).mono ?_;rintro e w1⟨b',rfl,h',c⟩;exact⟨_,rfl,.inr ⟨b',rfl,h'⟩,c⟩
theorem Qq8{w0 w1 w2 w3 E B:World}{x:Qx}{z:Value}{d q:Nat}(c1:Qc Qb w1 w2)(V:Qc Qb w2 w3)(R:Qc Qb w3 E)(aa:w0.heap.size<w1.heap.size)(K:Qc (λk=>k=w0.heap.size) E B)
  (hl:Do z x.limit w2 (Qn Qb w1 w2)) (hf:J0 w3 (Qn Qb w2 w3) d x.mem) (ht:Jg E (Qn Qb w3 E) q x.tree) (Z:Qh B w0.heap.size (Pn x z d q) 147):
  Um (A.put x.id w0.heap.size z d q) B (Qn Qb w0 B) w0.heap.size x:=by
 have s1:=c1.size;have s2:=V.size;have s3:=R.size;have s5:=K.size;have Xg:=Z.lt;refine⟨by simp[Dz.put],?_⟩;have e1:(A.put x.id w0.heap.size z d q).ad x.id=w0.heap.size:=by simp[Dz.put]
 have e2:(A.put x.id w0.heap.size z d q).vl x.id=z:=by simp[Dz.put]
 have e3:(A.put x.id w0.heap.size z d q).pf x.id=d:=by simp[Dz.put]
 have e4:(A.put x.id w0.heap.size z d q).pt x.id=q:=by simp[Dz.put]
 unfold Sy;rw[e1,e2,e3,e4];have J:∀{u v:World},w1.heap.size<=u.heap.size->Jl (Qn Qb u v) (λk=>k=w0.heap.size):=λh k c e=>by have:=((Qr k).1 c).1;omega
 have h1:Do z x.limit B (Qn Qb w1 w2):=(Do.good _ _).aB ((Do.good _ _).aB hl (V.aA R) (Jl.none _)) K (J (Zv _));have h2:J0 B (Qn Qb w2 w3) d x.mem:=J0.obj.aB (J0.obj.aB hf R (Jl.none _)) K (J s1);have h3:Jg B (Qn Qb w3 E) q x.tree:=Jg.obj.aB ht K (J (by omega));have I:∀{U:Fp},(∀k,U k->k<B.heap.size)->Bd U B:=λh=>h;refine Q7 (G:=λk=>k=w0.heap.size) (H:=Qn Qb w1 E) ⟨Z,rfl,λk e=>e▸Xg⟩ ?_ (λk e c=>by have:=((Qr k).1 c).1;omega) (λk e=>(Qr k).2 ⟨by omega,by omega⟩) (G5 (by omega) s5) (Td _ _);refine Q7 (G:=Qn Qb w1 w2) (H:=Qn Qb w2 E) h1 ?_ (Qaa (Zv _)) (G5 (Zv _) (by omega)) (G5 s1 (Zv _)) (I λk c=>by have:=((Qr k).1 c).2;omega);exact Q7 (G:=Qn Qb w2 w3) (H:=Qn Qb w3 E) h2 (Y6 h3 (I λk c=>by have:=((Qr k).1 c).2;omega)) (Qaa (Zv _)) (G5 (Zv _) s3) (G5 s2 (Zv _)) (I λk c=>by have:=((Qr k).1 c).2;omega)
structure Qf9(A:Dz)(w:World)(l:List Qx)(b' m' r:Nat)(wr:World)(lm dn:List Qx):Prop where
 it:Kj wr A.m r (Xy Qx.id A.ad l) (Xy Qx.id A.ad lm)
 sub:lm.Sublist l
 perm:(dn++lm).Perm l
 chg:Qc Qb w wr
 blk:Qh wr b' #[.map (some m')] 165
 co:∃(A':Dz)(G:Fp),A'.m=m'/\Yn Qx.id (Um A') wr G m' A'.ad dn/\∀k,G k->w.heap.size<=k/\k≠r/\k≠b'
 nb:w.heap.size<=b'/\w.heap.size<=r/\b'≠r/\w.heap.size<=m'/\m'≠r/\m'≠b'
theorem Wj(m:Nat)(w):(binOp .eql 163 (.map (some m)) (.map none)).run prog w=.ok (.bool false) w:=by kernel_rfl
attribute [local go_sem] Wj
theorem Qf9.step{l:List Qx}{b' m' r:Nat}{wr}{lm U:List Qx}(h:Qf9 A w l b' m' r wr lm U)(J:(l.map Qx.id).Nodup){x:Qx}(hx:x∈lm){w2 w3 w4 w5 w6 w7}
  (u:Kj w2 A.m r (Xy Qx.id A.ad l) (Vu x.id (Xy Qx.id A.ad lm))) (q:Qc (λk=>k=r) wr w2) (ah:w3=w2.alloc (.cells (Pn x (A.vl x.id) (A.pf x.id) (A.pt x.id)) 147))
  (c4:Qc Qb w3 w4) (c5:Qc Qb w4 w5) (c6:Qc Qb w5 w6) {vb:Value} {pf pt:Nat} (hl:Do vb x.limit w4 (Qn Qb w3 w4)) (hf:J0 w5 (Qn Qb w4 w5) pf x.mem) (ht:Jg w6 (Qn Qb w5 w6) pt x.tree)
  (ai:w7=((w6.setCell ⟨w2.heap.size,4,none⟩ vb).setCell ⟨w2.heap.size,5,none⟩ (ptr pf)).setCell ⟨w2.heap.size,6,none⟩ (ptr pt)) (ay:A.m<w.heap.size):
  Qh w7 b' #[.map (some m')] 165/\∃K,(Instr.mapUpdate 163 (.map (some m')) (ZI x.id) (ZP w2.heap.size)).run prog w7=.ok () K/\
   Qf9 A w l b' m' r K (Kp Qx.id x.id lm) (U++[x])/\Dq K r<Dq wr r:=by
 obtain⟨B,G',ak,al,aa⟩:=h.co;obtain⟨n1,n2,n3,n4,n5,n6⟩:=h.nb;have ae:=J.sublist (h.sub.map Qx.id);have s1:=h.chg.size;have s2:=q.size;have aj:Qc Qb w2 w3:=by rw[ah];exact(Zg _ _).alloc _
 have ab:Qh w3 w2.heap.size (Pn x (A.vl x.id) (A.pf x.id) (A.pt x.id)) 147:=by rw[ah];exact Qh.new _ _ _
 have ac:=ab.lt;have s4:=c4.size;have s5:=c5.size;have s6:=c6.size;have ax:r<w2.heap.size:=by obtain⟨o2,h2,_⟩:=u.walk;exact(Z2.1 h2).1
 have an:=c6.blk (c5.blk (c4.blk ab (λh=>h)) (λh=>h)) (λh=>h);have R:Qc (λk=>k=w2.heap.size) w6 w7:=by rw[ai];exact(((Zg (λk=>k=w2.heap.size) w6).setCell (a:=⟨w2.heap.size,4,none⟩) _ (.inl rfl)).setCell (a:=⟨w2.heap.size,5,none⟩) _ (.inl rfl)).setCell (a:=⟨w2.heap.size,6,none⟩) _ (.inl rfl)
 have ao:Qh w7 w2.heap.size (Pn x vb pf pt) 147:=by rw[ai];exact((an.set' 4 vb rfl).set' 5 (ptr pf) rfl).set' 6 (ptr pt) rfl
 have hX:=Qq8 (A:=B) c4 c5 c6 ac R hl hf ht ao;have d:Qc Qb w2 w7:=(((aj.aA c4).aA c5).aA c6).trans R (λk e=>.inr (by rw[e];exact Zv _));have s7:=d.size;have c:=q.blk h.blk (by omega);have aw:=c.lt;have V:=al.aB (Um.obj B) q (λk I e=>(aa k I).2.1 e);have Z:=(V.aB (Um.obj B) d (Jl.none G')).imp (Is':=Um (B.put x.id w2.heap.size vb pf pt)) (λy hy G2 au=>by
  have af:y.id≠x.id:=λe=>by have hn:=((h.perm.map Qx.id).nodup_iff).2 J;rw[List.map_append,List.nodup_append]at hn;exact hn.2.2 _ (Z3.2 ⟨y,hy,rfl⟩) _ (Z3.2 ⟨x,hx,rfl⟩) e
  refine⟨?_,?_⟩;·show B.ad y.id=(if y.id=x.id then w2.heap.size else B.ad y.id);rw[if_neg af]
  .rw[Qgu af];exact au.2)
 obtain⟨K,ar,ap,c8⟩:=X6 (P:=prog) Z.map underlying163 underlying3 x.id (ZP w2.heap.size);have aq:Hn Qx.id x.id U=none:=by
  cases ha:Hn Qx.id x.id U with
  |none=>rfl
  |some y=> obtain⟨hy,av⟩:=Y3 ha;have hn:=((h.perm.map Qx.id).nodup_iff).2 J;rw[List.map_append,List.nodup_append]at hn;exact(hn.2.2 _ (Z3.2 ⟨y,hy,rfl⟩) _ (Z3.2 ⟨x,hx,rfl⟩) av).elim
 have am:=Z.put (Um.obj _) hX (λk a b2=>by
  have h1:=((Qr k).1 a).1;have:=V.bd k b2;omega) aq ap c8
 have E:Qc (λk=>k=m') w2 K:=(d.none).aA c8;have z:Kj K A.m r (Xy Qx.id A.ad l) (Vu x.id (Xy Qx.id A.ad lm)):=u.aB E (by omega) (by omega);have ag:=O8 (key:=Qx.id) ae hx;refine⟨d.blk c (λh=>h),K,ar,⟨?_,List.filter_sublist.trans h.sub,?_,?_,E.blk c (by omega),⟨B.put x.id w2.heap.size vb pf pt,_,ak,am,?_⟩,h.nb⟩,?_⟩;·rw[<-Hr];exact z
 .refine List.Perm.trans ?_ h.perm;rw[List.append_assoc];exact List.Perm.append_left U ag.symm
 .exact(h.chg.trans q (λk e=>.inr (by rw[e];omega))).trans E (λk e=>.inr (by rw[e];omega))
 .intro k I;rcases I with I|I;·exact aa k I
  .rcases(Qr k).1 I with⟨h1,_⟩;omega
 .rw[z.left_eq,h.it.left_eq,Hr];have:=ag.length_eq;simp only[Xy,List.length_map,Zm]at*;omega
end
section
attribute [local go_sem] Wj
section
variable{A:Dz}{w:World}{F:Fp}{b:Nat}{p:Qe}{N:Nat}{dep:Int->Nat}
theorem Qli(h:Qo A w F b p)(ao:Qs dep N p)(hN:N<549755813888):
  Cl 72 #[ptr b] w λe w'=>∃b',e=.returned (ptr b')/\Yr w' (Qn Qb w w') b' p/\Qc Qb w w':=by
 have HH:=O h;have a6:=(Qo.obj A).bd h;obtain⟨l,hp,hB,G,hC⟩:=h.coll;have HP:=O hp;have a3:=O hC.nodup;have a9:A.m<w.heap.size:=a6 _ h.mlt;have a0:=Jf hB;obtain⟨s,hs⟩:=Zx (w.heap.size);obtain⟨W,hW⟩:=Zx ((w.alloc (.map #[] 0)).alloc (.cells #[.map (some w.heap.size)] 165));have be:=@run_makeMap prog;have C0:Qc Qb w W:=by rw[hW];exact((Zg _ _).alloc _).alloc _
 have hm:Xq W s []:=by rw[hW,hs];exact(Xq.new w).aB ((Zg Qb _).alloc _) (λh=>h)
 have al:Qh W (s+1) #[.map (some s)] 165:=by rw[hW,hs];exact Qh.new' _ _ (by simp)
 have E:W.heap.size=s+1+1:=by rw[hW,hs];simp
 obtain⟨o,ar,ab⟩:=Er (P:=prog) (hC.map.aB C0 (λh=>h)) underlying163;have u:Hi (∃lm dn,Qf9 A w l (s+1) s (s+1+1) (W.alloc o) lm dn):=O (by
  have K:Qc Qb W (W.alloc o):=(Zg _ _).alloc _;rw[E]at ab;refine⟨l,[],ab,List.Sublist.refl _,by simp,C0.aA K,K.blk al (λh=>h),⟨⟨s,λ_=>0,λ_=>.pointer none,λ_=>0,λ_=>0⟩,λk=>k=s,rfl,Yn.new (hm.aB K (λh=>h)) (λk e=>by rw[e];exact(hm.aB K (λh=>h)).lt) rfl,?_⟩,?_⟩;·intro k e;omega
  .omega)
 have q1:=Jf (((Zg Qb w).alloc (.map #[] 0)).blk hB (λh=>h));have e0:=Jf (C0.blk hB (λh=>h));rw[E]at ar;rw[hW]at e0 u ar;subst hs;have a4:=O ao.ok;clear h hB hC hp hm al C0 ab ao E hW;apply WH func72;go_wp2_with fail;go_loopw [4,5,6] (λ_ _ _ wr=>∃lm dn,Qf9 A w l (w.heap.size+1) w.heap.size (w.heap.size+1+1) wr lm dn) (λ_ _ _ wr=>Dq wr (w.heap.size+1+1));case atStart=>exact u.o
 case round=>
  obtain⟨lm,dn,d⟩:=hrel;have e1:=Jf d.blk;rcases Rx (P:=prog) d.it 0 with⟨h0,hr⟩|⟨y,hy,w2,hr,U,aa,am⟩
  .have a8:lm=[]:=by
    cases lm with
    |nil=>rfl
    |cons a l=>cases h0
   subst a8;have aw:Hi (Yr wr (Qn Qb w wr) (w.heap.size+1) p/\Qc Qb w wr):=O (by
    obtain⟨A',G',ah,ai,aj⟩:=d.co;have ba:dn.Perm l:=by simpa using d.perm
    refine⟨⟨A',dn,ba.trans HP.o,?_⟩,d.chg⟩;have R:Yn Qx.id (Um A') wr G' A'.m A'.ad dn:=by rw[ah];exact ai
    refine Q7 (G:=λk=>k=w.heap.size+1) (H:=G') ⟨by rw[ah];exact d.blk,rfl,λk e=>e▸d.blk.lt⟩ (Y6 R R.bd) ?_ ?_ ?_ (λk hk=>hk.elim (λh=>h.elim) (λh=>h.2));·rintro k rfl hk;exact(aj _ hk).2.2 rfl
    .rintro k rfl;exact .inr ⟨by omega,d.blk.lt⟩
    .intro k hk;exact .inr ⟨(aj k hk).1,ai.bd k hk⟩)
   clear d;go_wp2_with fail;go_ret;exact⟨_,rfl,aw.o⟩
  .obtain⟨x,hx,rfl⟩:=Z3.1 hy;have bc:=d.sub.subset hx;have av:=HP.o.mem_iff.1 bc;have c2:Qc Qb w w2:=d.chg.trans aa (λk e=>.inr (by rw[e];omega));have h2:=(Qo.obj A).aB HH.o c2 (Jl.none F);have B:p.at x.id=some x:=Qe.at_of h2.nodup av;have hM:=h2.cell B;obtain⟨J,z⟩:=Zx (w2.alloc (.cells (Pn x (A.vl x.id) (A.pf x.id) (A.pt x.id)) 147));have c3:Qc Qb w2 J:=by rw[z];exact(Zg _ _).alloc _
   have h3:=(Qo.obj A).aB h2 c3 (Jl.none F);have ae:=a4.o x av;obtain⟨Gl,hl⟩:=h3.lim B;obtain⟨pv,aq⟩:∃pv,A.vl x.id=.pointer pv:=by
    rcases hl with⟨e,_,_⟩|⟨q,e,_⟩;·exact⟨_,e⟩
    .exact⟨_,e⟩
   obtain⟨Gf,hf⟩:=h3.fam B;obtain⟨Gt,ht⟩:=h3.tre B;have af:=O (Qhr ((Do.good _ _).aB hl (Zg Qb J).drew (Jl.none _)) (λr hr=>Nat.lt_of_le_of_lt (ae.lim r hr) hN));have ax:=O (λw'(K:Qc Qb J w')=>Qmt (J0.obj.aB hf K (Jl.none _)) (λy hy=>by have:=(ae.mem y hy).2.1;omega));have ay:=O (λw'(K:Qc Qb J w')=>Ao (Jg.obj.aB ht K (Jl.none _)));have Z:=O (h3.cell B);have a7:A.ad x.id<w2.heap.size:=hM.lt;have bd:Hi (A.ad x.id≠w2.heap.size):=O (by omega);obtain⟨d0,d1,d2,d3,d4,d5,d6,d7⟩:=Ja hM;have ak:Qh J w2.heap.size (Pn x (A.vl x.id) (A.pf x.id) (A.pt x.id)) 147:=by rw[z];exact Qh.new _ _ _
   have a2:=O ak;have ag:=O (λw4 w5 w6 w7 vb pf pt c4 c5 c6 hl hf ht bb=>d.step a3.o hx U aa z (w4:=w4) (w5:=w5) (w6:=w6) (w7:=w7) (vb:=vb) (pf:=pf) (pt:=pt) c4 c5 c6 hl hf ht bb a9);obtain⟨u0,u1,u2,u3,u4,u5,u6,u7⟩:=Ja Z.o;have c:=z;unfold Pn at c;rw[aq]at c;rw[aq]at af d4 u4;dsimp only at hr am;clear d U aa c2 c3 hM ak h2 h3 ae hl hf ht hy;go_wp2_with fail;rw[<-c];clear hr am z c;have v0:=Ja ((Zg Qb J).drew.blk Z.o (λh=>h));apply YC [0,1,2,3,105,106,107,108,110,111,112,113,204,209,314,15,316,17,318,19,320] Qb J;iterate 4 (refine Xe (h:=?_))
   clear v0;iterate 8 (apply YK λ_ hv=>Ja (hv.blk Z.o (λh=>h)))
   refine Yb ?_;go_wp2_with fail;apply Zo af;rintro e w4⟨vb,rfl,ac,c4⟩;obtain⟨pb,rfl⟩:∃pb,vb=.pointer pb:=by
    rcases ac with⟨e,_,_⟩|⟨q,e,_⟩;·exact⟨_,e⟩
    .exact⟨_,e⟩
   have C4:=O c4.aT;have a1:Hi (Do (.pointer pb) x.limit w4 (Qn Qb J w4)):=O (ac);clear ac c4;go_wp2_with fail;refine⟨C4.o,?_⟩;refine Yb ?_;go_wp2_with fail;refine(ax.o _ C4.o).mono ?_;rintro e w5⟨pf,rfl,an,c5⟩;have C5:=O c5;have V:=O (C4.o.aA c5);have az:=O an;clear an c5;go_wp2_with fail;refine⟨V.o,?_⟩;refine Km ?_;go_wp2_with fail;refine(ay.o _ V.o).mono ?_;rintro e w6⟨pt,rfl,au,c6⟩;obtain⟨tb,w8,bf,ap,Xg⟩:=ag.o w4 w5 w6 _ (.pointer pb) pf pt C4.o C5.o c6 a1.o az.o au rfl;have a5:=O ap;have LT:=O Xg;have I:=c6.blk (V.o.blk a2.o (λh=>h)) (λh=>h);have z4:=I.frozen 4;have k4:=Ja I;have b7:=I.set' 4 (.pointer pb) rfl;have z5:=b7.frozen 5;have bg:=(Ja b7).2.2.2.2.2.1;have b8:=b7.set' 5 (ptr pf) rfl;have z6:=b8.frozen 6;have bh:=(Ja b8).2.2.2.2.2.2.1;have t0:=Jf tb;clear ap Xg au c6 b7 b8 I tb;go_wp2_with fail;iterate 1 (first|refine Xe (h:=?_)|refine Qy (h:=?_);try simp only[Act.put,Za,Zc,Zb])
   refine Km ?_;go_wp2_with fail;iterate 1 (first|refine Xe (h:=?_)|refine Qy (h:=?_);try simp only[Act.put,Za,Zc,Zb])
   refine Km ?_;go_wp2_with fail;iterate 1 (first|refine Xe (h:=?_)|refine Qy (h:=?_);try simp only[Act.put,Za,Zc,Zb])
   apply YI 0;go_wp2;exact⟨⟨_,_,a5.o⟩,LT.o⟩
end
end
def rootC:Qx:=⟨0,0,false,false,0,none,⟨[],0⟩,[],0⟩
theorem Qig{w wE}{m bc pf pt:Nat}{Gf Gt:Fp}(cE:Qc Qb w wE)(hm:Xq wE m [])(E:Qh wE bc (Pn rootC (.pointer none) pf pt) 147)(hf:J0 wE Gf pf ⟨[],0⟩)(ht:Jg wE Gt pt [])
  (m1:w.heap.size<=m) (b1:w.heap.size<=bc) (nm:m≠bc) (f1:∀k,Gf k->w.heap.size<=k/\k≠m/\k≠bc) (t1:∀k,Gt k->w.heap.size<=k/\k≠m/\k≠bc) (V:Jl Gf Gt):
  ∃c,(Instr.mapUpdate 163 (.map (some m)) (ZI 0) (ZP bc)).run prog wE=.ok () c/\Qc Qb w c/\∀w',w'=c.alloc (.cells #[.map (some m)] 165)->Yr w' (Qn Qb w w') c.heap.size Qe.new/\Qc Qb w w':=by
 obtain⟨c,J,ae,c5⟩:=X6 (P:=prog) hm underlying163 underlying3 0 (ptr bc);have d:Qc Qb w c:=cE.trans c5 (λk e=>.inr (by rw[e];exact m1));refine⟨c,J,d,?_⟩;rintro w' rfl;have c6:Qc Qb c (c.alloc (.cells #[.map (some m)] 165)):=(Zg _ _).alloc _;have U:=d.aA c6;refine⟨?_,U⟩;have R:=J0.obj.bd hf;have K:=Jg.obj.bd ht;have bb:=E.lt;have I:=hm.lt;obtain⟨A,hA⟩:∃A:Dz,A=⟨m,λ_=>bc,λ_=>.pointer none,λ_=>pf,λ_=>pt⟩:=⟨_,rfl⟩;have hx:Um A wE (λk=>k=bc\/Gf k\/Gt k) bc rootC:=by
  subst hA;refine⟨rfl,?_⟩;refine Q7 (G:=λk=>k=bc) (H:=λk=>Gf k\/Gt k) ⟨E,rfl,λk e=>e▸bb⟩ ?_ ?_ (λk e=>.inl e) (λk e=>.inr e) ?_
  .refine Q7 (G:=λ_=>False) (H:=λk=>Gf k\/Gt k) (.inl ⟨rfl,rfl,λk h=>h.elim⟩) ?_ (λk h _=>h.elim) (λk h=>h.elim) (λk h=>h) ?_;·exact Q7 (G:=Gf) (H:=Gt) hf (Y6 ht K) V (λk h=>.inl h) (λk h=>.inr h) (λk h=>h.elim (R k) (K k))
   .exact λk h=>h.elim (R k) (K k)
  .rintro k rfl h;rcases h with h|h;·exact(f1 _ h).2.2 rfl
   .exact(t1 _ h).2.2 rfl
  .rintro k(rfl|h|h);·exact bb
   .exact R k h
   .exact K k h
 have aa:Yn Qx.id (Um A) wE (λk=>k=m) m A.ad []:=Yn.new hm (λk e=>e▸I) rfl;have q:=aa.put (Um.obj A) hx (by
  rintro k(rfl|h|h) rfl;·exact nm rfl
  .exact(f1 _ h).2.1 rfl
  .exact(t1 _ h).2.1 rfl) rfl ae c5
 have ab:(λi=>if i=rootC.id then bc else A.ad i)=A.ad:=by subst hA;funext i;simp
 rw[ab]at q;have u:=q.aB (Um.obj A) c6 (Jl.none _);have B:A.m=m:=by rw[hA]
 refine⟨A,[rootC],List.Perm.refl _,?_⟩;have ac:∀k,(k=m\/k=bc\/Gf k\/Gt k)->w.heap.size<=k:=by
  rintro k(rfl|rfl|h|h);·exact m1
  .exact b1
  .exact(f1 k h).1
  .exact(t1 k h).1
 have z:Qh (c.alloc (.cells #[.map (some m)] 165)) c.heap.size #[.map (some m)] 165:=Qh.new _ _ _;refine Q7 (G:=λk=>k=c.heap.size) (H:=λk=>k=m\/k=bc\/Gf k\/Gt k) ⟨by rw[B];exact z,rfl,λk e=>e▸z.lt⟩ (Y6 (by rw[B];exact u) u.bd) ?_ ?_ ?_ (Td _ _);·intro k e h;have:=q.bd k h;have Z:k=c.heap.size:=e;omega
 .intro k e;have Z:k=c.heap.size:=e;exact(Qr k).2 ⟨by rw[Z];exact d.size,by rw[Z];exact z.lt⟩
 .intro k h;exact(Qr k).2 ⟨ac k h,u.bd k h⟩
theorem Qpk(w):Cl 65 #[] w λe w'=>∃b,e=.returned (ptr b)/\Yr w' (Qn Qb w w') b Qe.new/\Qc Qb w w':=by
 have aa:=@run_makeMap prog;have R:=O Qei;have K:=O Bw;have MN:Hi (∀w1:World,Xq (w1.alloc (.map #[] 0)) w1.heap.size []):=O Xq.new;have I:Hi (∀w1 w2 w3 pf pt,w1=w.alloc (.map #[] 0)->J0 w2 (Qn Qb w1 w2) pf ⟨[],0⟩->Qc Qb w1 w2->Jg w3 (Qn Qb w2 w3) pt []->Qc Qb w2 w3->
   ∃u,(Instr.mapUpdate 163 (.map (some w.heap.size)) (ZI 0) (ZP w3.heap.size)).run prog (w3.alloc (.cells #[ZI 0,.bool false,.bool false,ZU 0,.pointer none,ZP pf,ZP pt,ZI 0] 147))=.ok () u/\
    ∀w',w'=u.alloc (.cells #[.map (some w.heap.size)] 165)->Yr w' (Qn Qb w w') u.heap.size Qe.new/\Qc Qb w w'):=O (by
  rintro w1 w2 w3 pf pt rfl B q E d;have c1:Qc Qb w (w.alloc (.map #[] 0)):=(Zg _ _).alloc _;have z:Qc Qb w3 (w3.alloc (.cells (Pn rootC (.pointer none) pf pt) 147)):=(Zg _ _).alloc _;have s1:(w.alloc (.map #[] 0)).heap.size=w.heap.size+1:=by simp
  have s2:=q.size;have s3:=d.size;obtain⟨u,h1,_,h2⟩:=Qig (w:=w) (m:=w.heap.size) (bc:=w3.heap.size) (pf:=pf) (pt:=pt) (Gf:=Qn Qb (w.alloc (.map #[] 0)) w2) (Gt:=Qn Qb w2 w3) (((c1.aA q).aA d).aA z)
   ((((Xq.new w).aB q (λh=>h)).aB d (λh=>h)).aB z (λh=>h)) (Qh.new _ _ _) (J0.obj.aB (J0.obj.aB B d (Jl.none _)) z (Jl.none _)) (Jg.obj.aB E z (Jl.none _)) (Zv _) (by omega) (by omega)
   (λk U=>by have:=(Qr k).1 U;omega) (λk U=>by have:=(Qr k).1 U;omega) (Qaa (Zv _))
  exact⟨u,h1,h2⟩)
 apply WH func65;go_wp2_with fail;refine(R.o _).mono ?_;rintro e w2⟨pf,rfl,B,q⟩;have Z:=O B;have V:=O q;clear B q;go_wp2_with fail;refine(K.o _).mono ?_;rintro e w3⟨pt,rfl,E,d⟩;obtain⟨u,ab,c⟩:=I.o _ w2 w3 pf pt rfl Z.o V.o E d;have J:=O c;clear E d c;go_wp2_with fail;go_ret;exact⟨_,rfl,J.o _ rfl⟩
def W7(x:Int):List Value:=[ZI x]
abbrev Q6(w:World)(v:Value)(l:List Int):Prop:=Own W7 1 3 w v l
def Es(s:Yk):Array Value:=#[.int .i64 s.id,.int .i64 s.par,.bool s.leaf,.int .u64 s.real.f,.int .u64 s.real.l,.int .u64 s.real.r,.int .u64 s.share.f,.int .u64 s.share.l,.int .u64 s.share.r,.int .u64 s.aN.f,.int .u64 s.aN.l,.int .u64 s.aN.r,.int .i64 s.pk,.int .i64 s.bt]
def P0(c:Vm):Array Value:=#[ZI c.sp.id,ZI c.sp.par,.bool c.sp.leaf,ZU c.sp.real.f,ZU c.sp.real.l,ZU c.sp.real.r,ZU c.sp.share.f,ZU c.sp.share.l,ZU c.sp.share.r,ZU c.sp.aN.f,ZU c.sp.aN.l,ZU c.sp.aN.r,ZI c.sp.pk,ZI c.sp.bt,ZI c.d]
def Qv6:Yk:={id:=0,par:=0,leaf:=false,real:=⟨0,0,0⟩,share:=⟨0,0,0⟩,aN:=⟨0,0,0⟩,pk:=0,bt:=0}
def Qto:Vm:=⟨Qv6,0⟩
def Us(l:List Vm):List (Int×Value):=l.map λc=>(c.id,.agg (P0 c))
structure Y7(w:World)(F:Fp)(m:Nat)(vs:List (Int×Value))(h:Qm):Prop where
 map:Xq w m vs
 bd:Bd F w
 at_:F m
 has:∀p∈vs,Q6 w p.2 (h.aM p.1)
 own:∀p∈vs,∀k,p.2.ownBlock=some k->F k/\k≠m
 dis:∀p∈vs,∀q∈vs,∀k,p.2.ownBlock=some k->q.2.ownBlock=some k->p.1=q.1
 miss:∀i,(∀p∈vs,p.1≠i)->h.aM i=[]
theorem Q6.aB{w w'}{S:Fp}{v:Value}{l:List Int}(h:Q6 w v l)(B:Qc S w w')(E:∀k,v.ownBlock=some k->¬S k):Q6 w' v l:=by
 obtain⟨q,d⟩:=h;refine⟨q,?_⟩;rcases d with d|⟨g,cap,c,rfl,z,I,u⟩;·exact .inl d
 .exact .inr ⟨g,cap,c,rfl,z,B.heap I (E g rfl),u⟩
theorem Y7.aB{w w'}{F S:Fp}{m:Nat}{vs:List (Int×Value)}{h:Qm}(c:Y7 w F m vs h)(d:Qc S w w')(q:Jl F S):Y7 w' F m vs h:=
 ⟨c.map.aB d (q m c.at_),c.bd.later d,c.at_,λp u=>(c.has p u).aB d (λk z=>q k (c.own p u k z).1),c.own,c.dis,c.miss⟩
theorem Y7.good(m:Nat)(vs:List (Int×Value))(h:Qm):Uy (λw F=>Y7 w F m vs h) where
 bd:=λh=>h.bd
 aB:=λh z B=>h.aB z B
 more:=λh q u=>⟨h.map,u,q _ h.at_,h.has,λp d k c=>⟨q k (h.own p d k c).1,(h.own p d k c).2⟩,h.dis,h.miss⟩
def Qrn(ma mu b:Nat)(l:List Vm)(vs:List (Int×Value))(h:Qm):List Ya:=[Tv b #[.map (some ma),.map (some mu)] 114,Qo8 ma (Us l),λw F=>Y7 w F mu vs h]
theorem U3(ma mu b:Nat)(l:List Vm)(vs:List (Int×Value))(h:Qm):∀P∈Qrn ma mu b l vs h,Uy P:=by
 intro P c;simp only[Qrn,Zu,List.not_mem_nil,or_false]at c;rcases c with rfl|rfl|rfl;·exact Ks _ _ _
 .exact Qhd _ _
 .exact Y7.good _ _ _
def Q9(w:World)(F:Fp)(b:Nat)(h:Qm):Prop:=∃ma mu l vs,l.Perm h/\Oh (Qrn ma mu b l vs h) w F
theorem Q9.obj:Hf Q9 where
 bd:=λ⟨ma,mu,l,vs,_,h⟩=>(Je (U3 ma mu _ l vs _)).bd h
 own:=λ⟨ma,mu,l,vs,_,h⟩=>by obtain⟨G,d,k⟩:=J6 (U3 ma mu _ l vs _) 0 rfl h;exact k _ d.2.1
 aB:=λ⟨ma,mu,l,vs,c,h⟩u z=>⟨ma,mu,l,vs,c,(Je (U3 ma mu _ l vs _)).aB h u z⟩
 more:=λ⟨ma,mu,l,vs,c,h⟩B q=>⟨ma,mu,l,vs,c,(Je (U3 ma mu _ l vs _)).more h B q⟩
theorem Qm.at_perm{l:List Vm}{h:Qm}(d:l.Perm h)(c:(l.map Vm.id).Nodup)(i:Int):h.at i=Hn Vm.id i l:=(Mz d c i).symm
theorem Ma(l:List Vm):(Us l).map (·.1)=l.map Vm.id:=by unfold Us;rw[List.map_map];rfl
theorem Ed(i:Int)(l:List Vm)(q:(l.map Vm.id).Nodup):look i (Us l)=(Hn Vm.id i l).map λc=>.agg (P0 c):=by
 cases ha:Hn Vm.id i l with
 |some x=> obtain⟨d,rfl⟩:=Y3 ha;have k:(Vm.id x,Value.agg (P0 x))∈Us l:=Z3.2 ⟨x,d,rfl⟩;rw[Eh (by rw[Ma];exact q) k];rfl
 |none=>
  rw[Sp];·rfl
  .intro p u;obtain⟨x,d,rfl⟩:=Z3.1 u;exact Lz ha x d
section
variable{w:World}{F:Fp}{b:Nat}{h:Qm}
theorem Q9.cells(z:Q9 w F b h):∃ma mu l vs,l.Perm h/\(l.map Vm.id).Nodup/\Qh w b #[.map (some ma),.map (some mu)] 114/\Xq w ma (Us l)/\∃G,Y7 w G mu vs h:=by obtain⟨ma,mu,l,vs,B,c⟩:=z;obtain⟨E,q,_⟩:=J6 (U3 ma mu b l vs h) 0 rfl c;obtain⟨I,d,_⟩:=J6 (U3 ma mu b l vs h) 1 rfl c;obtain⟨k,u,_⟩:=J6 (U3 ma mu b l vs h) 2 rfl c;exact⟨ma,mu,l,vs,B,by have:=d.1.nodup;rwa[Ma]at this,q.1,d.1,k,u⟩
theorem Sf(w):(zeroValue 109).run prog w=.ok (.agg (P0 Qto)) w:=by go_simp;rfl
theorem Qrd(m:Nat)(w):(binOp .eql 111 (.map (some m)) (.map none)).run prog w=.ok (.bool false) w:=by kernel_rfl
attribute [local go_sem] Qrd
theorem Gz(d:Q9 w F b h):ZW 51 #[ptr b] w (.bool false) λw'=>w=w':=by obtain⟨ma,mu,l,vs,z,u,c,k,G,q⟩:=d.cells;have B:=Q4 c;unfold ptr;clear d z u c k q;apply WH func51;exact WE
end
section
variable{P:Program}{w:World}{g:Nat}{cs vs:Array Value}{t:TypeId}
theorem Q0(h:Qh w g cs t)(z:vs.size=cs.size)(q:∀v∈vs.toList,v.oneCell'=true):
  ∃w',(storeCells ⟨g,0,none⟩ vs.toList 0).run P w=.ok () w'/\Qh w' g vs t/\Qc (λk=>k=g) w w':=by
 have d:=run_storeCells_at (P:=P) g 0 t vs.toList 0 cs w h (by simp;omega) q;have e:(cs.toList.take (0+0)++vs.toList++cs.toList.drop (0+0+vs.toList.length)).toArray=vs:=by apply Array.ext';simp;omega
 rw[e]at d;refine⟨_,d,setRow_heap w g cs vs t (0,0) h,⟨rfl,rfl,rfl,by simp[World.setRow],λk u c=>?_⟩⟩;simp only[World.setRow];rw[Array.getElem?_modify,if_neg (λe=>c e.symm)]
end
section
variable{w:World}{F:Fp}{b:Nat}{h:Qm}
def Qm.get(h:Qm)(i:Int):Vm:=(h.at i).getD Qto
theorem Q9.look2(u:Q9 w F b h):∃ma mu,Qh w b #[.map (some ma),.map (some mu)] 114/\∀i,(Instr.lookup 111 (.map (some ma)) (ZI i) true).run prog w=.ok (.tuple #[.agg (P0 (h.get i)),.bool (h.at i).isSome]) w:=by obtain⟨ma,mu,l,vs,z,d,k,q,G,B⟩:=u.cells;refine⟨ma,mu,k,λi=>?_⟩;have c:=Dj (P:=prog) q underlying111 underlying3 (Sf w) i;rw[Ed i l d,<-Qm.at_perm z d]at c;rw[c];unfold Qm.get;cases h.at i<;>rfl
theorem Sn(c:Vm):∀v∈(P0 c).toList,v.oneCell'=true:=by intro v d;simp only[P0,Zu,List.not_mem_nil,or_false]at d;rcases d with rfl|rfl|rfl|rfl|rfl|rfl|rfl|rfl|rfl|rfl|rfl|rfl|rfl|rfl|rfl<;>rfl
theorem Hl(c:Yk):∀v∈(Es c).toList,v.oneCell'=true:=by intro v d;simp only[Es,Zu,List.not_mem_nil,or_false]at d;rcases d with rfl|rfl|rfl|rfl|rfl|rfl|rfl|rfl|rfl|rfl|rfl|rfl|rfl|rfl<;>rfl
theorem Dm{w}{g:Nat}{c:Vm}{t:TypeId}(h:Qh w g (P0 c) t):w.cell? ⟨g,0,none⟩=some (ZI c.sp.id)/\w.cell? ⟨g,1,none⟩=some (ZI c.sp.par)/\w.cell? ⟨g,2,none⟩=some (.bool c.sp.leaf)/\w.cell? ⟨g,3,none⟩=some (ZU c.sp.real.f)/\w.cell? ⟨g,4,none⟩=some (ZU c.sp.real.l)/\w.cell? ⟨g,5,none⟩=some (ZU c.sp.real.r)/\w.cell? ⟨g,6,none⟩=some (ZU c.sp.share.f)/\w.cell? ⟨g,7,none⟩=some (ZU c.sp.share.l)/\w.cell? ⟨g,8,none⟩=some (ZU c.sp.share.r)/\w.cell? ⟨g,9,none⟩=some (ZU c.sp.aN.f)/\w.cell? ⟨g,10,none⟩=some (ZU c.sp.aN.l)/\w.cell? ⟨g,11,none⟩=some (ZU c.sp.aN.r)/\w.cell? ⟨g,12,none⟩=some (ZI c.sp.pk)/\w.cell? ⟨g,13,none⟩=some (ZI c.sp.bt)/\w.cell? ⟨g,14,none⟩=some (ZI c.d):=
 ⟨h.cell 0,h.cell 1,h.cell 2,h.cell 3,h.cell 4,h.cell 5,h.cell 6,h.cell 7,h.cell 8,h.cell 9,h.cell 10,h.cell 11,h.cell 12,h.cell 13,h.cell 14⟩
theorem Qvb{w}{g:Nat}{t:TypeId}(h:Qh w g Z5 t):w.cell? ⟨g,0,none⟩=some (ZI 0)/\w.cell? ⟨g,1,none⟩=some (ZI 0)/\w.cell? ⟨g,2,none⟩=some (.bool false)/\w.cell? ⟨g,3,none⟩=some (ZU 0)/\w.cell? ⟨g,4,none⟩=some (ZU 0)/\w.cell? ⟨g,5,none⟩=some (ZU 0)/\w.cell? ⟨g,6,none⟩=some (ZU 0)/\w.cell? ⟨g,7,none⟩=some (ZU 0)/\w.cell? ⟨g,8,none⟩=some (ZU 0)/\w.cell? ⟨g,9,none⟩=some (ZU 0)/\w.cell? ⟨g,10,none⟩=some (ZU 0)/\w.cell? ⟨g,11,none⟩=some (ZU 0)/\w.cell? ⟨g,12,none⟩=some (ZI 0)/\w.cell? ⟨g,13,none⟩=some (ZI 0):=
 ⟨h.cell 0,h.cell 1,h.cell 2,h.cell 3,h.cell 4,h.cell 5,h.cell 6,h.cell 7,h.cell 8,h.cell 9,h.cell 10,h.cell 11,h.cell 12,h.cell 13⟩
theorem Qrj{w}{g:Nat}{cs:Array Value}{t:TypeId}(h:Qh w g cs t):w.frozen? ⟨g,0,none⟩=false/\w.frozen? ⟨g,1,none⟩=false/\w.frozen? ⟨g,2,none⟩=false/\w.frozen? ⟨g,3,none⟩=false/\w.frozen? ⟨g,4,none⟩=false/\w.frozen? ⟨g,5,none⟩=false/\w.frozen? ⟨g,6,none⟩=false/\w.frozen? ⟨g,7,none⟩=false/\w.frozen? ⟨g,8,none⟩=false/\w.frozen? ⟨g,9,none⟩=false/\w.frozen? ⟨g,10,none⟩=false/\w.frozen? ⟨g,11,none⟩=false/\w.frozen? ⟨g,12,none⟩=false/\w.frozen? ⟨g,13,none⟩=false:=
 ⟨h.frozen 0,h.frozen 1,h.frozen 2,h.frozen 3,h.frozen 4,h.frozen 5,h.frozen 6,h.frozen 7,h.frozen 8,h.frozen 9,h.frozen 10,h.frozen 11,h.frozen 12,h.frozen 13⟩
theorem Ob(hh:Q9 w F b h)(i:Int):ZW 23 #[ptr b,ZI i] w (.tuple #[.agg (Es (h.get i).sp),.bool (h.at i).isSome]) λw'=>Qc Qb w w':=by
 have d:=O (λw'(c:Qc Qb w w')=>Q9.obj.aB hh c (Jl.none F));obtain⟨W,J⟩:=Zx (w.alloc (.cells Z5 29));have I:Qc Qb w W:=by rw[J];exact(Zg _ _).alloc _
 have hN:=O (Gz (d.o W I));have V:Qh W w.heap.size Z5 29:=by rw[J];exact Qh.new _ _ _
 obtain⟨ma,mu,hB,hL⟩:=(d.o W I).look2;have hr:=hL i;have a0:=Q4 hB;have Xg:w.heap.size<W.heap.size:=V.lt;obtain⟨c,hc⟩:=Zx (h.get i);rw[<-hc]at hr|-;generalize(h.at i).isSome=ok at hr|-;obtain⟨W1,z⟩:=Zx (W.alloc (.cells Z6 109));have B:Qh W1 W.heap.size Z6 109:=by rw[z];exact Qh.new _ _ _
 have K:Qc Qb W W1:=by rw[z];exact(Zg _ _).alloc _
 obtain⟨Z,s2,E,R⟩:=Q0 (P:=prog) (vs:=P0 c) B rfl (Sn c);have q:Qh Z w.heap.size Z5 29:=R.blk (K.blk V (λh=>h)) (by intro e;omega);have e0:=Dm E;have z0:=Qvb q;have f0:=Qrj q;have U:Hi (Qc Qb w ((((((((((((((Z.setCell ⟨w.heap.size,0,none⟩ (ZI c.sp.id)).setCell ⟨w.heap.size,1,none⟩ (ZI c.sp.par)).setCell ⟨w.heap.size,2,none⟩ (.bool c.sp.leaf)).setCell ⟨w.heap.size,3,none⟩ (ZU c.sp.real.f)).setCell ⟨w.heap.size,4,none⟩ (ZU c.sp.real.l)).setCell ⟨w.heap.size,5,none⟩ (ZU c.sp.real.r)).setCell ⟨w.heap.size,6,none⟩ (ZU c.sp.share.f)).setCell ⟨w.heap.size,7,none⟩ (ZU c.sp.share.l)).setCell ⟨w.heap.size,8,none⟩ (ZU c.sp.share.r)).setCell ⟨w.heap.size,9,none⟩ (ZU c.sp.aN.f)).setCell ⟨w.heap.size,10,none⟩ (ZU c.sp.aN.l)).setCell ⟨w.heap.size,11,none⟩ (ZU c.sp.aN.r)).setCell ⟨w.heap.size,12,none⟩ (ZI c.sp.pk)).setCell ⟨w.heap.size,13,none⟩ (ZI c.sp.bt))):=O (by
  have ab:Qc Qb W Z:=K.trans R (λk e=>.inr (by omega));have aa:=I.aA ab;iterate 14 refine Qc.setCell ?_ _ (.inr (Zv _))
  exact aa)
 clear hL hB hh hc B K E R q V Xg I;subst z;apply WH func23;go_wp2_with fail;rw[<-J];clear J;apply Zz hN.o;rintro w1 rfl;go_wp2_with fail;refine bodyPost_ret (v:=.tuple #[.agg (Es c.sp),.bool ok]) (by rw[results_cell_tmp (p:=4) (u:=5) (ty:=29) (by kernel_rfl)];go_simp;rfl) rfl ?_;exact⟨rfl,U.o⟩
end
section
variable{w:World}{F:Fp}{b:Nat}{h:Qm}
theorem Qm.depth_zero:h.depth 0=1:=by unfold Qm.depth;simp
theorem Qm.depth_none{i:Int}(c:i≠0)(ha:h.at i=none):h.depth i=0:=by unfold Qm.depth;rw[if_neg c,ha]
theorem Qm.depth_some{i:Int}{c:Vm}(d:i≠0)(ha:h.at i=some c):h.depth i=if c.sp.leaf||decide (8<=c.d)then 0 else c.d+1:=by unfold Qm.depth;rw[if_neg d,ha]
theorem Qe2(d:Q9 w F b h):ZW 164 #[ptr b,ZI 0] w (ZI (h.depth 0:Int)) λw'=>Qc Qb w w':=by rw[Qm.depth_zero];unfold ptr;clear d;have c:=O (Zg Qb w);apply WH func164;exact WD c
theorem Qhk(hh:Q9 w F b h)(i:Int):ZW 164 #[ptr b,ZI i] w (ZI (h.depth i:Int)) λw'=>Qc Qb w w':=by
 by_cases hi:i=0;·subst hi;exact Qe2 hh
 obtain⟨ma,mu,Z,hL⟩:=hh.look2;have V:=hL i;have a0:=Q4 Z;have Xg:b<w.heap.size:=Z.lt;obtain⟨c,hc⟩:=Zx (h.get i);obtain⟨W1,B⟩:=Zx (w.alloc (.cells Z6 109));have J:Qh W1 w.heap.size Z6 109:=by rw[B];exact Qh.new _ _ _
 have C1:Qc Qb w W1:=by rw[B];exact(Zg _ _).alloc _
 obtain⟨W2,s2,K,C2⟩:=Q0 (P:=prog) (vs:=P0 c) J rfl (Sn c);obtain⟨q,e1,e2,e3,e4,e5,e6,e7,e8,e9,ab,ac,ae,af,ag⟩:=Dm K;have z:Hi (Qc Qb w W2):=O (C1.trans C2 (λk e=>.inr (by omega)));have ah:(i==0)=false:=by simp[hi]
 have I:Hi ((h.at i=none->h.depth i=0)/\(∀E,h.at i=some E->c=E/\h.depth i=if E.sp.leaf||decide (8<=E.d)then 0 else E.d+1)):=O ⟨λe=>Qm.depth_none hi e,λE e=>⟨by rw[hc];unfold Qm.get;rw[e];rfl,Qm.depth_some hi e⟩⟩;rw[<-hc]at V;generalize h.depth i=aj at I|-;cases d:h.at i with
 |none=> have q:=I.o.1 d;subst q;rw[d]at V;dsimp only[Option.isSome]at V;clear hL Z hh hc J C1 K C2 Xg d;subst B;apply WH func164;exact WD z
 |some E=>
  obtain⟨rfl,q⟩:=I.o.2 E d;rw[d]at V;dsimp only[Option.isSome]at V;clear hL Z hh hc J C1 K C2 Xg d;subst B;cases u:c.sp.leaf with
  |true=> rw[u]at e2 q;simp only[Bool.true_or,if_true]at q;subst q;clear u;apply WH func164;exact WD z
  |false=>
   rw[u]at e2 q;by_cases R:8<=c.d
   .simp only[R,decide_true,Bool.or_true,if_true]at q;subst q;have aa:decide ((c.d:Int)>=8)=true:=by simp;omega
    have U:decide (8<=(c.d:Int))=true:=by simp;omega
    have HD:=O R;clear u R;apply WH func164;exact WD z
   .simp only[R,decide_false,Bool.or_false,Bool.false_eq_true,if_false]at q;have aa:decide ((c.d:Int)>=8)=false:=by simp;omega
    have U:decide (8<=(c.d:Int))=false:=by simp;omega
    have ai:IntKind.i64.wrap ((c.d:Int)+1)=(c.d:Int)+1:=by rw[IntWalk.i64_in _ (by omega)]
    have E0:=O q;have HD:=O R;clear u R q;apply WH func164;go_wp2;go_ret;rw[E0.o];exact⟨rfl,z.o⟩
end
theorem Qoo(m:Nat)(L:List (Int×Value)){w}(h:Xq w m L):Qo8 m L w (λk=>k=m):=⟨h,rfl,λk e=>e▸h.lt⟩
theorem Qos(w):Cl 63 #[] w λe w'=>∃b,e=.returned (ptr b)/\Q9 w' (Qn Qb w w') b []/\Qc Qb w w':=by
 have I:=@run_makeMap prog;have u:Hi (∀w',w'=((w.alloc (.map #[] 0)).alloc (.map #[] 0)).alloc (.cells #[.map (some w.heap.size),.map (some (w.heap.size+1))] 114)->Q9 w' (Qn Qb w w') (w.heap.size+1+1) []/\Qc Qb w w'):=O (by
  rintro w' rfl;obtain⟨W,q⟩:=Zx (((w.alloc (.map #[] 0)).alloc (.map #[] 0)).alloc (.cells #[.map (some w.heap.size),.map (some (w.heap.size+1))] 114));have E:Qc Qb w W:=by rw[q];exact(((Zg _ _).alloc _).alloc _).alloc _
  have B:Qh W (w.heap.size+1+1) #[.map (some w.heap.size),.map (some (w.heap.size+1))] 114:=by rw[q];exact Qh.new' _ _ (by simp)
  have d:Xq W w.heap.size []:=by rw[q];exact(Xq.new w).aB (((Zg Qb _).alloc _).alloc _) (λh=>h)
  have c:Xq W (w.heap.size+1) []:=by
   rw[q];have:=(Xq.new (w.alloc (.map #[] 0))).aB ((Zg Qb _).alloc (.cells #[.map (some w.heap.size),.map (some (w.heap.size+1))] 114)) (λh=>h);have e:(w.alloc (.map #[] 0)).heap.size=w.heap.size+1:=by simp
   rwa[e]at this
  rw[<-q];have Xg:=B.lt;refine⟨⟨w.heap.size,w.heap.size+1,[],[],List.Perm.refl _,?_⟩,E⟩;refine Q7 (G:=λk=>k=w.heap.size+1+1) (H:=λk=>k=w.heap.size\/k=w.heap.size+1) ⟨B,rfl,λk e=>e▸Xg⟩ ?_ ?_ ?_ ?_ (Td _ _)
  .refine Q7 (G:=λk=>k=w.heap.size) (H:=λk=>k=w.heap.size+1) (Qoo _ _ d) (Y6 ⟨c,λk e=>e▸c.lt,rfl,nofun,nofun,nofun,λ_ _=>rfl⟩ (λk e=>e▸c.lt)) ?_ (λk e=>.inl e) (λk e=>.inr e) ?_;·rintro k rfl e;have z:w.heap.size=w.heap.size+1:=e;omega
   .rintro k(e|e);·exact e▸d.lt
    .exact e▸c.lt
  .rintro k rfl(e|e);·have z:w.heap.size+1+1=w.heap.size:=e;omega
   .have z:w.heap.size+1+1=w.heap.size+1:=e;omega
  .rintro k rfl;exact(Qr _).2 ⟨by omega,Xg⟩
  .rintro k(rfl|rfl);·exact(Qr _).2 ⟨by omega,d.lt⟩
   .exact(Qr _).2 ⟨by omega,c.lt⟩)
 unfold ptr;apply WH func63;go_wp2;go_ret;exact⟨_,rfl,u.o _ rfl⟩
section
theorem Qhl(x:Int):(W7 x).length=1:=rfl
theorem intT:Qce prog W7 1 100 3 8 (0:Int) where
 ht:=underlying100
 hi:=Ee (by kernel_rfl)
 pos:=by decide
 hc:=Qhl
 one:=by intro x u c;simp only[W7,Zu,List.not_mem_nil,or_false]at c;rcases c with rfl;rfl
theorem Sz:prog.eqGuardType prog.depth 100=false:=by kernel_rfl
theorem N9:prog.stoodInHeld 100=false:=by kernel_rfl
attribute [local go_sem] Sz N9
theorem Fy(v:Value)(K:List Int)(w)(V:Own W7 1 3 w v K)(hl:K.length<1099511627776):
  Cl 90 #[v] w λe w'=>∃u,e=.returned u/\Own W7 1 3 w' u K/\Qc Qb w w'/\(∀k,u.ownBlock=some k->w.heap.size<=k)/\(v=.slice none 0 0->u=.slice none 0 0):=by
 obtain⟨a,cap,rfl,B,U,d⟩:=V.row intT.hc;have HR:=O d;have HK:=O V;clear d V;have I:=λ(W)=>Lib.run_eql_slice_nil (P:=prog) W 100 3 a K.length cap 0 0 underlying100;cases a with
 |none=>
  obtain rfl:=U rfl;have E:K.length=0:=by omega
  obtain rfl:=List.eq_nil_of_length_eq_zero E;have C0:=O (Zg Qb w);simp only[List.length_nil,Option.isNone_none]at I;clear B U hl E;apply WH func90;go_wp2;go_ret;exact⟨_,rfl,Own.nil _ _ _ _,C0.o,nofun,λ_=>rfl⟩
 |some ad=>
  clear U;apply WH func90;go_wp2_with (at_builtin;refine Jj intT rfl (.tmp 5) (.tmp 6) rfl _ ([]:List Int) rfl (Own.empty (Qh.new' _ _ (by simp))) _ _ K rfl ?a2 ?a3 ?a4 ?a5 ?a6);case a2=>intro h;cases h
  case a3=>exact HR.o.aB ((Zg Qb w).alloc _) (λ_ _ h=>h)
  case a4=>simp[maxLen];omega
  case a5=>simp;omega
  case a6=>
   intro u w1 c z J;have Z:Qc Qb w w1:=((Zg Qb w).alloc (.cells #[] 3)).trans z λj hj=>.inr (by simp[Value.ownBlock]at hj;omega);have K2:∀k,u.ownBlock=some k->w.heap.size<=k:=by
    intro k R;rcases J with h|h;·rw[h]at R;simp[Value.ownBlock]at R;omega
    .rw[h]at R;have:=Zs R;have hz:(w.alloc (.cells #[] 3)).heap.size=w.heap.size+1:=by simp
     omega
   have q:=O (Zt c (Zt Z K2));clear c Z K2 z J;go_wp2;go_ret;exact⟨_,rfl,q.o.1,q.o.2.1,q.o.2.2,nofun⟩
section
variable{w:World}{F:Fp}{b:Nat}{h:Qm}
theorem Qqt(w):(zeroValue 100).run prog w=.ok (.slice none 0 0) w:=by go_simp
theorem Q6.nil(w):Q6 w (.slice none 0 0) []:=Own.nil _ _ _ _
theorem Y7.look{m:Nat}{vs:List (Int×Value)}(d:Y7 w F m vs h)(i:Int):
  ∃v,(Instr.lookup 112 (.map (some m)) (ZI i) false).run prog w=.ok v w/\Q6 w v (h.aM i)/\((v=.slice none 0 0/\∀p∈vs,p.1≠i)\/(i,v)∈vs):=by
 have u:=Du (P:=prog) d.map underlying112 underlying3 (Qqt w) i;refine⟨_,u,?_⟩;by_cases q:∃p∈vs,p.1=i;·obtain⟨⟨j,v⟩,c,rfl⟩:=q;rw[Eh d.map.nodup c];exact⟨d.has _ c,.inr c⟩
 .have k:∀p∈vs,p.1≠i:=λp c e=>q ⟨p,c,e⟩;rw[Sp k];refine⟨?_,.inl ⟨rfl,k⟩⟩;rw[d.miss i k];exact Q6.nil w
theorem P8(d:Q9 w F b h)(i:Int)(U:(h.aM i).length<1099511627776):
  Cl 85 #[ptr b,ZI i] w λe w'=>∃v,e=.returned v/\Q6 w' v (h.aM i)/\(∀k,v.ownBlock=some k->w.heap.size<=k)/\Qc Qb w w':=by
 have R:=O (Gz d);obtain⟨ma,mu,l,vs,Z,V,B,K,G,I⟩:=d.cells;obtain⟨v,hr,E,_⟩:=I.look i;have J:=O (Fy v _ w E U);have a0:=Q4 B;clear d Z V B K I E;apply WH func85;go_wp2_with fail;apply Zz R.o;rintro w1 rfl;go_wp2_with fail;apply Zo J;rintro e w1⟨v',rfl,q,u,z,_⟩;have c:=O (Zt q (Zt z u));clear q u z;exact WG c
end
end
theorem Qow(x:Int)(w):ZW 241 #[ZI x] w (.bool false) λw'=>w=w':=by apply WH func241;go_wp2;go_ret;exact⟨by simp,rfl⟩
theorem Qkp(x:Int)(w):ZW 224 #[ZI x] w (.bool false) λw'=>w=w':=by apply WH func224;go_wp2;go_ret;exact⟨by simp,rfl⟩
theorem Qrt(x y:Int)(w):ZW 198 #[ZI x,ZI y] w (.bool (decide (x<y))) λw'=>w=w':=by have H:=O (Qow x w);apply WH func198;go_wp2_with fail;apply Zy H;rintro w1 rfl;exact WE
structure Om(x:Int)(l:List Int)(i j:Nat):Prop where
 le:i<=j
 len:j<=l.length
 lo:∀k v,k<i->l[k]? =some v->v<x
 hi:∀k v,j<=k->l[k]? =some v->x<=v
theorem Om.start(x:Int)(l:List Int):Om x l 0 l.length:=⟨Nat.zero_le _,Zv _,λk v h=>absurd h (by omega),λk v h e=>by rw[List.getElem?_eq_none (by omega)]at e;cases e⟩
theorem Om.up{x:Int}{l:List Int}{i j m:Nat}{y:Int}(h:Om x l i j)(B:l.Pairwise (· <= ·))(J:i<=m)(K:m<j)(u:l[m]? =some y)(Xg:y<x):Om x l (m+1) j:=
 ⟨by omega,h.len,λk v R q=>by
  rcases Nat.lt_or_ge k m with z|z;·have c:k<l.length:=(Z1.1 q).1;have d:m<l.length:=(Z1.1 u).1;have:=List.pairwise_iff_getElem.1 B k m c d z;rw[List.getElem?_eq_getElem c]at q;rw[List.getElem?_eq_getElem d]at u;have E:=Zs q;have I:=Zs u;omega
  .have:k=m:=by omega
   subst this;rw[u]at q;have:=Zs q;omega,h.hi⟩
theorem Om.down{x:Int}{l:List Int}{i j m:Nat}{y:Int}(h:Om x l i j)(I:l.Pairwise (· <= ·))(E:i<=m)(R:m<j)(u:l[m]? =some y)(B:¬y<x):Om x l i m:=
 ⟨E,by have:=h.len;omega,h.lo,λk v U q=>by
  rcases Nat.lt_or_ge m k with z|z;·have c:k<l.length:=(Z1.1 q).1;have d:m<l.length:=(Z1.1 u).1;have:=List.pairwise_iff_getElem.1 I m k d c z;rw[List.getElem?_eq_getElem c]at q;rw[List.getElem?_eq_getElem d]at u;have J:=Zs q;have K:=Zs u;omega
  .have:k=m:=by omega
   subst this;rw[u]at q;have:=Zs q;omega⟩
theorem Q6.cells{w}{v:Value}{l:List Int}(h:Q6 w v l):(v=.slice none 0 0/\l=[])\/∃g cap,v=.slice (some ⟨g,0,none⟩) l.length cap/\l.length<=cap/\∀(k:Nat)(x:Int),l[k]? =some x->w.cell? ⟨g,k,none⟩=some (ZI x):=by
 have B:=h.1;rcases h.2 with⟨rfl,E⟩|⟨g,cap,d,rfl,U,J,z,V,Z,u⟩;·exact .inl ⟨rfl,List.eq_nil_of_length_eq_zero E⟩
 .refine .inr ⟨g,cap,rfl,z,λk x q=>?_⟩;have I:Jm W7 l=l.map λx=>Value.int .i64 x:=by
   clear B u z q h;induction l with
   |nil=>rfl
   |cons a l R=>exact congrArg (Value.int .i64 a:: ·) R
  rw[I]at u;have c:w.cell? ⟨g,k,none⟩=d[k]? :=by simp[World.cell?,J]
  rw[c];have K:k<l.length:=(Z1.1 q).1;have e:(d.toList.take (l.length*1))[k]? =(l.map λx=>Value.int .i64 x)[k]? :=by rw[u]
  rw[List.getElem?_take,if_pos (by omega),List.getElem?_map,q]at e;simpa using e
theorem Qn7{w}{v:Value}{l:List Int}(h:Q6 w v l)(hs:l.Pairwise (· <= ·))(hl:l.length<1099511627776)(x:Int):
  Cl 165 #[v,ZI x] w λe w'=>∃(p:Nat)(f:Bool),e=.returned (.tuple #[ZI p,.bool f])/\w=w'/\Om x l p p:=by
 have ST:=O (Om.start x l);have ac:=O (λy=>Qrt y x w);have HN:=O (λy=>Qkp y w);have HS:=O hs;clear hs;obtain⟨n,B⟩:=Zx (l.length);have I:=O B;obtain⟨a,cap,hv,u,ak⟩:∃a cap,v=.slice a n cap/\(∀(k:Nat)(y:Int),l[k]? =some y->∃g,a=some ⟨g,0,none⟩/\w.cell? ⟨g,k,none⟩=some (ZI y))/\n<=cap:=by
  rcases h.cells with⟨rfl,ai⟩|⟨g,cap,rfl,hc,hk⟩;·subst ai;exact⟨none,0,by rw[B];rfl,λk y e=>(by cases e),by rw[B];exact Zv _⟩
  .exact⟨_,cap,by rw[B],λk y e=>⟨g,rfl,hk k y e⟩,by omega⟩
 subst hv;have z:=O u;have aq:n<1099511627776:=by omega
 rw[<-B]at ST;clear h B u hl;go_enter func165,ntmps165;go_wp2_with fail;go_loopw [7,8] (λlo hi wr=>∃i j:Nat,lo=ZI i/\hi=ZI j/\wr=w/\j<=n/\Om x l i j) (λlo hi _=>(intOf hi).toNat-(intOf lo).toNat);case atStart=>exact⟨0,n,rfl,rfl,rfl,Zv _,ST.o⟩
 case round=>
  obtain⟨i,j,rfl,rfl,rfl,ah,aa⟩:=hrel;have d:=O aa;clear aa;by_cases al:i<j
  .have hd:decide ((i:Int)<(j:Int))=true:=by simp;omega
   obtain⟨m,hm⟩:=Zx ((i+j)/2);have U:i<=m:=by omega
   have V:m<j:=by omega
   have Z:m<l.length:=by have:=I.o;omega
   obtain⟨y,E⟩:∃y,l[m]? =some y:=⟨_,List.getElem?_eq_getElem Z⟩;obtain⟨g,rfl,af⟩:=z.o m y E;have ap:((i:Int)+(j:Int))/2=(m:Int):=by rw[hm];omega
   have HY:=O E;have ab:=O (ac.o y);have ao:m<n:=by omega
   have an:decide ((m:Int)<(n:Int))=true:=by simp;omega
   have HM:=O hm;clear hm E Z;go_wp2_with fail;refine Zy ab ?_;rintro w1 rfl;by_cases c:y<x
   .have ag:decide (y<x)=true:=by simp[c]
    have ew:IntKind.i64.wrap ((m:Int)+1)=((m+1:Nat):Int):=by rw[IntWalk.i64_in _ (by omega)];omega
    have q:=O (d.o.up HS.o U V HY.o c);have J:=O c;clear c;go_wp2;go_roundw;case measure=>simp only[intOf];omega
    case rel=>exact⟨m+1,j,by rw[<-Int.natCast_one,<-Int.natCast_add],rfl,trivial,ah,q.o⟩
   .have ag:decide (y<x)=false:=by simp[c]
    have q:=O (d.o.down HS.o U V HY.o c);have J:=O c;clear c;go_wp2;go_roundw;case measure=>simp only[intOf];omega
    case rel=>exact⟨i,m,rfl,rfl,trivial,by omega,q.o⟩
  .have hd:decide ((i:Int)<(j:Int))=false:=by simp;omega
   have K:i=j:=by have:=d.o.le;omega
   subst K;by_cases am:i<n
   .have R:i<l.length:=by have:=I.o;omega
    obtain⟨y,E⟩:∃y,l[i]? =some y:=⟨_,List.getElem?_eq_getElem R⟩;obtain⟨g,rfl,af⟩:=z.o i y E;have aj:decide ((i:Int)<(n:Int))=true:=by simp;omega
    have ae:=O (HN.o y);clear E R;by_cases c:y=x;·subst c;go_wp2_with fail;go_ret2;exact⟨i,_,rfl,rfl,d.o⟩
    .have ar:(y==x)=false:=by simp[c]
     have au:decide (y=x)=false:=by simp[c]
     have J:=O c;clear c;go_wp2_with fail;refine Zy ae ?_;rintro w1 rfl;go_wp2_with fail;go_ret2;exact⟨i,_,rfl,rfl,d.o⟩
   .have aj:decide ((i:Int)<(n:Int))=false:=by simp;omega
    go_wp2_with fail;go_ret2;exact⟨i,_,rfl,rfl,d.o⟩
def Nm(x:Int):List Int->List Int
 |[]=>[x]
 |y::l=>if x<y then x::y::l else y::Nm x l
abbrev Ex(h:Qm):Prop:=h.Pairwise λa b=>a.sp.id<b.sp.id
theorem Qqm(i:Int):Qm.aM [] i=[]:=rfl
theorem Dk(x:Vm)(h:Qm)(i:Int):Qm.aM (x::h) i=if x.sp.par=i then x.sp.id::Qm.aM h i else Qm.aM h i:=by unfold Qm.aM;split<;>simp_all
theorem Sx{h:Qm}{i y:Int}(c:y∈h.aM i):∃x∈h,x.sp.id=y/\x.sp.par=i:=by unfold Qm.aM at c;obtain⟨x,d,rfl⟩:=Z3.1 c;have:=List.mem_filter.1 d;exact⟨x,this.1,rfl,by simpa using this.2⟩
theorem Qrq{x:Int}:∀{l:List Int},(∀y∈l,x<y)->Nm x l=x::l
 |[],_=>rfl
 |y::l,h=>by rw[Nm,if_pos (h y (by simp))]
theorem Fe(c:Vm):∀{h:Qm}(i:Int),Ex h->Qm.aM (Mb c h) i=if c.sp.par=i then Nm c.sp.id (Qm.aM h i)else Qm.aM h i
 |[],i,_=>by rw[Mb,Dk,Qqm];rfl
 |x::l,i,hs=>by
  have k:=List.pairwise_cons.1 hs;rw[Mb];by_cases Xg:c.sp.id<x.sp.id
  .rw[if_pos Xg,Dk c];by_cases d:c.sp.par=i
   .rw[if_pos d,if_pos d,Qrq];intro y B;obtain⟨z,u,rfl,_⟩:=Sx B;rcases Zu.1 u with rfl|u;·exact Xg
    .exact Int.lt_trans Xg (k.1 z u)
   .rw[if_neg d,if_neg d]
  .rw[if_neg Xg,Dk x,Fe c i k.2,Dk x];by_cases d:c.sp.par=i
   .rw[if_pos d,if_pos d];by_cases q:x.sp.par=i;·rw[if_pos q,if_pos q,Nm,if_neg Xg]
    .rw[if_neg q,if_neg q]
   .rw[if_neg d,if_neg d]
theorem Qm8{x:Int}:∀{l:List Int}{p:Nat},Om x l p p->x∉l->Nm x l=l.take p++x::l.drop p
 |[],p,h,hx=>by simp[Nm]
 |y::l,0,h,hx=>by have d:=h.hi 0 y (Zv _) rfl;have:x≠y:=λe=>hx (by simp[e]);rw[Nm,if_pos (by omega)];rfl
 |y::l,p+1,h,hx=>by have d:=h.lo 0 y (by omega) rfl;rw[Nm,if_neg (by omega),Qm8 (p:=p) ⟨Zv _,by have:=h.len;simp at this;omega,λk v q c=>h.lo (k+1) v (by omega) (by simpa using c),λk v q c=>h.hi (k+1) v (by omega) (by simpa using c)⟩ (λh=>hx (by simp[h]))];rfl
theorem Gk{h:Qm}(c:Ex h)(i:Int):(h.aM i).Pairwise (· < ·):=by unfold Qm.aM;exact List.pairwise_map.2 (c.filter _)
theorem Ph(h:Qm)(d i:Int):Qm.aM (h.filter λx=>!decide (x.sp.id=d)) i=(h.aM i).filter λy=>!decide (y=d):=by unfold Qm.aM;rw[List.filter_map,List.filter_filter,List.filter_filter];congr 1;exact List.filter_congr λx _=>by simp[Function.comp,Bool.and_comm]
theorem Ik(h:Qm)(s:Yk)(i:Int):Qm.aM (h.map λx=>if x.sp.id=s.id then⟨x.sp.aK s,x.d⟩else x) i=h.aM i:=by
 induction h with
 |nil=>rfl
 |cons x l d=>
  rw[List.map_cons,Dk,Dk,d];by_cases c:x.sp.id=s.id;·have e:(if x.sp.id=s.id then(⟨x.sp.aK s,x.d⟩:Vm)else x)=⟨x.sp.aK s,x.d⟩:=if_pos c;rw[e];rfl
  .simp only[c,if_false]
theorem Ef(c:Vm):∀(h:Qm),(Mb c h).Perm (h++[c])
 |[]=>List.Perm.refl _
 |x::l=>by
  rw[Mb];by_cases Xg:c.sp.id<x.sp.id;·rw[if_pos Xg];exact List.perm_append_comm (l₁:=[c]) (l₂:=x::l)
  .rw[if_neg Xg];exact(Ef c l).cons x
theorem Wz(c:Vm):∀{h:Qm},Ex h->(∀x∈h,x.sp.id≠c.sp.id)->Ex (Mb c h)
 |[],_,_=>by simp[Mb,Ex]
 |x::l,hs,hn=>by
  have k:=List.pairwise_cons.1 hs;rw[Mb];by_cases Xg:c.sp.id<x.sp.id
  .rw[if_pos Xg];refine List.pairwise_cons.2 ⟨λy d=>?_,hs⟩;rcases Zu.1 d with rfl|d;·exact Xg
   .exact Int.lt_trans Xg (k.1 y d)
  .rw[if_neg Xg];refine List.pairwise_cons.2 ⟨λy d=>?_,Wz c k.2 λz q=>hn z (by simp[q])⟩;have:=(Ef c l).mem_iff.1 d;rcases Zl.1 this with d|d;·exact k.1 y d
   .have e:y=c:=by simpa using d
    have:=hn x (by simp);rw[e];omega
section
variable{f:Jc}
theorem Cc{m:Jh}{j:Int}(h:j≠m.id):(f.set m).at j=f.at j:=by
 obtain⟨c,u⟩:=f;unfold Jc.at Jc.set;dsimp only;induction c with
 |nil=>rfl
 |cons z l q=>
  rw[List.map_cons,List.find?_cons,List.find?_cons];by_cases d:z.id=m.id;·rw[if_pos d];have B:¬m.id=j:=λe=>h e.symm;have E:¬z.id=j:=λe=>h (by rw[<-e,d]);simp only[B,E,decide_false];exact q
  .rw[if_neg d];by_cases k:z.id=j;·simp[k]
   .simp only[k,decide_false];exact q
theorem Ip{m y:Jh}(h:f.at m.id=some y):(f.set m).at m.id=some m:=by
 obtain⟨c,k⟩:=f;unfold Jc.at Jc.set at*;dsimp only at*;induction c with
 |nil=>cases h
 |cons z l q=>
  rw[List.map_cons,List.find?_cons];rw[List.find?_cons]at h;by_cases d:z.id=m.id;·simp[d]
  .simp only[d,decide_false,if_false]at h|-;exact q h
theorem T5{m y:Jh}(h:f.at m.id=some y)(j:Int):(f.set m).at j=if j=m.id then some m else f.at j:=by
 split;·rename_i e;rw[e];exact Ip h
 .rename_i e;exact Cc e
theorem Fu{m y:Jh}{v:Nat}(h:f.at m.id=some y)(j:Int):(f.made m v).at j=if j=m.id then some {m with v:=v}else f.at j:=
 T5 (m:={m with v:=v}) h j
theorem Qes(i j:Int):(f.wake i).at j=if j=i then(f.at i).map (λm=>if m.aL then m else{m with run:=m.run.start (f.start m) m.total,aL:=true,v:=f.start m})else f.at j:=by
 unfold Jc.wake;cases h:f.at i with
 |none=>
  dsimp only;split;·rename_i e;rw[e,h];rfl
  .rfl
 |some m=>
  have c:=(Jc.aE h).2;subst c;dsimp only;by_cases ha:m.aL=true
  .rw[if_pos ha];split;·rename_i e;rw[e,h];simp[ha]
   .rfl
  .rw[if_neg ha,Fu (m:={m with run:=m.run.start (f.start m) m.total,aL:=true}) (y:=m) h];dsimp only;split;·simp[ha]
   .rfl
theorem M6(i j:Int):(f.sleep i).at j=if j=i then(f.at i).map (λm=>{m with aL:=false})else f.at j:=by
 unfold Jc.sleep;cases h:f.at i with
 |none=>
  dsimp only;split;·rename_i e;rw[e,h];rfl
  .rfl
 |some m=>
  have c:=(Jc.aE h).2;subst c;dsimp only;rw[T5 (m:={m with aL:=false}) (y:=m) h];dsimp only;split;·rfl
  .rfl
theorem Qeq(i:Int)(g:Nat)(j:Int):(f.gain i g).at j=if j=i then(f.at i).map (λm=>if m.aL then{m with total:=m.total+min g (Xw-m.total),v:=m.run.reach (m.total+min g (Xw-m.total))}else{m with total:=m.total+min g (Xw-m.total)})else f.at j:=by
 unfold Jc.gain;cases h:f.at i with
 |none=>
  dsimp only;split;·rename_i e;rw[e,h];rfl
  .rfl
 |some m=>
  have c:=(Jc.aE h).2;subst c;dsimp only;by_cases ha:m.aL=true
  .rw[if_pos ha,Fu (m:={m with total:=m.total+min g (Xw-m.total)}) (y:=m) h];dsimp only;split;·simp[ha]
   .rfl
  .rw[if_neg ha,T5 (m:={m with total:=m.total+min g (Xw-m.total)}) (y:=m) h];dsimp only;split;·simp[ha]
   .rfl
theorem Qq2(i:Int)(c:Jy)(j:Int):(f.add i c).at j=if j=i/\f.at i=none then some ⟨i,0,0,.new c,false⟩else f.at j:=by grind [Jc.add,Qm.add,Qf.add,Jy.at,Tr.at,Xh.at,Jc.at]
theorem M4(i j:Int):(f.drop i).at j=if j=i then none else f.at j:=by grind [Jc.drop,Qm.drop,Jy.at,Tr.at,Xh.at,Jc.at,Vm.id]
theorem Que{i j:Int}:(f.wake i).up j=if j=i then(f.at i).isSome else f.up j:=by
 unfold Jc.up;rw[Qes];split
 .cases f.at i with
  |none=>rfl
  |some m=>by_cases h:m.aL=true<;>simp[h]
 .rfl
theorem Qsz{i j:Int}:(f.sleep i).up j=if j=i then false else f.up j:=by
 unfold Jc.up;rw[M6];split;·cases f.at i<;>rfl
 .rfl
theorem Qud{i j:Int}{g:Nat}:(f.gain i g).up j=f.up j:=by
 unfold Jc.up;rw[Qeq];split
 .rename_i e;rw[e];cases f.at i with
  |none=>rfl
  |some m=>by_cases h:m.aL=true<;>simp[h]
 .rfl
theorem Qqf{i j:Int}:((f.wake i).at j).isSome=(f.at j).isSome:=by
 rw[Qes];split;·rename_i e;rw[e];simp
 .rfl
theorem Qmk{i j:Int}:((f.sleep i).at j).isSome=(f.at j).isSome:=by
 rw[M6];split;·rename_i e;rw[e];simp
 .rfl
theorem Qqe{i j:Int}{g:Nat}:((f.gain i g).at j).isSome=(f.at j).isSome:=by
 rw[Qeq];split;·rename_i e;rw[e];simp
 .rfl
end
section
variable{p p' p'':Qe}{N:Nat}{dep:Int->Nat}
structure Bo(p p':Qe)(j:Int):Prop where
 up:Jv p p'
 mem:∀k,(p'.at k).map (λc=>(c.mem.up j,c.mem.v j))=(p.at k).map λc=>(c.mem.up j,c.mem.v j)
 fit:(p'.at j).map Qx.fit=(p.at j).map Qx.fit
 tree:∀k q',p'.at k=some q'->∃q,p.at k=some q/\∀a b,(a,j,b)∈q'.tree↔(a,j,b)∈q.tree
theorem Bo.refl(p:Qe)(j:Int):Bo p p j:=⟨Jv.refl _,λ_=>rfl,rfl,λk c h=>⟨c,h,λ_ _=>Iff.rfl⟩⟩
theorem Bo.trans{j:Int}(h:Bo p p' j)(h':Bo p' p'' j):Bo p p'' j:=⟨h.up.trans h'.up,λk=>(h'.mem k).trans (h.mem k),h'.fit.trans h.fit,λk c E=>by
 obtain⟨I,d,u⟩:=h'.tree k c E;obtain⟨q,z,B⟩:=h.tree k I d;exact⟨q,z,λa b=>(u a b).trans (B a b)⟩⟩
theorem Jv.back(h:Jv p p'){i:Int}{c:Qx}(k:p'.at i=some c):∃d,p.at i=some d/\d.par=c.par/\d.leaf=c.leaf/\d.aJ=c.aJ:=by have h':Jv p' p:=λj=>(h j).symm;exact h'.get k
theorem Jv.none(h:Jv p p'){i:Int}(c:p.at i=none):p'.at i=none:=by have:=h i;rw[c]at this;simpa using this
theorem Bo.aL{j:Int}(h:Bo p p' j):p'.aL j=p.aL j:=by
 unfold Qe.aL;cases z:p.at j with
 |none=>rw[h.up.none z]
 |some c=>
  obtain⟨c',d,e,_⟩:=h.up.get z;rw[d];dsimp only;rw[e];have:=h.mem c.par;cases k:p.at c.par with
  |none=>rw[h.up.none k]
  |some q=> rw[k]at this;obtain⟨B,u,_⟩:=h.up.get k;rw[u]at this|-;simp only[Zn,Option.some.injEq,Prod.mk.injEq]at this;simp[this.1]
theorem Bo.v{j:Int}(h:Bo p p' j):p'.v j=p.v j:=by
 unfold Qe.v;cases z:p.at j with
 |none=>rw[h.up.none z]
 |some c=>
  obtain⟨B,d,e,_⟩:=h.up.get z;rw[d];dsimp only;rw[e];have:=h.mem c.par;cases k:p.at c.par with
  |none=>rw[h.up.none k]
  |some q=> rw[k]at this;obtain⟨E,u,_⟩:=h.up.get k;rw[u]at this|-;simp only[Zn,Option.some.injEq,Prod.mk.injEq]at this;simp[this.2]
def Mw(p:Qe)(i:Int):Prop:=∀k q,p.at k=some q->∀a b,((a,i,b)∈q.tree↔0<i/\p.aL i=true/\a=p.v i/\∃c,p.at i=some c/\c.par=k/\b=c.fit)
theorem Mw.off{j:Int}(h:Mw p j)(z:Bo p p' j):Mw p' j:=by
 intro k V J a b;obtain⟨q,R,U⟩:=z.tree k V J;rw[U,h k q R,z.aL,z.v];have u:=z.fit;refine and_congr_right λ_=>and_congr_right λ_=>and_congr_right λ_=>⟨λ⟨c,B,E,I⟩=>?_,λ⟨K,d,E,I⟩=>?_⟩;·obtain⟨K,d,e,_⟩:=z.up.get B;rw[B,d]at u;simp only[Zn,Option.some.injEq]at u;exact⟨K,d,e.trans E,I.trans u.symm⟩
 .obtain⟨c,B,e,_⟩:=z.up.back d;rw[B,d]at u;simp only[Zn,Option.some.injEq]at u;exact⟨c,B,e.trans E,I.trans u⟩
theorem Bo.set{x y:Qx}{j:Int}(d:p.at x.id=some y)(B:x.par=y.par)(z:x.leaf=y.leaf)(E:x.aJ=y.aJ)(q:x.mem.up j=y.mem.up j/\x.mem.v j=y.mem.v j)(u:j=x.id->x.fit=y.fit)
  (I:∀a b,(a,j,b)∈x.tree↔(a,j,b)∈y.tree):Bo p (p.set x) j:=by
 refine⟨Jv.set d B z E,λk=>?_,?_,λk J c=>?_⟩
 .rw[V0 d];split;·rename_i e;rw[e,d];simp[q.1,q.2]
  .rfl
 .rw[V0 d];split;·rename_i e;rw[e,d];simp[u e]
  .rfl
 .rw[V0 d]at c;split at c;·rename_i e;obtain rfl:=Zs c;exact⟨y,by rw[e];exact d,I⟩
  .exact⟨J,c,λ_ _=>Iff.rfl⟩
def Hm(p p':Qe):Prop:=∀k j,(p'.at k).map (λc=>((c.mem.at j).isSome,c.aM))=(p.at k).map λc=>((c.mem.at j).isSome,c.aM)
theorem Hm.refl(p:Qe):Hm p p:=λ_ _=>rfl
theorem Hm.trans(h:Hm p p')(h':Hm p' p''):Hm p p'':=λk j=>(h' k j).trans (h k j)
theorem Hm.set{x y:Qx}(c:p.at x.id=some y)(d:∀j,(x.mem.at j).isSome=(y.mem.at j).isSome)(q:x.aM=y.aM):Hm p (p.set x):=λk j=>by
 rw[V0 c];split;·rename_i e;rw[e,c];simp[d,q]
 .rfl
theorem Ab{i:Int}{c q:Qx}{f:Jc->Jc}(u:p.at i=some c)(d:p.at c.par=some q){j:Int}(z:(f q.mem).up j=q.mem.up j/\(f q.mem).v j=q.mem.v j):Bo p (p.fam i f) j:=by rw[Py u d];have k:=(Qe.aE d).2;exact Bo.set (x:={q with mem:=f q.mem}) (y:=q) (show p.at q.id=_ by rw[k];exact d) rfl rfl rfl z (λ_=>rfl) (λ_ _=>Iff.rfl)
theorem Qap{i:Int}{c q:Qx}{f:Jc->Jc}(u:p.at i=some c)(d:p.at c.par=some q)(z:∀j,((f q.mem).at j).isSome=(q.mem.at j).isSome):Hm p (p.fam i f):=by rw[Py u d];have k:=(Qe.aE d).2;exact Hm.set (x:={q with mem:=f q.mem}) (y:=q) (show p.at q.id=_ by rw[k];exact d) z rfl
theorem Be{f g:Jc}{j:Int}(h:f.at j=g.at j):f.up j=g.up j/\f.v j=g.v j:=by unfold Jc.up Jc.v;rw[h];exact⟨rfl,rfl⟩
theorem Pt{i:Int}{c q:Qx}{f:Jc->Jc}(u:p.at i=some c)(k:p.at c.par=some q)(j:Int):(p.fam i f).at j=if j=c.par then some {q with mem:=f q.mem}else p.at j:=by rw[Py u k];have d:=(Qe.aE k).2;have:=V0 (p:=p) (x:={q with mem:=f q.mem}) (y:=q) (show p.at q.id=_ by rw[d];exact k) j;rw[this];show(if j=q.id then _ else _)=_;rw[d]
theorem Qmq{now:Nat}{i:Int}{c:Qx}(d:p.at i=some c):p.up1 now i=if p.aL i||!c.aJ then p else(p.fam i λf=>f.wake i).set {c with limit:=c.limit.wake now c.total}:=by unfold Qe.up1;rw[d]
theorem Qni(B:Qs dep N p){now:Nat}{i:Int}{c q:Qx}(d:p.at i=some c)(R:0<i)(E:p.at c.par=some q){j:Int}(J:j≠i):Bo p (p.up1 now i) j:=by
 rw[Qmq d];split;·exact Bo.refl _ _
 .obtain⟨z,I⟩:=B.pid d R E;have K:Bo p (p.fam i λf=>f.wake i) j:=Ab d E (Be (by rw[Qes,if_neg J]));have k:=(Qe.aE d).2;have u:(p.fam i λf=>f.wake i).at c.id=some c:=by rw[k,Pt d E,if_neg (λe=>z (by rw[I,<-e]))];exact d
  exact K.trans (Bo.set (x:={c with limit:=c.limit.wake now c.total}) (y:=c) u rfl rfl rfl ⟨rfl,rfl⟩ (λe=>absurd (e.trans k) J) (λ_ _=>Iff.rfl))
theorem Qrz(B:Qs dep N p){now:Nat}{i:Int}{c q:Qx}(d:p.at i=some c)(J:0<i)(E:p.at c.par=some q):Hm p (p.up1 now i):=by
 rw[Qmq d];split;·exact Hm.refl _
 .obtain⟨z,I⟩:=B.pid d J E;have u:=(Qe.aE d).2;have k:(p.fam i λf=>f.wake i).at c.id=some c:=by rw[u,Pt d E,if_neg (λe=>z (by rw[I,<-e]))];exact d
  exact(Qap d E (λj=>Qqf)).trans (Hm.set (x:={c with limit:=c.limit.wake now c.total}) (y:=c) k (λ_=>rfl) rfl)
def Bt(p:Qe):Prop:=∀k q,p.at k=some q->∀j,(q.mem.at j).isSome=true↔∃c,p.at j=some c/\0<j/\c.par=k/\c.aJ=true
theorem Bt.same(h:Bt p)(R:Jv p p')(V:Hm p p'):Bt p':=by
 intro k Z z j;obtain⟨q,U,_⟩:=R.back z;have d:=V k j;rw[U,z]at d;simp only[Zn,Option.some.injEq,Prod.mk.injEq]at d;rw[d.1,h k q U j];refine⟨λ⟨c,K,d,I,J⟩=>?_,λ⟨c,K,d,I,J⟩=>?_⟩;·obtain⟨c',u,B,_,E⟩:=R.get K;exact⟨c',u,d,B.trans I,E.trans J⟩
 .obtain⟨c',u,B,_,E⟩:=R.back K;exact⟨c',u,d,B.trans I,E.trans J⟩
theorem Qqn(K:Qs dep N p)(hm:Bt p){now:Nat}{i:Int}{c q:Qx}(d:p.at i=some c)(I:0<i)(B:p.at c.par=some q):(p.up1 now i).aL i=(p.aL i||c.aJ):=by
 rw[Qmq d];by_cases ha:p.aL i=true;·rw[if_pos (by simp[ha]),ha];rfl
 .have ha:p.aL i=false:=by simpa using ha
  by_cases u:c.aJ=true
  .rw[if_neg (by simp[ha,u]),ha];obtain⟨J,R⟩:=K.pid d I B;have k:=(Qe.aE d).2;have z:c.par≠i:=λe=>J (by rw[R,e]);have E:(p.fam i λf=>f.wake i).at c.id=some c:=by rw[k,Pt d B,if_neg (Ne.symm z)];exact d
   have U:=V0 (x:={c with limit:=c.limit.wake now c.total}) (y:=c) E;have V:((p.fam i λf=>f.wake i).set {c with limit:=c.limit.wake now c.total}).at i=some {c with limit:=c.limit.wake now c.total}:=by rw[U,if_pos k.symm]
   have Z:((p.fam i λf=>f.wake i).set {c with limit:=c.limit.wake now c.total}).at c.par=some {q with mem:=q.mem.wake i}:=by rw[U,if_neg (λe=>z (e.trans k)),Pt d B,if_pos rfl]
   rw[Qe.awake_eq V (q:={q with mem:=q.mem.wake i}) Z I];show(q.mem.wake i).up i=_;rw[Que,if_pos rfl];have:=(hm c.par q B i).2 ⟨c,d,I,rfl,u⟩;rw[this,u];rfl
  .have u:c.aJ=false:=by simpa using u
   rw[if_pos (by simp[u]),ha,u];rfl
theorem Qaz{i:Int}{c q:Qx}(B:p.at i=some c)(u:p.at c.par=some q){j:Int}(z:j≠i)(k:j≠c.par):Bo p (p.note i) j:=by
 rw[St B u];have d:=(Qe.aE u).2;refine Bo.set (y:=q) (show p.at q.id=_ by rw[d];exact u) rfl rfl rfl ⟨rfl,rfl⟩ (λe=>absurd (e.trans d) k) λa b=>?_;dsimp only;split;·unfold Vf;rw[Lb];unfold Xa;rw[List.mem_filter];simp only[Prod.mk.injEq,z,false_and,and_false,false_or,Bool.not_eq_true',decide_eq_false_iff_not,not_false_eq_true,and_true]
 .unfold Xa;rw[List.mem_filter];simp only[z,Bool.not_eq_true',decide_eq_false_iff_not,not_false_eq_true,and_true]
theorem Cr{i:Int}{c q:Qx}(u:p.at i=some c)(d:p.at c.par=some q):Hm p (p.note i):=by rw[St u d];have k:=(Qe.aE d).2;exact Hm.set (y:=q) (show p.at q.id=_ by rw[k];exact d) (λ_=>rfl) rfl
theorem Qr7{i:Int}{c q:Qx}(z:p.at i=some c)(u:p.at c.par=some q)(j:Int):∀k,((p.note i).at k).map (λc=>(c.mem.up j,c.mem.v j))=(p.at k).map λc=>(c.mem.up j,c.mem.v j):=λk=>by
 rw[St z u];have d:=(Qe.aE u).2;rw[V0 (x:={q with tree:=if p.aL i then Vf i (p.v i) c.fit q.tree else Xa i q.tree}) (y:=q) (show p.at q.id=_ by rw[d];exact u)];show Option.map _ (if k=q.id then _ else _)=_;by_cases e:k=q.id;·rw[if_pos e,e,d,u];rfl
 .rw[if_neg e]
theorem Qgk(d:Jv p p'){j:Int}(I:∀k,(p'.at k).map (λc=>(c.mem.up j,c.mem.v j))=(p.at k).map λc=>(c.mem.up j,c.mem.v j)):p'.aL j=p.aL j/\p'.v j=p.v j:=by
 unfold Qe.aL Qe.v;cases E:p.at j with
 |none=>rw[d.none E];exact⟨rfl,rfl⟩
 |some c=>
  obtain⟨J,u,e,_⟩:=d.get E;rw[u];dsimp only;rw[e];have:=I c.par;cases z:p.at c.par with
  |none=>rw[d.none z];exact⟨rfl,rfl⟩
  |some q=> rw[z]at this;obtain⟨K,B,_⟩:=d.get z;rw[B]at this|-;simp only[Zn,Option.some.injEq,Prod.mk.injEq]at this;simp[this.1,this.2]
theorem E9(d:Qs dep N p){i:Int}{c q:Qx}(k:p.at i=some c)(z:0<i)(u:p.at c.par=some q)(j:Int):(p.note i).aL j=p.aL j/\(p.note i).v j=p.v j:=Qgk (d.note k z u).2 (Qr7 k u j)
theorem Wg(B:Qs dep N p){i:Int}{c q:Qx}(J:p.at i=some c)(hi:0<i)(U:p.at c.par=some q):Mw (p.note i) i:=by
 obtain⟨aa,I⟩:=B.pid J hi U;obtain⟨ha,hv⟩:=E9 B J hi U i;intro k q' u a b;rw[ha,hv];have K:∀j,(p.note i).at j=if j=c.par then some {q with tree:=if p.aL i then Vf i (p.v i) c.fit q.tree else Xa i q.tree}else p.at j:=λj=>by rw[St J U,V0 (x:={q with tree:=if p.aL i then Vf i (p.v i) c.fit q.tree else Xa i q.tree}) (y:=q) (show p.at q.id=_ by rw[I];exact U)];show(if j=q.id then _ else _)=_;rw[I]
 have ab:i≠c.par:=λe=>aa (by rw[I,e]);rw[K,if_neg ab];rw[K]at u;by_cases R:k=c.par
 .rw[if_pos R]at u;obtain rfl:=Zs u;dsimp only;by_cases z:p.aL i=true;·rw[if_pos z];unfold Vf;rw[Lb];unfold Xa;rw[List.mem_filter];simp only[Prod.mk.injEq,true_and,decide_true,Bool.not_true,Bool.false_eq_true,and_false,or_false,hi,z,J,Option.some.injEq,exists_eq_left'];exact⟨λ⟨V,Z⟩=>⟨V,R.symm,Z⟩,λ⟨V,_,Z⟩=>⟨V,Z⟩⟩
  .rw[if_neg z];unfold Xa;rw[List.mem_filter];simp[z]
 .rw[if_neg R]at u;refine⟨λhm=>?_,λ⟨_,_,_,c',d,E,_⟩=>?_⟩;·obtain⟨ae,ac⟩:=Qe.aE u;obtain⟨c',d,E,_⟩:=B.tr q' ae (a,i,b) hm;dsimp only at d;rw[J]at d;obtain rfl:=Zs d;exact absurd (ac.symm.trans E.symm) R
  .rw[J]at d;obtain rfl:=Zs d;exact absurd E.symm R
theorem Wq{g:Nat}{i:Int}{c:Qx}(d:p.at i=some c):p.aV g i=(p.set {c with total:=c.total+min g (Xw-c.total)}).fam i λf=>f.gain i g:=by unfold Qe.aV;rw[d]
theorem Ce(B:Qs dep N p){g:Nat}{i:Int}{c q:Qx}(u:p.at i=some c)(K:0<i)(J:p.at c.par=some q):
  p.at c.id=some c/\(p.set {c with total:=c.total+min g (Xw-c.total)}).at i=some {c with total:=c.total+min g (Xw-c.total)}/\(p.set {c with total:=c.total+min g (Xw-c.total)}).at c.par=some q:=by
 obtain⟨z,E⟩:=B.pid u K J;have d:=(Qe.aE u).2;have k:p.at c.id=some c:=by rw[d];exact u
 have I:=V0 (x:={c with total:=c.total+min g (Xw-c.total)}) (y:=c) k;exact⟨k,by rw[I,if_pos d.symm],by rw[I,if_neg (λe=>z (by rw[E,e];exact d))];exact J⟩
theorem Qd0(z:Qs dep N p){g:Nat}{i:Int}{c q:Qx}(d:p.at i=some c)(J:0<i)(K:p.at c.par=some q){j:Int}(B:j≠i):Bo p (p.aV g i) j:=by
 rw[Wq d];obtain⟨k,E,I⟩:=Ce (g:=g) z d J K;have u:=(Qe.aE d).2;exact(Bo.set (x:={c with total:=c.total+min g (Xw-c.total)}) (y:=c) k rfl rfl rfl ⟨rfl,rfl⟩ (λe=>absurd (e.trans u) B) (λ_ _=>Iff.rfl)).trans
  (Ab E I (Be (by rw[Qeq,if_neg B])))
theorem Qk4(k:Qs dep N p){g:Nat}{i:Int}{c q:Qx}(u:p.at i=some c)(E:0<i)(I:p.at c.par=some q):Hm p (p.aV g i):=by rw[Wq u];obtain⟨d,z,B⟩:=Ce (g:=g) k u E I;exact(Hm.set (x:={c with total:=c.total+min g (Xw-c.total)}) (y:=c) d (λ_=>rfl) rfl).trans (Qap z B (λj=>Qqe))
theorem Qg5(d:Qs dep N p){g:Nat}{i:Int}{c q:Qx}(k:p.at i=some c)(u:0<i)(z:p.at c.par=some q)(j:Int):(p.aV g i).aL j=p.aL j:=by
 by_cases R:j=i
 .obtain⟨E,J⟩:=d.pid k u z;obtain⟨Z,B,K⟩:=Ce (g:=g) d k u z;have I:i≠c.par:=λe=>E (by rw[J,e]);rw[Wq k,R];have U:((p.set {c with total:=c.total+min g (Xw-c.total)}).fam i λf=>f.gain i g).at i=some {c with total:=c.total+min g (Xw-c.total)}:=by rw[Pt B K,if_neg I];exact B
  have V:((p.set {c with total:=c.total+min g (Xw-c.total)}).fam i λf=>f.gain i g).at c.par=some {q with mem:=q.mem.gain i g}:=by rw[Pt B K,if_pos rfl]
  rw[Qe.awake_eq U (q:={q with mem:=q.mem.gain i g}) V u,Qe.awake_eq k z u];exact Qud
 .exact(Qd0 d k u z R).aL
theorem Nu{d:Bool}{i:Int}{c:Qx}(k:p.at i=some c):p.aW d i=Qe.note (if d&&(c.leaf||decide (c.tree.length=0))then p.fam i λf=>f.sleep i else p) i:=by unfold Qe.aW;rw[k]
theorem Sw(u:Qs dep N p){i:Int}{c q:Qx}(d:p.at i=some c)(I:0<i)(B:p.at c.par=some q):
  (p.fam i λf=>f.sleep i).at i=some c/\(p.fam i λf=>f.sleep i).at c.par=some {q with mem:=q.mem.sleep i}:=by
 obtain⟨k,E⟩:=u.pid d I B;have z:i≠c.par:=λe=>k (by rw[E,e]);exact⟨by rw[Pt d B,if_neg z];exact d,by rw[Pt d B,if_pos rfl]⟩
theorem Qi8(d:Qs dep N p){i:Int}{c q:Qx}(u:p.at i=some c)(z:0<i)(k:p.at c.par=some q):Qs dep N (p.fam i λf=>f.sleep i)/\Jv p (p.fam i λf=>f.sleep i):=by obtain⟨B,E,_⟩:=d.fam (f:=λf=>f.sleep i) (Zv _) u z k ((d.ok q (Qe.aE k).1).fam.sleep i);exact⟨B,E⟩
theorem Qpg(z:Qs dep N p){K:Bool}{i:Int}{c q:Qx}(k:p.at i=some c)(J:0<i)(B:p.at c.par=some q){j:Int}(u:j≠i)(d:j≠c.par):Bo p (p.aW K i) j:=by
 rw[Nu k];split;·obtain⟨E,I⟩:=Sw z k J B;exact(Ab k B (Be (by rw[M6,if_neg u]))).trans (Qaz E I u d)
 .exact Qaz k B u d
theorem Qk5(k:Qs dep N p){I:Bool}{i:Int}{c q:Qx}(d:p.at i=some c)(E:0<i)(u:p.at c.par=some q):Hm p (p.aW I i):=by
 rw[Nu d];split;·obtain⟨z,B⟩:=Sw k d E u;exact(Qap d u (λj=>Qmk)).trans (Cr z B)
 .exact Cr d u
theorem Qog(d:Qs dep N p){I:Bool}{i:Int}{c q:Qx}(k:p.at i=some c)(u:0<i)(z:p.at c.par=some q):Mw (p.aW I i) i:=by
 rw[Nu k];split;·obtain⟨B,E⟩:=Sw d k u z;exact Wg (Qi8 d k u z).1 B u E
 .exact Wg d k u z
theorem Og(d:Qs dep N p){I:Bool}{i:Int}{c q:Qx}(k:p.at i=some c)(u:0<i)(B:p.at c.par=some q)(j:Int):
  (p.aW I i).aL j=if j=i/\(I&&(c.leaf||decide (c.tree.length=0)))=true then false else p.aL j:=by
 rw[Nu k];by_cases E:(I&&(c.leaf||decide (c.tree.length=0)))=true
 .obtain⟨J,K⟩:=Sw d k u B;rw[if_pos E,(E9 (Qi8 d k u B).1 J u K j).1];by_cases z:j=i;·rw[if_pos ⟨z,E⟩,z,Qe.awake_eq J K u];show(q.mem.sleep i).up i=_;rw[Qsz,if_pos rfl]
  .rw[if_neg (λh=>z h.1)];exact(Ab k B (Be (by rw[M6,if_neg z]))).aL
 .rw[if_neg E,if_neg (λh=>E h.2),(E9 d k u B j).1]
end
section
variable{p p':Qe}{N:Nat}{dep:Int->Nat}
theorem Gv(h:Jv p p'):∀(n:Nat)(i:Int),p'.path n i=p.path n i
 |0,_=>rfl
 |n+1,i=>by
  rw[Qe.path,Qe.path];by_cases d:i<1;·rw[if_pos d,if_pos d]
  .rw[if_neg d,if_neg d];cases q:p.at i with
   |none=>rw[h.none q]
   |some c=> obtain⟨u,k,e,_⟩:=h.get q;rw[k];dsimp only;rw[e,Gv h n]
theorem Mf(q:Qs dep N p):∀{l:List Int}{id:Int},Vy p (id::l)->∀k∈l,dep k<dep id
 |[],_,_,k,d=>by cases d
 |x::l,id,h,k,d=>by
  obtain⟨R,⟨c,E,K⟩,B⟩:=h;obtain⟨J,u⟩:=Qe.aE E;have I:=(q.up.2 c J (by omega)).2.2.1;have z:c.par=x:=K;rw[u,z]at I;rcases Zu.1 d with rfl|d;·omega
  .have:=Mf q B k d;omega
theorem Qa0(c:Qs dep N p){l:List Int}{id:Int}(h:Vy p (id::l)):id∉l:=λd=>by have:=Mf c h id d;omega
theorem Sv{n:Nat}{i:Int}{c:Qx}(d:p.at i=some c)(k:0<i):i∈p.path (n+1) i:=by rw[Qe.path,if_neg (by omega),d];simp
theorem Qnk(k:Qs dep N p):∀{n:Nat}{i j:Int}{c:Qx},dep i<n->j∈p.path n i->p.at j=some c->0<c.par->c.par∈p.path n i
 |0,i,j,c,hd,_,_,_=>by omega
 |n+1,i,j,c,hd,d,hc,hp=>by
  rw[Qe.path]at d|-;by_cases J:i<1;·rw[if_pos J]at d;cases d
  .rw[if_neg J]at d|-;cases u:p.at i with
   |none=>rw[u]at d;cases d
   |some x=>
    rw[u]at d;dsimp only at d|-;obtain⟨K,E⟩:=Qe.aE u;have B:=(k.up.2 x K (by omega)).2.2.1;rw[E]at B;rcases Zu.1 d with rfl|d;·rw[u]at hc;obtain rfl:=Zs hc;obtain⟨q,z⟩:=k.par u (by omega);refine Zr _ ?_;have I:=(k.up.2 q (Qe.aE z).1 (by rw[(Qe.aE z).2];omega)).2.2.1;rw[(Qe.aE z).2]at I;obtain⟨m,rfl⟩:∃m,n=m+1:=⟨n-1,by omega⟩;exact Sv z hp
    .exact Zr _ (Qnk k (by omega) d hc hp)
theorem Quz(d:Qs dep N p){i:Int}{c:Qx}(q:p.at i=some c):dep i<=8:=by
 obtain⟨u,k⟩:=Qe.aE q;have z:=d.pos q;by_cases h:i=0;·rw[h,d.up.1];omega
 .have:=(d.up.2 c u (by omega)).2.2.2;rwa[k]at this
structure Uz(p:Qe):Prop where
 ent:∀j,Mw p j
 memb:Bt p
 inn:∀i c q,p.at i=some c->0<i->p.at c.par=some q->q.leaf=false
 low:∀j,p.aL j=true->∃L c,p.at L=some c/\c.leaf=true/\j∈p.path 9 L/\p.aL L=true
theorem Mi(k:Qs dep N p)(E:∀i c q,p.at i=some c->0<i->p.at c.par=some q->q.leaf=false):∀{n:Nat}{i j:Int},j∈p.path n i->j≠i->∃c,p.at j=some c/\c.leaf=false
 |0,i,j,d,_=>by rw[Qe.path]at d;cases d
 |n+1,i,j,d,hne=>by
  rw[Qe.path]at d;by_cases z:i<1;·rw[if_pos z]at d;cases d
  .rw[if_neg z]at d;cases u:p.at i with
   |none=>rw[u]at d;cases d
   |some x=>
    rw[u]at d;dsimp only at d;rcases Zu.1 d with rfl|d;·exact absurd rfl hne
    .by_cases e:j=x.par;·obtain⟨q,B⟩:=k.par u (by omega);exact⟨q,by rw[e];exact B,E i x q u (by omega) B⟩
     .exact Mi k E d e
theorem Wp{c:Qe->Int->Qe}{J:List Int->Qe->Prop}(h:∀id rest p,J (id::rest) p->J rest (c p id)):∀(l:List Int)(p:Qe),J l p->J [] (l.foldl c p)
 |[],_,hp=>hp
 |id::rest,p,hp=>Wp h rest _ (h id rest p hp)
structure J1(dep:Int->Nat)(N L:Nat)(p0:Qe)(L0:List Int)(rest:List Int)(p:Qe):Prop where
 go:Y9 dep N L p0 rest p
 sub:∀j∈rest,j∈L0
 off:∀j,j∉L0->Bo p0 p j
 memb:Hm p0 p
 aw:∀j,p.aL j=true↔p0.aL j=true\/(j∈L0/\j∉rest/\∃c,p0.at j=some c/\c.aJ=true)
theorem Qts{p0:Qe}{L:Nat}{L0:List Int}(now:Nat)(Z:Bt p0)(id:Int)(rest:List Int)(p:Qe)(h:J1 dep N L p0 L0 (id::rest) p):J1 dep N L p0 L0 rest (p.up1 now id):=by
 obtain⟨E,c,q,k,J,hp⟩:=h.go.head;have u:=h.go.ok;obtain⟨k1,k2⟩:=u.up1 now k E J;have U:id∉rest:=Qa0 u h.go.path;have I:id∈L0:=h.sub id (by simp);refine⟨(h.go.next k1 k2).2.2.1,λj R=>h.sub j (by simp[R]),λj R=>(h.off j R).trans (Qni u k E J (by rintro rfl;exact R I)),h.memb.trans (Qrz u k E J),λj=>?_⟩;by_cases e:j=id
 .subst e;rw[Qqn u (Z.same h.go.same h.memb) k E J,Bool.or_eq_true,h.aw j];obtain⟨V,z,_,_,K⟩:=h.go.same.back k;constructor
  .rintro((d|⟨_,d,_⟩)|d);·exact .inl d
   .exact absurd (List.mem_cons_self) d
   .exact .inr ⟨I,U,V,z,K.trans d⟩
  .rintro(d|⟨_,_,c1,B,d⟩);·exact .inl (.inl d)
   .rw[z]at B;obtain rfl:=Zs B;exact .inr (K.symm.trans d)
 .rw[(Qni u k E J e).aL,h.aw j];refine or_congr_right (and_congr_right λ_=>and_congr_left λ_=>?_);simp[e]
structure J2(dep:Int->Nat)(N L:Nat)(p1:Qe)(rest:List Int)(p:Qe):Prop where
 go:Y9 dep N L p1 rest p
 ent:∀j,j∉rest->Mw p j
 memb:Hm p1 p
 aw:∀j,p.aL j=p1.aL j
theorem Qgz{p:Qe}(d:Qs dep N p){j:Int}(u:¬0<j):Mw p j:=λk q B a b=>by refine⟨λz=>?_,λh=>absurd h.1 u⟩;obtain⟨c,_,_,h⟩:=d.tr q (Qe.aE B).1 (a,j,b) z;exact absurd h u
theorem Qif{p:Qe}{id:Int}{rest:List Int}{c:Qx}(h:c.par=Eu rest){j:Int}(k:j∉rest)(d:0<j):j≠c.par:=by
 rintro rfl;cases rest with
 |nil=>rw[h]at d;exact absurd d (by decide)
 |cons x l=>exact k (by rw[h];exact List.mem_cons_self)
theorem Qtt{p1:Qe}{L:Nat}(id:Int)(rest:List Int)(p:Qe)(h:J2 dep N L p1 (id::rest) p):J2 dep N L p1 rest (p.note id):=by
 obtain⟨u,c,q,d,k,J⟩:=h.go.head;have z:=h.go.ok;obtain⟨I,K⟩:=z.note d u k;refine⟨(h.go.next I K).2.2.1,λj E=>?_,h.memb.trans (Cr d k),λj=>(E9 z d u k j).1.trans (h.aw j)⟩;by_cases e:j=id;·subst e;exact Wg z d u k
 .by_cases B:0<j;·exact(h.ent j (by simp[e,E])).off (Qaz d k e (Qif (p:=p) (id:=id) J E B))
  .exact Qgz I B
theorem Uz.wake(V:Qs dep N p)(hv:Uz p)(i:Int)(now:Nat):
  Uz (p.wake i now)/\Hm p (p.wake i now)/\∀j,(p.wake i now).aL j=true↔p.aL j=true\/(j∈p.path 9 i/\(∃c,p.at j=some c/\c.aJ=true)/\∃c,p.at i=some c/\0<i/\c.leaf=true/\c.aJ=true):=by
 have ab:=V.wake i now;have B:p.wake i now=p->(∀c,p.at i=some c->0<i->c.leaf=true->c.aJ=true->False)->Uz (p.wake i now)/\Hm p (p.wake i now)/\∀j,(p.wake i now).aL j=true↔p.aL j=true\/(j∈p.path 9 i/\(∃c,p.at j=some c/\c.aJ=true)/\∃c,p.at i=some c/\0<i/\c.leaf=true/\c.aJ=true):=λe u=>by rw[e];exact⟨hv,Hm.refl _,λj=>⟨.inl,λh=>h.elim id λ⟨_,_,c,U,h2,h3,h4⟩=>(u c U h2 h3 h4).elim⟩⟩
 cases E:p.at i with
 |none=> have:=B (by unfold Qe.wake;rw[E]) (λc h=>by rw[E]at h;cases h);rw[E]at this;exact this
 |some c=>
  rw[E]at B;by_cases u:(decide (i<1)||!c.leaf||!c.aJ)=true
  .refine B (by unfold Qe.wake;rw[E];dsimp only;rw[if_pos (by simpa using u)]) λc' h U h2 h3=>?_;obtain rfl:=Zs h;have:¬i<1:=by omega
   simp[this,h2,h3]at u
  .have hw:p.wake i now=(p.path 9 i).foldl Qe.note ((p.path 9 i).foldl (Qe.up1 now) p):=by unfold Qe.wake;rw[E];dsimp only;rw[if_neg (by simpa using u)]
   have K:0<i/\c.leaf=true/\c.aJ=true:=by simp only[Bool.or_eq_true,decide_eq_true_eq,Bool.not_eq_true',not_or,Bool.not_eq_false]at u;exact⟨by omega,u.1.2,u.2⟩
   obtain⟨U,_,h3⟩:=De V E;have R:=Wp (Qts (dep:=dep) (N:=N) (p0:=p) (L:=(p.path 9 i).length) (L0:=p.path 9 i) now hv.memb) (p.path 9 i) p
    ⟨Y9.start V U,λj J=>J,λj _=>Bo.refl _ _,Hm.refl _,λj=>⟨.inl,λh=>h.elim id λh=>absurd h.1 h.2.1⟩⟩
   generalize(p.path 9 i).foldl (Qe.up1 now) p=p1 at R hw;have g2:=Wp (Qtt (dep:=dep) (N:=N+(p.path 9 i).length) (p1:=p1) (L:=(p.path 9 i).length)) (p.path 9 i) p1
    ⟨Y9.start (by simpa using R.go.ok) (Vy.same R.go.same U),λj J=>(hv.ent j).off (R.off j J),Hm.refl _,λj=>rfl⟩
   generalize(p.path 9 i).foldl Qe.note p1=p2 at g2 hw;rw[hw];have Z:Jv p p2:=R.go.same.trans g2.go.same;have hm:Hm p p2:=R.memb.trans g2.memb;have I:∀j,p2.aL j=true↔p.aL j=true\/(j∈p.path 9 i/\(∃c,p.at j=some c/\c.aJ=true)):=λj=>by rw[g2.aw j,R.aw j];simp
   refine⟨⟨λj=>g2.ent j (by simp),hv.memb.same Z hm,λk d q hd hk hq=>?_,λj J=>?_⟩,hm,λj=>?_⟩;·obtain⟨d',z,e1,_⟩:=Z.back hd;obtain⟨q',aa,_,e2,_⟩:=Z.back hq;rw[<-e2];exact hv.inn k d' q' z hk (by rw[e1];exact aa)
   .rcases(I j).1 J with J|⟨J,_⟩;·obtain⟨L,d,U,h2,h3,h4⟩:=hv.low j J;obtain⟨d',z,_,e2,_⟩:=Z.get U;exact⟨L,d',z,e2.trans h2,by rw[Gv Z];exact h3,(I L).2 (.inl h4)⟩
    .obtain⟨d',z,_,e2,_⟩:=Z.get E;exact⟨i,d',z,e2.trans K.2.1,by rw[Gv Z];exact J,(I i).2 (.inr ⟨Sv E K.1,c,E,K.2.2⟩)⟩
   .rw[I j];exact or_congr_right (and_congr_right λ_=>⟨λh=>⟨h,c,rfl,K⟩,λh=>h.1⟩)
structure J3(dep:Int->Nat)(N L:Nat)(p0:Qe)(L0:List Int)(rest:List Int)(p:Qe):Prop where
 go:Y9 dep N L p0 rest p
 sub:∀j∈rest,j∈L0
 off:∀j,j∉L0->Bo p0 p j
 memb:Hm p0 p
 aw:∀j,p.aL j=p0.aL j
theorem Qtu{p0:Qe}{L:Nat}{L0:List Int}(g:Nat)(id:Int)(rest:List Int)(p:Qe)(h:J3 dep N L p0 L0 (id::rest) p):J3 dep N L p0 L0 rest (p.aV g id):=by obtain⟨k,c,q,d,z,K⟩:=h.go.head;have B:=h.go.ok;obtain⟨I,J⟩:=B.aV g d k z;have E:id∈L0:=h.sub id (by simp);exact⟨(h.go.next I J).2.2.1,λj u=>h.sub j (by simp[u]),λj u=>(h.off j u).trans (Qd0 B d k z (by rintro rfl;exact u E)),h.memb.trans (Qk4 B d k z),λj=>(Qg5 B d k z j).trans (h.aw j)⟩
structure J4(dep:Int->Nat)(N L:Nat)(p1:Qe)(L0:List Int)(i:Int)(sl:Bool)(rest:List Int)(p:Qe):Prop where
 go:Y9 dep N L p1 rest p
 sub:∀j∈rest,j∈L0
 ent:∀j,j∉rest->Mw p j
 memb:Hm p1 p
 less:∀j,p.aL j=true->p1.aL j=true
 same:∀j,j∉L0\/sl=false->p.aL j=p1.aL j
 off:sl=true->i∉rest->p.aL i=false
 low:sl=true->∀j,j∉rest->p.aL j=true->∃L' c,L'≠i/\p.at L'=some c/\c.leaf=true/\j∈p.path 9 L'/\p.aL L'=true
theorem Qtv{p1:Qe}{L:Nat}{L0:List Int}{i:Int}{sl:Bool}(ap:∀i c q,p1.at i=some c->0<i->p1.at c.par=some q->q.leaf=false)(hL:∀j∈L0,j≠i->∃c,p1.at j=some c/\c.leaf=false)(ag:∃c,p1.at i=some c/\c.leaf=true)
  (id:Int)(rest:List Int)(p:Qe)(h:J4 dep N L p1 L0 i sl (id::rest) p):J4 dep N L p1 L0 i sl rest (p.aW sl id):=by
 obtain⟨R,c,q,B,U,hp⟩:=h.go.head;have E:=h.go.ok;obtain⟨k1,k2⟩:=E.aW sl B R U;have aa:id∈L0:=h.sub id (by simp);have ao:id∉rest:=Qa0 E h.go.path;have ho:∀j,j≠id->(p.aW sl id).aL j=p.aL j:=λj u=>by rw[Og E B R U,if_neg (λe=>u e.1)]
 have al:∀j,(p.aW sl id).aL j=true->p.aL j=true:=λj u=>by
  rw[Og E B R U]at u;split at u;·cases u
  .exact u
 refine⟨(h.go.next k1 k2).2.2.1,λj u=>h.sub j (by simp[u]),λj u=>?_,h.memb.trans (Qk5 E B R U),λj u=>h.less j (al j u),λj u=>?_,λhs aj=>?_,λhs j u ha=>?_⟩
 .by_cases e:j=id;·subst e;exact Qog E B R U
  .by_cases h0:0<j;·exact(h.ent j (by simp[e,u])).off (Qpg E B R U e (Qif (p:=p) (id:=id) hp u h0))
   .exact Qgz k1 h0
 .rw[Og E B R U];split
  .rename_i e;rcases u with u|u;·exact absurd (e.1▸aa) u
   .rw[u]at e;simp at e
  .exact h.same j u
 .by_cases e:i=id;·subst e;obtain⟨c1,z,ac⟩:=ag;obtain⟨c',J,_,ab,_⟩:=h.go.same.get z;rw[B]at J;obtain rfl:=Zs J;rw[Og E B R U,if_pos ⟨rfl,by simp[hs,ab.trans ac]⟩]
  .rw[ho i e];exact h.off hs (by simp[e,aj])
 ·
  have aB:∀j,(∃I c,I≠i/\p.at I=some c/\c.leaf=true/\j∈p.path 9 I/\p.aL I=true)->∃I c,I≠i/\(p.aW sl id).at I=some c/\c.leaf=true/\j∈(p.aW sl id).path 9 I/\(p.aW sl id).aL I=true:=by
   rintro j⟨I,c',h1,h2,h3,h4,h5⟩;obtain⟨d,hd,_,e2,_⟩:=k2.get h2;refine⟨I,d,h1,hd,e2.trans h3,by rw[Gv k2];exact h4,?_⟩;rw[ho I ?_];·exact h5
   .rintro rfl;obtain⟨c0,Z,af⟩:=hL I aa h1;obtain⟨c1,z,_,e3,_⟩:=h.go.same.get Z;rw[h2]at z;obtain rfl:=Zs z;rw[h3,af]at e3;cases e3
  by_cases e:j=id
  .subst e;refine aB j ?_;have am:j≠i:=by rintro rfl;obtain⟨c1,z,ac⟩:=ag;obtain⟨c',J,_,ab,_⟩:=h.go.same.get z;rw[B]at J;obtain rfl:=Zs J;rw[Og E B R U,if_pos ⟨rfl,by simp[hs,ab.trans ac]⟩]at ha;cases ha
   obtain⟨c0,Z,af⟩:=hL j aa am;obtain⟨c1,z,_,e3,_⟩:=h.go.same.get Z;rw[B]at z;obtain rfl:=Zs z;have an:c.tree≠[]:=λe=>by rw[Og E B R U,if_pos ⟨rfl,by simp[hs,e]⟩]at ha;cases ha
   obtain⟨⟨a,k,b⟩,hm⟩:=List.exists_mem_of_ne_nil _ an;obtain⟨ck,K,V,ak⟩:=E.tr c (Qe.aE B).1 (a,k,b) hm;dsimp only at K ak;rw[(Qe.aE B).2]at V;have ai:=(E.up.2 ck (Qe.aE K).1 (by rw[(Qe.aE K).2];omega)).2.2.1;rw[(Qe.aE K).2,V]at ai;have ae:k∉j::rest:=λhk=>by
    rcases Zu.1 hk with rfl|hk;·omega
    .have:=Mf E h.go.path k hk;omega
   have ah:=((h.ent k ae j c B a b).1 hm).2.1;obtain⟨I,c',h1,h2,h3,h4,h5⟩:=h.low hs k ae ah;refine⟨I,c',h1,h2,h3,?_,h5⟩;have:=Qnk E (Nat.lt_succ_of_le (Quz E h2)) h4 K (by rw[V];exact R);rwa[V]at this
  .rw[ho j e]at ha;exact aB j (h.low hs j (by simp[e,u]) ha)
theorem Uz.sent(aa:Qs dep N p)(hv:Uz p)(i:Int)(g:Nat)(u:Bool):
  Uz (p.sent i g u)/\Hm p (p.sent i g u)/\(∀j,(p.sent i g u).aL j=true->p.aL j=true)/\(∀j,j∉p.path 9 i\/u=true\/p.aL i=false->(p.sent i g u).aL j=p.aL j)/\
   (u=false->(∃c,p.at i=some c/\c.leaf=true)->(p.sent i g u).aL i=false):=by
 have Z:p.sent i g u=p->(u=false->(∃c,p.at i=some c/\c.leaf=true)->p.aL i=false)->Uz (p.sent i g u)/\Hm p (p.sent i g u)/\(∀j,(p.sent i g u).aL j=true->p.aL j=true)/\(∀j,j∉p.path 9 i\/u=true\/p.aL i=false->(p.sent i g u).aL j=p.aL j)/\
   (u=false->(∃c,p.at i=some c/\c.leaf=true)->(p.sent i g u).aL i=false):=λe h=>by
  rw[e];exact⟨hv,Hm.refl _,λ_ h=>h,λ_ _=>rfl,h⟩
 cases hc:p.at i with
 |none=> have:=Z (by unfold Qe.sent;rw[hc]) (λ_⟨c,h,_⟩=>by rw[hc]at h;cases h);rw[hc]at this;exact this
 |some c=>
  rw[hc]at Z;by_cases U:(decide (i<1)||!c.leaf)=true;·refine Z (by unfold Qe.sent;rw[hc];dsimp only;rw[if_pos (by simpa using U)]) λ_⟨c',h,h2⟩=>?_;obtain rfl:=Zs h;simp only[h2,Bool.not_true,Bool.or_false,decide_eq_true_eq]at U;exact Qe.awake_neg (by omega)
  .have hw:p.sent i g u=(p.path 9 i).foldl (Qe.aW (!u&&((p.path 9 i).foldl (Qe.aV g) p).aL i)) ((p.path 9 i).foldl (Qe.aV g) p):=by unfold Qe.sent;rw[hc];dsimp only;rw[if_neg (by simpa using U)]
   have ac:0<i/\c.leaf=true:=by simp only[Bool.or_eq_true,decide_eq_true_eq,Bool.not_eq_true',not_or,Bool.not_eq_false]at U;exact⟨by omega,U.2⟩
   obtain⟨h1,_,h3⟩:=De aa hc;have I:=Wp (Qtu (dep:=dep) (N:=N) (p0:=p) (L:=(p.path 9 i).length) (L0:=p.path 9 i) g) (p.path 9 i) p
    ⟨Y9.start aa h1,λj E=>E,λj _=>Bo.refl _ _,Hm.refl _,λj=>rfl⟩
   generalize(p.path 9 i).foldl (Qe.aV g) p=p1 at I hw;have aj:∀k d q,p1.at k=some d->0<k->p1.at d.par=some q->q.leaf=false:=λk d q hd hk hq=>by obtain⟨K,z,e1,_⟩:=I.go.same.back hd;obtain⟨q',ab,_,R,_⟩:=I.go.same.back hq;rw[<-R];exact hv.inn k K q' z hk (by rw[e1];exact ab)
   have hL:∀j∈p.path 9 i,j≠i->∃c,p1.at j=some c/\c.leaf=false:=λj E ah=>by obtain⟨d,hd,hl⟩:=Mi aa hv.inn E ah;obtain⟨K,z,_,R,_⟩:=I.go.same.get hd;exact⟨K,z,R.trans hl⟩
   have af:∃c,p1.at i=some c/\c.leaf=true:=by obtain⟨K,z,_,R,_⟩:=I.go.same.get hc;exact⟨K,z,R.trans ac.2⟩
   obtain⟨sl,V⟩:=Zx ((!u&&p1.aL i));rw[<-V]at hw;have ae:i∈p.path 9 i:=Sv hc ac.1;have g2:=Wp (Qtv (dep:=dep) (N:=N+(p.path 9 i).length) (p1:=p1) (L:=(p.path 9 i).length) (L0:=p.path 9 i) (i:=i) (sl:=sl) aj hL af) (p.path 9 i) p1
    ⟨Y9.start (by simpa using I.go.ok) (Vy.same I.go.same h1),λj E=>E,λj E=>(hv.ent j).off (I.off j E),Hm.refl _,λj h=>h,λj _=>rfl,λ_ h=>absurd ae h,λhs j E ha=>by
     rw[I.aw j]at ha;obtain⟨L',d,k1,k2,k3,k4⟩:=hv.low j ha;obtain⟨K,z,_,R,_⟩:=I.go.same.get k1;exact⟨L',K,λe=>E (by rw[<-e];exact k3),z,R.trans k2,by rw[Gv I.go.same];exact k3,by rw[I.aw];exact k4⟩⟩
   generalize(p.path 9 i).foldl (Qe.aW sl) p1=p2 at g2 hw;rw[hw];have hs:Jv p p2:=I.go.same.trans g2.go.same;have hm:Hm p p2:=I.memb.trans g2.memb;have J:sl=false->∀j,p2.aL j=p.aL j:=λh j=>(g2.same j (.inr h)).trans (I.aw j);have ai:u=true\/p.aL i=false->sl=false:=λh=>by rw[V,I.aw];rcases h with h|h<;>simp[h]
   refine⟨⟨λj=>g2.ent j (by simp),hv.memb.same hs hm,λk d q hd hk hq=>?_,λj E=>?_⟩,hm,λj E=>by rw[<-I.aw];exact g2.less j E,λj E=>?_,λag _=>?_⟩;·obtain⟨K,z,e1,_⟩:=hs.back hd;obtain⟨q',ab,_,R,_⟩:=hs.back hq;rw[<-R];exact hv.inn k K q' z hk (by rw[e1];exact ab)
   .cases B:sl with
    |true=> obtain⟨L',d,k1,k2,k3,k4,k5⟩:=g2.low B j (by simp) E;exact⟨L',d,k2,k3,k4,k5⟩
    |false=> rw[J B j]at E;obtain⟨L',d,k1,k2,k3,k4⟩:=hv.low j E;obtain⟨K,z,_,R,_⟩:=hs.get k1;exact⟨L',K,z,R.trans k2,by rw[Gv hs];exact k3,by rw[J B];exact k4⟩
   .rcases E with E|E;·exact(g2.same j (.inl E)).trans (I.aw j)
    .exact J (ai E) j
   .cases B:sl with
    |true=>exact g2.off B (by simp)
    |false=> rw[J B];rw[ag,I.aw]at V;rw[B]at V;simpa using V.symm
end
end Go.Proofs.YtigcnnkagkbflaaGreat
