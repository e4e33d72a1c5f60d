/- A part of the proof: no condition. -/
import Derived.Test.YtnnhmpehkbihnaaGreatPk27
namespace Go.Proofs.YtnnhmpehkbihnaaGreat
set_option linter.unusedVariables false
set_option maxRecDepth 100000
set_option maxHeartbeats 4000000
open Go.RowKit
open Go.Proofs.Tryz
section
attribute [local go_sem] Qp
attribute [local irreducible] Kl J9
section
variable{A:Dz}{w:World}{F:Fp}{b:Nat}{p:Qe}{N:Nat}{dep:Int→Nat}
theorem Y9.start{l:List Int}(c:Qs dep N p)(d:Vy p l):Y9 dep N l.length p l p:=⟨Zv _,by rw[Nat.sub_self];exact c,d,Jv.refl p⟩
theorem U0{d:Qe→Int→Qe}{L:Nat}{p0:Qe}(c:∀id rest p,Y9 dep N L p0 (id::rest) p→Qs dep (N+(L-(id::rest).length)+1) (d p id)∧Jv p (d p id)):
  ∀(l:List Int)(p:Qe),Y9 dep N L p0 l p→Y9 dep N L p0 [] (l.foldl d p)
 |[],p,h=>h
 |id::rest,p,h=>by obtain⟨h1,k⟩:=c id rest p h;exact U0 c rest _ (h.next h1 k).2.2.1
theorem De(d:Qs dep N p){i:Int}{c:Qx}(hc:p.at i=some c):Vy p (p.path 9 i)∧Eu (p.path 9 i)=i∧(p.path 9 i).length≤8:=by
 have h0:=d.pos hc;have B:dep i≤8:=by
  obtain⟨u,k⟩:=Qe.aE hc;by_cases h:i=0;·rw[h,d.up.1];omega
  ·have:=(d.up.2 c u (by omega)).2.2.2;rwa[k]at this
 obtain⟨h1,q,z⟩:=Qnj d 9 i h0 (by omega) (.inr ⟨c,hc⟩);exact⟨h1,q,by omega⟩
theorem Sl(now:Nat){L:Nat}{p0:Qe}:∀id rest p,Y9 dep N L p0 (id::rest) p→Qs dep (N+(L-(id::rest).length)+1) (p.up1 now id)∧Jv p (p.up1 now id):=fun id rest p h=>by obtain⟨h1,c,q,hc,d,_⟩:=h.head;exact h.ok.up1 now hc h1 d
theorem T7{L:Nat}{p0:Qe}:∀id rest p,Y9 dep N L p0 (id::rest) p→Qs dep (N+(L-(id::rest).length)+1) (p.note id)∧Jv p (p.note id):=fun id rest p h=>by obtain⟨h1,c,q,hc,d,_⟩:=h.head;exact h.ok.note hc h1 d
theorem Qs.wake(d:Qs dep N p)(i:Int)(now:Nat):Qs dep (N+16) (p.wake i now)∧Jv p (p.wake i now):=by
 unfold Qe.wake;cases hc:p.at i with
 |none=>exact⟨d.more (by omega),Jv.refl _⟩
 |some c=>
  dsimp only;split;·exact⟨d.more (by omega),Jv.refl _⟩
  ·obtain⟨h1,_,u⟩:=De d hc;have k:=U0 (Sl now) _ _ (Y9.start d h1);have q:=U0 T7 _ _ (Y9.start (N:=N+(p.path 9 i).length) (by simpa using k.ok) (Vy.same k.same h1));refine⟨q.ok.more (by simp;omega),k.same.trans q.same⟩
theorem Qlo(h:Qo A w F b p)(I:Qs dep N p)(hN:N<549755813000)(i:Int)(now:Nat)(ah:now<18446744073709551616):
  Cl 76 #[ptr b,.int .i64 i,.int .u64 now] w fun e w'=>e=.returned (.tuple #[])∧Qo A w' (Qn F w w') b (p.wake i now)∧Qc F w w':=by
 have V:=(Qo.obj A).bd h;obtain⟨W,hW⟩:=Zx ((w.alloc (.cells #[.pointer (some ⟨b,0,none⟩)] 77)).alloc (.cells #[.int .u64 now] 29));have C0:Hi (Qc Qb w W):=O (by rw[hW];exact((Zg _ _).alloc _).alloc _);have B3:Hi (Qh W w.heap.size #[ptr b] 77):=O (by rw[hW];exact(Qh.new _ _ _).alloc _);have B5:Hi (Qh W (w.heap.size+1) #[.int .u64 now] 29):=O (by rw[hW];exact Qh.new' _ _ (by simp));have Z:=(Qo.obj A).aB h C0.o (Jl.none F);have R:=O (Hw Z i);have u:¬F w.heap.size:=fun hk=>by have:=V _ hk;omega
 have E:¬F (w.heap.size+1):=fun hk=>by have:=V _ hk;omega
 have l3:=B3.o.lt;have l5:=B5.o.lt;have af:Hi (∀w' p',Qo A w' (Qn F W w') b p'→Qc F W w'→Qo A w' (Qn F w w') b p'∧Qc F w w'):=O (fun w' p' h' c'=>by
  have K:Qc F w w':=C0.o.none.aA c';exact⟨(Qo.obj A).more h' (Ke C0.o.size) (V.ext K),K⟩)
 have z:Hi (Qo A W (Qn F w W) b p∧Qc F w W):=O ((Qo.obj A).same h C0.o);unfold Qe.wake;cases hc:p.at i with
 |none=> rw[Ep hc]at R;dsimp only;have U:=Jf (hW▸B3.o);unfold ptr at*;clear h I hc Z u E l3 l5;go_enter func76,ntmps76;go_wp2_with fail;rw[←hW]at U⊢;clear hW;refine Zy R ?_;rintro w1 rfl;go_wp2;all_goals refine bodyPost_ret (results_none rfl _ _ _) rfl ⟨rfl,z.o⟩
 |some c=>
  rw[Xz hc]at R;have U:=Jf (hW▸B3.o);obtain⟨c0,c1,K,c3,c4,c5,c6,c7⟩:=Ja (Z.cell hc);by_cases k:i<1∨c.leaf=false∨c.aJ=false
  ·have e:(if(decide (i<1)||!c.leaf||!c.aJ)=true then p else(p.path 9 i).foldl Qe.note ((p.path 9 i).foldl (Qe.up1 now) p))=p:=by rw[if_pos];rcases k with h1|h1|h1<;>simp[h1]
   dsimp only;rw[e];have fin:∀{d:Bool},decide (i<1)=d→(d=true∨c.leaf=false∨c.aJ=false)→Cl 76 #[ptr b,.int .i64 i,.int .u64 now] w fun e w'=>e=.returned (.tuple #[])∧Qo A w' (Qn F w w') b p∧Qc F w w':=by
    intro d hd k;have hx:(i<1)=(d=true):=by rw[←hd];simp
    generalize c.leaf=lf at c1 k;generalize c.aJ=sh at K k;have q3:=hW▸c1;unfold ptr at*;clear h I hc Z u E l3 l5 e c0 c3 c4 c5 c6 c7;cases d with
    |true=>
     have Xg:i<1:=by simpa using hx
     go_enter func76,ntmps76;go_wp2_with fail;rw[←hW]at U⊢;clear hW q3;refine Zy R ?_;rintro w1 rfl;go_wp2;refine bodyPost_ret (results_none rfl _ _ _) rfl ⟨rfl,z.o⟩
    |false=>
     have Xg:¬i<1:=by simpa using hx
     cases lf with
     |false=> go_enter func76,ntmps76;go_wp2_with fail;rw[←hW]at U⊢;clear hW q3;refine Zy R ?_;rintro w1 rfl;go_wp2;refine bodyPost_ret (results_none rfl _ _ _) rfl ⟨rfl,z.o⟩
     |true=>
      obtain rfl:sh=false:=by simpa using k
      go_enter func76,ntmps76;go_wp2_with fail;rw[←hW]at U⊢;clear hW q3;refine Zy R ?_;rintro w1 rfl;go_wp2;refine bodyPost_ret (results_none rfl _ _ _) rfl ⟨rfl,z.o⟩
   exact fin rfl (k.imp (fun h=>by simpa using h) id)
  ·have hi:0<i:=by omega
   have ac:c.leaf=true:=by cases h:c.leaf<;>simp_all
   have ae:c.aJ=true:=by cases h:c.aJ<;>simp_all
   have Xg:¬i<1:=by omega
   rw[ac]at c1;rw[ae]at K;have e:(if(decide (i<1)||!c.leaf||!c.aJ)=true then p else(p.path 9 i).foldl Qe.note ((p.path 9 i).foldl (Qe.up1 now) p))=(p.path 9 i).foldl Qe.note ((p.path 9 i).foldl (Qe.up1 now) p):=by rw[if_neg (by simp[ac,ae,Xg])]
   dsimp only;rw[e];obtain⟨p1,p2,p3⟩:=De I hc;generalize p.path 9 i=l at p1 p2 p3⊢;have g0:=Y9.start I p1;have g1:=U0 (Sl now) _ _ g0;have g2:Y9 dep (N+l.length) l.length (l.foldl (Qe.up1 now) p) l (l.foldl (Qe.up1 now) p):=Y9.start (by simpa using g1.ok) (Vy.same g1.same p1);have H1:=O (Lo 137 #[.pointer (some ⟨w.heap.size,0,none⟩),.pointer (some ⟨w.heap.size+1,0,none⟩)] (enters_of func137 (by kernel_rfl) rfl) (fun p id=>p.up1 now id) (Y9 dep N l.length p) dep
    (fun id rest p' k=>k.next (Sl now id rest p' k).1 (Sl now id rest p' k).2)
    (fun id rest p' w' k aa J=>by
     obtain⟨h1,c',q,ab,hq,_⟩:=k.head;exact Qpm aa k.ok (by omega) h1 ab hq now ah (J.blk B3.o u) (J.blk B5.o E) (Qn.not u l3) (Qn.not E l5))
    Z l g0 i p2.symm)
   have H2:Hi (∀w1,Qo A w1 (Qn F W w1) b (l.foldl (fun p id=>p.up1 now id) p)→Qc F W w1→Cl 136 #[ptr b,.int .i64 i,.func (.func 140) #[] #[.pointer (some ⟨w.heap.size,0,none⟩)]] w1 fun e w'=>e=.returned (.tuple #[])∧Qo A w' (Qn F W w') b (l.foldl Qe.note (l.foldl (Qe.up1 now) p))∧Qc F W w'):=O (by
    intro w1 h1 B;refine(Lo 140 #[.pointer (some ⟨w.heap.size,0,none⟩)] (enters_of func140 (by kernel_rfl) rfl) Qe.note (Y9 dep (N+l.length) l.length (l.foldl (Qe.up1 now) p)) dep
     (fun id rest p' k=>k.next (T7 id rest p' k).1 (T7 id rest p' k).2)
     (fun id rest p' w' k aa J=>by
      obtain⟨aj,c',q,ab,hq,_⟩:=k.head;exact Qa5 aa k.ok (by omega) aj ab hq (J.blk (B.blk B3.o u) (Qn.not u l3)))
     h1 l g2 i p2.symm).mono ?_
    rintro e w2⟨rfl,h2,K⟩;obtain⟨m1,m2⟩:=(Qo.obj A).two h2 ((Qo.obj A).bd Z) B K;exact⟨rfl,m1,m2⟩)
   have ai:=O (Zt u E);unfold ptr at*;clear h I hc Z u E l3 l5 e c0 c3 c4 c5 c6 c7 k p1 p2 p3 g0 g1 g2 ac ae;go_enter func76,ntmps76;go_wp2_with fail;rw[←hW]at U⊢;clear hW;refine Zy R ?_;rintro w1 rfl;go_wp2_with fail;refine Zy H1 ?_;rintro w1⟨h1,B⟩;have H3:=O (H2.o w1 h1 B);have a4:=Jf (B.blk B3.o ai.o.1);unfold ptr at*;clear h1 B U c1 K;go_wp2_with fail;refine Zy H3 ?_;rintro w2⟨h2,ag⟩;have FF:=O (af.o _ _ h2 ag);clear h2 ag;go_wp2;refine bodyPost_end (results_none rfl _ _ _) rfl ⟨rfl,FF.o⟩
end
end
section
attribute [local go_sem] Qp
attribute [local go_sem ↓] X8 Yd
attribute [local irreducible] Kl J9
section
variable{A:Dz}{w:World}{F:Fp}{b:Nat}{p:Qe}{N:Nat}{dep:Int→Nat}
theorem Qih(h:Qo A w F b p)(I:Qs dep N p)(hN:N<549755813887){i:Int}{c q:Qx}(hi:0<i)(hc:p.at i=some c)(hq:p.at c.par=some q)(g:Nat)(hg:g<18446744073709551616)
  {Bp Bg:Nat}(Z:Qh w Bp #[ptr b] 77)(R:Qh w Bg #[.int .u64 g] 29)(af:¬F Bp)(ae:¬F Bg):
  Cl 162 #[.int .i64 i,ptr (A.ad i),.pointer (some ⟨Bg,0,none⟩),.pointer (some ⟨Bp,0,none⟩)] w fun e w'=>e=.returned (.tuple #[])∧Qo A w' (Qn F w w') b (p.gain1 g i)∧Qc F w w':=by
 have ac:=(Qo.obj A).bd h;obtain⟨V,z⟩:=Qe.aE hc;have K:=I.ok c V;obtain⟨ag,ah⟩:=I.pid hc hi hq;obtain⟨T,hT⟩:=Zx (c.total+min g (Xw-c.total));have aj:=K.total;have hC:=Yz;have e1:IntKind.u64.wrap (4611686018427387904-(c.total:Int))=((Xw-c.total:Nat):Int):=by rw[IntWalk.u64_in _ (by omega)];omega
 have e2:min (g:Int) ((Xw-c.total:Nat):Int)=((min g (Xw-c.total):Nat):Int):=by omega
 have e3:IntKind.u64.wrap ((c.total:Int)+((min g (Xw-c.total):Nat):Int))=(T:Int):=by rw[IntWalk.u64_in _ (by omega)];omega
 have d:=h.cell hc;obtain⟨W,hW⟩:=Zx ((w.setCell ⟨A.ad i,3,none⟩ (.int .u64 T)).drew);have aa:p.at ({c with total:=T}:Qx).id=some c:=by show p.at c.id=_;rw[z];exact hc
 have J:Hi (Qo A W (Qn F w W) b (p.set {c with total:=T})∧Qc F w W):=O (by
  refine h.setC (c:=c) (c':={c with total:=T}) V rfl rfl rfl rfl ?_ ?_;·rw[hW,z];exact((Zg (fun k=>k=A.ad i) w).setCell (a:=⟨A.ad i,3,none⟩) _ (.inl rfl)).drew
  ·rw[hW,z];exact(d.set' 3 (.int .u64 T) rfl).drew)
 have U:(p.set {c with total:=T}).at i=some {c with total:=T}:=by have:=Hq aa;rw[←z];exact this
 have B:(p.set {c with total:=T}).at c.par=some q:=(V5 (x:={c with total:=T}) (show c.par≠c.id from fun e=>ag (by rw[ah,e,z]))).trans hq;have e:p.gain1 g i=(p.set {c with total:=T}).set {q with mem:=q.mem.gain i g}:=by unfold Qe.gain1;rw[hc];dsimp only;rw[←hT];exact Py (c:={c with total:=T}) U B
 rw[e];have E:=I.ok q (Qe.aE hq).1;have HG:Hi (∀w1,Qc Qb W w1→Cl 163 #[ptr (A.pf c.par),.int .i64 i,.int .u64 g] w1 fun e w'=>e=.returned (.tuple #[])∧Qo A w' (Qn F w w') b ((p.set {c with total:=T}).set {q with mem:=q.mem.gain i g})∧Qc F w w'):=O (by
  intro w1 cc;obtain⟨G,hF,ak,ab⟩:=J.o.1.famAt B;refine Zz (Qmu (J0.obj.aB hF cc (Jl.none G)) (fun x hx=>⟨(E.mem x hx).1,by have:=(E.mem x hx).2.1;omega⟩) i g hg) ?_;rintro w2⟨hf,c2⟩;obtain⟨m1,m2⟩:=ab w1 w2 _ cc hf c2;exact⟨rfl,(Qo.obj A).two m1 ac J.o.2 m2⟩)
 obtain⟨_,_,_,d3,_,_,_,_⟩:=Ja d.drew;have z3:=d.frozen 3;have ai:=d.drew.frozen 3;have y3:=(Ja d).2.2.2.1;have b2:=Jf R.drew;have X0:Hi (Qh W Bp #[ptr b] 77∧Qh W Bg #[.int .u64 g] 29∧Qh W (A.ad i) (Pn {c with total:=T} (A.vl i) (A.pf i) (A.pt i)) 143):=O ⟨J.o.2.blk Z af,J.o.2.blk R ae,J.o.1.cell U⟩;obtain⟨x0,x1,x2⟩:=X0.o;obtain⟨g0,_,_,_,_,_,_,_⟩:=Ja x2.drew;have g1:=Jf x0.drew;have g2:=Jf x1.drew;have g3:=J.o.1.drew.look1 c.par;rw[Xz B]at g3;have g4:=Jf J.o.1.drew.blk;obtain⟨_,_,_,_,_,g5,_,_⟩:=Ja (J.o.1.drew.cell B);generalize Xw-c.total=u at e1 e2 e3;generalize min g u=u2 at e2 e3;unfold ptr at*;clear h I hc hq K d Z R E hT e x0 x1 x2 V aa B U;go_enter func162,ntmps162;go_wp2_with fail;refine Qj [(0,0),(0,1),(0,2),(0,3),(0,4),(0,5),(0,6),(0,7),(0,8),(0,9),(0,10),(0,11),(0,12),(0,13),(2,14)] Zq (by kernel_rfl) (fun _ _ _ _ _ h=>h) ?_;simp only[Jk,Zf,Ze,Zd];iterate 14 (refine Jq (by kernel_rfl) (by go_simp;try rfl) ?_)
 refine J7 ?_;go_wp2_with fail;refine Jo ?_;rw[←hW];clear hW d3 z3 ai y3 b2;go_wp2_with fail;refine Qj [(0,0),(0,1),(0,2),(0,3),(0,4),(0,5),(0,6),(0,7),(0,8),(0,9),(0,10),(0,11),(0,12),(0,13),(2,14)] Zq (by kernel_rfl) (fun _ _ _ _ _ h=>h) ?_;simp only[Jk,Zf,Ze,Zd];iterate 14 (refine Jq (by kernel_rfl) (by go_simp;try rfl) ?_)
 clear g0 g1 g2 g3 g4 g5;refine J7 ?_;go_wp2_with fail;refine Zz (HG.o _ (Zg _ _).drew) ?_;intro w2 h2;have H2:=O h2;clear h2;go_wp2_with fail;refine Jo ?_;go_wp2;refine bodyPost_end (results_none rfl _ _ _) rfl ⟨rfl,H2.o⟩
end
end
section
attribute [local go_sem] Qp
attribute [local irreducible] Kl J9
section
variable{A:Dz}{w:World}{F:Fp}{b:Nat}{p:Qe}{N:Nat}{dep:Int→Nat}
theorem Qij(h:Qo A w F b p)(k:Qs dep N p)(hN:N<549755813887){i:Int}{c q:Qx}(hi:0<i)(hc:p.at i=some c)(J:p.at c.par=some q)(sl:Bool)
  {Bp Bs:Nat}(d:Qh w Bp #[ptr b] 77)(E:Qh w Bs #[.bool sl] 4)(af:¬F Bp):
  Cl 164 #[.int .i64 i,ptr (A.ad i),.pointer (some ⟨Bs,0,none⟩),.pointer (some ⟨Bp,0,none⟩)] w fun e w'=>e=.returned (.tuple #[])∧Qo A w' (Qn F w w') b (p.rest1 sl i)∧Qc F w w':=by
 have ah:=(Qo.obj A).bd h;have y0:=Jf E;have y1:=Jf d;have Z:=Ja (h.cell hc);obtain⟨_,c1,_,_,_,_,c6,_⟩:=Z;have aa:=O d;have K:∀r:Bool,(sl&&(c.leaf||decide (c.tree.length=0)))=r→p.rest1 sl i=Qe.note (if r then p.fam i (fun f=>f.sleep i)else p) i:=fun r hr=>by unfold Qe.rest1;rw[hc];dsimp only;rw[hr]
 have ab:=O (Mj h k (by omega) hi hc J);obtain⟨k1,k2,k3,k4⟩:=k.fam (f:=fun f=>f.sleep i) (Zv _) hc hi J ((k.ok q (Qe.aE J).1).fam.sleep i);have I:=Py (f:=fun f=>f.sleep i) hc J;have ae:Hi (∀w1,Qc Qb w w1→Cl 166 #[ptr (A.pf c.par),.int .i64 i] w1 fun e w'=>e=.returned (.tuple #[])∧Qo A w' (Qn F w w') b (p.fam i fun f=>f.sleep i)∧Qc F w w'):=O (by
  intro w1 cc;obtain⟨G,hF,ai,ag⟩:=h.famAt J;refine Zz (Qjh (J0.obj.aB hF cc (Jl.none G)) i) ?_;rintro w2⟨hf,B⟩;obtain⟨m1,m2⟩:=ag w1 w2 _ cc hf B;exact⟨rfl,I▸m1,m2⟩)
 have ac:Hi (∀w2,Qo A w2 (Qn F w w2) b (p.fam i fun f=>f.sleep i)→Qc F w w2→Cl 141 #[ptr b,.int .i64 i] w2 fun e w'=>e=.returned (.tuple #[])∧Qo A w' (Qn F w w') b ((p.fam i fun f=>f.sleep i).note i)∧Qc F w w'):=O (by
  intro w2 V B;refine Zz (Mj V k1 (by omega) hi k3 k4) ?_;rintro w3⟨z,c3⟩;obtain⟨m1,m2⟩:=(Qo.obj A).two z ah B c3;exact⟨rfl,m1,m2⟩)
 obtain⟨d0,_,_,_,_,_,_,_⟩:=Ja (h.drew.cell hc);obtain⟨_,_,_,_,_,f5,_,_⟩:=Ja (h.drew.cell J);have hL:=h.drew.look1 c.par;rw[Xz J]at hL;have y2:=Jf h.drew.blk;have y3:=Jf d.drew;obtain⟨G6,ht⟩:=h.tre hc;have u:=O (Qn1 ht);generalize R:c.leaf=lf at c1 K;cases sl with
 |false=> rw[K false (by simp)];simp only[Bool.false_eq_true,if_false];unfold ptr at*;clear h k hc J d E k1 k2 k3 k4 I K ht d0 f5 hL y2 y3 R;go_enter func164,ntmps164;go_wp2_with fail;refine Zy ab ?_;intro w3 z;have U:=O z;clear z;go_wp2;refine bodyPost_end (results_none rfl _ _ _) rfl ⟨rfl,U.o⟩
 |true=>
  cases lf with
  |true=>
   rw[K true (by simp)];simp only[if_true];unfold ptr at*;clear h k hc J d E k1 k2 k3 k4 I K ht R;go_enter func164,ntmps164;go_wp2_with fail;refine Qj [(0,0),(0,1),(0,2),(0,3),(0,4),(0,5),(0,6),(0,7),(0,8),(0,9),(0,10),(0,11),(0,12),(2,13)] Zq (by kernel_rfl) (fun _ _ _ _ _ h=>h) ?_;simp only[Jk,Zf,Ze,Zd];iterate 13 (refine Jq (by kernel_rfl) (by go_simp;try rfl) ?_)
   clear d0 f5 hL y2 y3 y1;refine J7 ?_;go_wp2_with fail;refine Zz (ae.o _ (Zg _ _).drew) ?_;rintro w2⟨V,B⟩;have H2:=O (ac.o _ V B);have y1:=Jf (B.blk aa.o af);unfold ptr at*;clear V B;go_wp2_with fail;refine Jo ?_;go_wp2_with fail;refine Zy H2 ?_;intro w3 z;have U:=O z;clear z;go_wp2;refine bodyPost_end (results_none rfl _ _ _) rfl ⟨rfl,U.o⟩
  |false=>
   by_cases h0:c.tree.length=0
   ·rw[K true (by simp[h0])];simp only[if_true];have e0:((c.tree.length:Nat):Int)=0:=by omega
    rw[e0]at u;unfold ptr at*;clear h k hc J d E k1 k2 k3 k4 I K ht R;go_enter func164,ntmps164;go_wp2_with fail;refine Zy u ?_;rintro w1 rfl;go_wp2_with fail;refine Qj [(0,0),(0,1),(0,2),(0,3),(0,4),(0,5),(0,6),(0,7),(0,8),(0,9),(0,10),(0,11),(0,12),(2,13)] Zq (by kernel_rfl) (fun _ _ _ _ _ h=>h) ?_;simp only[Jk,Zf,Ze,Zd];iterate 13 (refine Jq (by kernel_rfl) (by go_simp;try rfl) ?_)
    clear d0 f5 hL y2 y3 y1;refine J7 ?_;go_wp2_with fail;refine Zz (ae.o _ (Zg _ _).drew) ?_;rintro w2⟨V,B⟩;have H2:=O (ac.o _ V B);have y1:=Jf (B.blk aa.o af);unfold ptr at*;clear V B;go_wp2_with fail;refine Jo ?_;go_wp2_with fail;refine Zy H2 ?_;intro w3 z;have U:=O z;clear z;go_wp2;refine bodyPost_end (results_none rfl _ _ _) rfl ⟨rfl,U.o⟩
   ·rw[K false (by simp[h0])];simp only[Bool.false_eq_true,if_false];have e0:(((c.tree.length:Nat):Int)==0)=false:=by rw[beq_eq_false_iff_ne];omega
    have e1:((c.tree.length:Nat):Int)≠0:=by omega
    generalize((c.tree.length:Nat):Int)=tl at u e0 e1;unfold ptr at*;clear h k hc J d E k1 k2 k3 k4 I K ht R d0 f5 hL y2 y3;go_enter func164,ntmps164;go_wp2_with fail;refine Zy u ?_;rintro w1 rfl;go_wp2_with fail;refine Zy ab ?_;intro w3 z;have U:=O z;clear z;go_wp2;refine bodyPost_end (results_none rfl _ _ _) rfl ⟨rfl,U.o⟩
theorem Lk(g:Nat){L:Nat}{p0:Qe}:∀id rest p,Y9 dep N L p0 (id::rest) p→Qs dep (N+(L-(id::rest).length)+1) (p.gain1 g id)∧Jv p (p.gain1 g id):=fun id rest p h=>by obtain⟨h1,c,q,hc,d,_⟩:=h.head;exact h.ok.gain1 g hc h1 d
theorem Pz(sl:Bool){L:Nat}{p0:Qe}:∀id rest p,Y9 dep N L p0 (id::rest) p→Qs dep (N+(L-(id::rest).length)+1) (p.rest1 sl id)∧Jv p (p.rest1 sl id):=fun id rest p h=>by obtain⟨h1,c,q,hc,d,_⟩:=h.head;exact h.ok.rest1 sl hc h1 d
theorem Qs.sent(d:Qs dep N p)(i:Int)(g:Nat)(more:Bool):Qs dep (N+16) (p.sent i g more)∧Jv p (p.sent i g more):=by
 unfold Qe.sent;cases hc:p.at i with
 |none=>exact⟨d.more (by omega),Jv.refl _⟩
 |some c=>
  dsimp only;split;·exact⟨d.more (by omega),Jv.refl _⟩
  ·obtain⟨h1,_,u⟩:=De d hc;have k:=U0 (Lk g) _ _ (Y9.start d h1);have q:=U0 (Pz (!more&&((p.path 9 i).foldl (Qe.gain1 g) p).aL i)) _ _ (Y9.start (N:=N+(p.path 9 i).length) (by simpa using k.ok) (Vy.same k.same h1));refine⟨q.ok.more (by simp;omega),k.same.trans q.same⟩
theorem Qlm(h:Qo A w F b p)(U:Qs dep N p)(hN:N<549755813000)(i:Int)(g:Nat)(V:g<18446744073709551616)(more:Bool):
  Cl 98 #[ptr b,.int .i64 i,.int .u64 g,.bool more] w fun e w'=>e=.returned (.tuple #[])∧Qo A w' (Qn F w w') b (p.sent i g more)∧Qc F w w':=by
 have ag:=(Qo.obj A).bd h;obtain⟨W,hW⟩:=Zx ((w.alloc (.cells #[.pointer (some ⟨b,0,none⟩)] 77)).alloc (.cells #[.int .u64 g] 29));have C0:Hi (Qc Qb w W):=O (by rw[hW];exact((Zg _ _).alloc _).alloc _);have B3:Hi (Qh W w.heap.size #[ptr b] 77):=O (by rw[hW];exact(Qh.new _ _ _).alloc _);have B5:Hi (Qh W (w.heap.size+1) #[.int .u64 g] 29):=O (by rw[hW];exact Qh.new' _ _ (by simp));have hP:=(Qo.obj A).aB h C0.o (Jl.none F);have HA:=O (Hw hP i);have z:¬F w.heap.size:=fun hk=>by have:=ag _ hk;omega
 have B:¬F (w.heap.size+1):=fun hk=>by have:=ag _ hk;omega
 have l3:=B3.o.lt;have l5:=B5.o.lt;have aa:Hi (∀w' p',Qo A w' (Qn F W w') b p'→Qc F W w'→Qo A w' (Qn F w w') b p'∧Qc F w w'):=O (fun w' p' h' c'=>by
  have c2:Qc F w w':=C0.o.none.aA c';exact⟨(Qo.obj A).more h' (Ke C0.o.size) (ag.ext c2),c2⟩)
 have I:Hi (Qo A W (Qn F w W) b p∧Qc F w W):=O ((Qo.obj A).same h C0.o);unfold Qe.sent;cases hc:p.at i with
 |none=> rw[Ep hc]at HA;dsimp only;have a3:=Jf (hW▸B3.o);unfold ptr at*;clear h U hc hP z B l3 l5;go_enter func98,ntmps98;go_wp2_with fail;rw[←hW]at a3⊢;clear hW;refine Zy HA ?_;rintro w1 rfl;go_wp2;all_goals refine bodyPost_ret (results_none rfl _ _ _) rfl ⟨rfl,I.o⟩
 |some c=>
  rw[Xz hc]at HA;have a3:=Jf (hW▸B3.o);obtain⟨c0,c1,c2,c3,c4,c5,c6,c7⟩:=Ja (hP.cell hc);by_cases Z:i<1∨c.leaf=false
  ·have e:(if(decide (i<1)||!c.leaf)=true then p else(p.path 9 i).foldl (Qe.rest1 (!more&&((p.path 9 i).foldl (Qe.gain1 g) p).aL i)) ((p.path 9 i).foldl (Qe.gain1 g) p))=p:=by rw[if_pos];rcases Z with h1|h1<;>simp[h1]
   dsimp only;rw[e];have fin:∀{d:Bool},decide (i<1)=d→(d=true∨c.leaf=false)→Cl 98 #[ptr b,.int .i64 i,.int .u64 g,.bool more] w fun e w'=>e=.returned (.tuple #[])∧Qo A w' (Qn F w w') b p∧Qc F w w':=by
    intro d hd an;have hx:(i<1)=(d=true):=by rw[←hd];simp
    generalize c.leaf=lf at c1 an;unfold ptr at*;clear h U hc hP z B l3 l5 e c0 c2 c3 c4 c5 c6 c7 Z;cases d with
    |true=>
     have Xg:i<1:=by simpa using hx
     go_enter func98,ntmps98;go_wp2_with fail;rw[←hW]at a3⊢;clear hW;refine Zy HA ?_;rintro w1 rfl;go_wp2;refine bodyPost_ret (results_none rfl _ _ _) rfl ⟨rfl,I.o⟩
    |false=>
     have Xg:¬i<1:=by simpa using hx
     obtain rfl:lf=false:=by simpa using an
     go_enter func98,ntmps98;go_wp2_with fail;rw[←hW]at a3⊢;clear hW;refine Zy HA ?_;rintro w1 rfl;go_wp2;refine bodyPost_ret (results_none rfl _ _ _) rfl ⟨rfl,I.o⟩
   exact fin rfl (Z.imp (fun h=>by simpa using h) id)
  ·have hi:0<i:=by omega
   have aj:c.leaf=true:=by cases h:c.leaf<;>simp_all
   have Xg:¬i<1:=by omega
   rw[aj]at c1;have e:(if(decide (i<1)||!c.leaf)=true then p else(p.path 9 i).foldl (Qe.rest1 (!more&&((p.path 9 i).foldl (Qe.gain1 g) p).aL i)) ((p.path 9 i).foldl (Qe.gain1 g) p))=(p.path 9 i).foldl (Qe.rest1 (!more&&((p.path 9 i).foldl (Qe.gain1 g) p).aL i)) ((p.path 9 i).foldl (Qe.gain1 g) p):=by rw[if_neg (by simp[aj,Xg])]
   dsimp only;rw[e];obtain⟨p1,p2,p3⟩:=De U hc;generalize p.path 9 i=l at p1 p2 p3⊢;have g0:=Y9.start U p1;have g1:=U0 (Lk g) _ _ g0;have af:Qs dep (N+l.length) (l.foldl (Qe.gain1 g) p):=by simpa using g1.ok
   have g2:Y9 dep (N+l.length) l.length (l.foldl (Qe.gain1 g) p) l (l.foldl (Qe.gain1 g) p):=Y9.start af (Vy.same g1.same p1);have H1:=O (Lo 162 #[.pointer (some ⟨w.heap.size+1,0,none⟩),.pointer (some ⟨w.heap.size,0,none⟩)] (enters_of func162 (by kernel_rfl) rfl) (Qe.gain1 g) (Y9 dep N l.length p) dep
    (fun id rest p' V=>V.next (Lk g id rest p' V).1 (Lk g id rest p' V).2)
    (fun id rest p' w' R ah K=>by
     obtain⟨h1,c',q,ai,hq,_⟩:=R.head;exact Qih ah R.ok (by omega) h1 ai hq g V (K.blk B3.o z) (K.blk B5.o B) (Qn.not z l3) (Qn.not B l5))
    hP l g0 i p2.symm)
   have ac:Hi (∀w1(F1:Fp),Qo A w1 F1 b (l.foldl (Qe.gain1 g) p)→Cl 100 #[ptr b,.int .i64 i] w1 fun e w'=>e=.returned (.bool ((l.foldl (Qe.gain1 g) p).aL i))∧Qc Qb w1 w'):=O (fun w1 F1 h1=>Hx h1 af i);have H2:Hi (∀(sl:Bool)w1 w2 Bs,Qo A w1 (Qn F W w1) b (l.foldl (Qe.gain1 g) p)→Qc F W w1→Qc Qb w1 w2→Qh w2 Bs #[.bool sl] 4→w1.heap.size≤Bs→Cl 136 #[ptr b,.int .i64 i,.func (.func 164) #[] #[.pointer (some ⟨Bs,0,none⟩),.pointer (some ⟨w.heap.size,0,none⟩)]] w2 fun e w'=>e=.returned (.tuple #[])∧Qo A w' (Qn F W w') b (l.foldl (Qe.rest1 sl) (l.foldl (Qe.gain1 g) p))∧Qc F W w'):=O (by
    intro sl w1 w2 Bs h1 u ca bs ax;have au:=(Qo.obj A).bd h1;have h4:=(Qo.obj A).aB h1 ca (Jl.none _);have nf:¬Qn F W w1 Bs:=fun hk=>by have:=au _ hk;omega
    have s3:=u.size;have s4:=ca.size;have ao:¬Qn F W w1 w.heap.size:=Qn.not z l3;refine(Lo 164 #[.pointer (some ⟨Bs,0,none⟩),.pointer (some ⟨w.heap.size,0,none⟩)] (enters_of func164 (by kernel_rfl) rfl) (Qe.rest1 sl) (Y9 dep (N+l.length) l.length (l.foldl (Qe.gain1 g) p)) dep
     (fun id rest p' V=>V.next (Pz sl id rest p' V).1 (Pz sl id rest p' V).2)
     (fun id rest p' w' R ah K=>by
      obtain⟨ar,c',q,ai,hq,_⟩:=R.head;exact Qij ah R.ok (by omega) ar ai hq sl (K.blk (ca.blk (u.blk B3.o z) (fun h=>h)) ao) (K.blk bs nf) (Qn.not ao (by omega)))
     h4 l g2 i p2.symm).mono ?_
    rintro e w3⟨rfl,h5,c5⟩;have am:Qc (Qn F W w1) w1 w3:=ca.none.aA c5;obtain⟨m1,m2⟩:=(Qo.obj A).two ((Qo.obj A).more h5 (Ke ca.size) (((Qo.obj A).bd h1).ext am)) ((Qo.obj A).bd hP) u am;exact⟨rfl,m1,m2⟩)
   have aq:=O (Zt z B);generalize(l.foldl (Qe.gain1 g) p)=av at H1 H2 ac⊢;generalize av.aL i=aw at ac⊢;unfold ptr at*;clear h U hc hP z B l3 l5 e c0 c2 c3 c4 c5 c6 c7 Z p1 p2 p3 g0 g1 g2 aj af;go_enter func98,ntmps98;go_wp2_with fail;rw[←hW]at a3⊢;clear hW;refine Zy HA ?_;rintro w1 rfl;go_wp2_with fail;refine Zy H1 ?_;rintro w1⟨h1,u⟩;have E:=O (Zt h1 u);have ab:=O (u.blk B3.o aq.o.1);have sz:=u.size;clear h1 u a3 c1;cases more with
   |true=> obtain⟨W2,hW2⟩:=Zx (w1.alloc (.cells #[.bool false] 4));have H3:=O (H2.o (!true&&aw) w1 W2 w1.heap.size E.o.1 E.o.2 (by rw[hW2];exact(Zg _ _).alloc _) (by rw[hW2];exact Qh.new _ _ _) (Zv _));have a4:=Jf (show Qh (w1.alloc (.cells #[.bool false] 4)) _ _ _ from ab.o.alloc _);unfold ptr at*;go_wp2_with fail;rw[←hW2]at a4⊢;clear hW2;refine Zy H3 ?_;rintro w2⟨h2,k⟩;have FF:=O (aa.o _ _ h2 k);clear h2 k;go_wp2;refine bodyPost_end (results_none rfl _ _ _) rfl ⟨rfl,FF.o⟩
   |false=>
    have ak:=O (ac.o w1 _ E.o.1);have a4:=Jf ab.o;have ap:=O (H2.o aw w1);unfold ptr at*;go_wp2_with fail;refine Zy ak ?_;intro w2 k;obtain⟨W3,J⟩:=Zx (w2.alloc (.cells #[.bool aw] 4));have al:Qh W3 w2.heap.size #[.bool aw] 4:=by rw[J];exact Qh.new _ _ _
    have ae:Qc Qb w1 W3:=by rw[J];exact k.alloc _
    have H3:=O (ap.o W3 w2.heap.size E.o.1 E.o.2 ae al k.size);have a5:=Jf (show Qh (w2.alloc (.cells #[.bool aw] 4)) w.heap.size _ _ from J▸ae.blk ab.o (fun h=>h));unfold ptr at*;clear k al ae a4;go_wp2_with fail;rw[←J]at a5⊢;clear J;refine Zy H3 ?_;rintro w3⟨h2,k⟩;have FF:=O (aa.o _ _ h2 k);clear h2 k;go_wp2;refine bodyPost_end (results_none rfl _ _ _) rfl ⟨rfl,FF.o⟩
end
def Fb(s:Yk):Value:=.agg #[.int .i64 s.id,.int .i64 s.par,.bool s.leaf,.int .u64 s.real.f,.int .u64 s.real.l,.int .u64 s.real.r,.int .u64 s.share.f,.int .u64 s.share.l,.int .u64 s.share.r,.int .u64 s.aN.f,.int .u64 s.aN.l,.int .u64 s.aN.r,.int .i64 s.pk,.int .i64 s.bt]
theorem Ns(s:Yk)(w):Cl 125 #[Fb s] w fun e w'=>e=.returned (.bool s.aJ)∧Qc Qb w w':=by
 have I:=O (Xx.new w s);have u:=O ((Zg Qb w).alloc (.cells (Z4 s.leaf s) 40));have k:=O (fun w=>Kz s.share w);have z:=O (fun w=>K8 s.share w);unfold Yk.aJ;cases c:s.share.none with
 |true=> rw[c]at k;unfold Fb;clear c;go_enter func125,ntmps125;go_wp2_with fail;refine Zz (k.o _) ?_;intro w1 d;have q:=O (u.o.aA d);clear d;go_wp2;go_ret;exact⟨rfl,q.o⟩
 |false=> rw[c]at k;generalize decide s.share.May=r at z⊢;unfold Fb;clear c;go_enter func125,ntmps125;go_wp2_with fail;refine Zz (k.o _) ?_;intro w1 d;obtain⟨V,a1,Z,a3,a4,a5,a6,a7,a8,a9,J,K,R,U⟩:=(I.o.aB d).cells;have q:=O (u.o.aA d);clear d;go_wp2_with fail;refine Zz (z.o _) ?_;intro w2 B;have E:=O (q.o.aA B);clear B;go_wp2;go_ret;exact⟨by simp,E.o⟩
section
variable{X:Type}{key:X→Int}{Is Is':World→Fp→Nat→X→Prop}{w w':World}{F:Fp}{m:Nat}{ad:Int→Nat}{l:List X}
theorem Yn.imp(h:Yn key Is w F m ad l)(hi:∀x∈l,∀G,Is w G (ad (key x)) x→Is' w G (ad (key x)) x):Yn key Is' w F m ad l:=by obtain⟨G,h1,d,k⟩:=h.ex;exact⟨h.map,h.bd,h.at_,G,fun x c=>hi x c _ (h1 x c),d,k⟩
end
section
variable{A:Dz}{w:World}{F:Fp}{b:Nat}{p:Qe}{N:Nat}{dep:Int→Nat}
def Dz.put(A:Dz)(i:Int)(bc:Nat)(vb:Value)(pf pt:Nat):Dz:=⟨A.m,fun j=>if j=i then bc else A.ad j,fun j=>if j=i then vb else A.vl j,fun j=>if j=i then pf else A.pf j,fun j=>if j=i then pt else A.pt j⟩
theorem Qgu{i:Int}{bc pf pt:Nat}{vb:Value}{c:Qx}(h:c.id≠i):Sy (A.put i bc vb pf pt) c=Sy A c:=by unfold Sy Dz.put;simp only[h,if_false]
theorem Qaa{w0 w1 w2 w3:World}(h:w1.heap.size≤w2.heap.size):Jl (Qn Qb w0 w1) (Qn Qb w2 w3):=fun k a b=>by have:=((Qr k).1 a).2;have:=((Qr k).1 b).1;omega
theorem G5{w0 w1 w2 w3:World}(h1:w0.heap.size≤w1.heap.size)(c:w2.heap.size≤w3.heap.size):∀k,Qn Qb w1 w2 k→Qn Qb w0 w3 k:=fun k a=>by have:=(Qr k).1 a;exact(Qr k).2 ⟨by omega,by omega⟩
theorem Td(w0 w1):Bd (Qn Qb w0 w1) w1:=fun k c=>((Qr k).1 c).2
theorem Qtf{w0 w1 w2 w3 w4}{x:Qx}{vb:Nat}{pf pt:Nat}(R:Qc Qb w0 w1)(J:Qc Qb w1 w2)(I:Qc Qb w2 w3)(u:Qc Qb w3 w4)
  (hl:Ho w1 (Qn Qb w0 w1) vb x.limit)(hf:J0 w2 (Qn Qb w1 w2) pf x.mem)(ht:Jg w3 (Qn Qb w2 w3) pt x.tree)(K:Qh w4 w3.heap.size (Pn x (ptr vb) pf pt) 143):
  Um (A.put x.id w3.heap.size (ptr vb) pf pt) w4 (Qn Qb w0 w4) w3.heap.size x:=by
 have s1:=R.size;have s2:=J.size;have s3:=I.size;have z:=u.size;have Xg:=K.lt;refine⟨by simp[Dz.put],?_⟩;have e1:(A.put x.id w3.heap.size (ptr vb) pf pt).ad x.id=w3.heap.size:=by simp[Dz.put]
 have U:(A.put x.id w3.heap.size (ptr vb) pf pt).vl x.id=ptr vb:=by simp[Dz.put]
 have V:(A.put x.id w3.heap.size (ptr vb) pf pt).pf x.id=pf:=by simp[Dz.put]
 have Z:(A.put x.id w3.heap.size (ptr vb) pf pt).pt x.id=pt:=by simp[Dz.put]
 unfold Sy;rw[e1,U,V,Z];have h1:Do (ptr vb) x.limit w4 (Qn Qb w0 w1):=.inr ⟨vb,rfl,Ho.obj.aB hl ((J.aA I).aA u) (Jl.none _)⟩;have h2:J0 w4 (Qn Qb w1 w2) pf x.mem:=J0.obj.aB hf (I.aA u) (Jl.none _);have h3:Jg w4 (Qn Qb w2 w3) pt x.tree:=Jg.obj.aB ht u (Jl.none _);have E:Bd (Qn Qb w0 w4) w4:=Td _ _;have B:Bd (Qn Qb w0 w3) w4:=fun k c=>Nat.lt_of_lt_of_le (Td _ _ k c) z;have d:Bd (Qn Qb w1 w3) w4:=fun k c=>Nat.lt_of_lt_of_le (Td _ _ k c) z;have q:Bd (Qn Qb w2 w3) w4:=fun k c=>Nat.lt_of_lt_of_le (Td _ _ k c) z;refine Q7 (G:=fun k=>k=w3.heap.size) (H:=Qn Qb w0 w3) ⟨K,rfl,fun k e=>e▸Xg⟩ ?_ (fun k e c=>by have:=Td _ _ k c;omega) (fun k e=>(Qr k).2 ⟨by omega,by omega⟩) (G5 (Zv _) z) E;refine Q7 (G:=Qn Qb w0 w1) (H:=Qn Qb w1 w3) h1 ?_ (Qaa (Zv _)) (G5 (Zv _) (by omega)) (G5 s1 (Zv _)) B;exact Q7 (G:=Qn Qb w1 w2) (H:=Qn Qb w2 w3) h2 (Y6 h3 q) (Qaa (Zv _)) (G5 (Zv _) s3) (G5 s2 (Zv _)) d
theorem Qo.newC(h:Qo A w F b p){x:Qx}{bc:Nat}{vb:Value}{pf pt:Nat}(hn:p.at x.id=none){w4}(E:Qc Qb w w4)(hx:Um (A.put x.id bc vb pf pt) w4 (Qn Qb w w4) bc x):
  ∃w5,(Instr.mapUpdate 136 (.map (some A.m)) (.int .i64 x.id) (ptr bc)).run prog w4=.ok () w5∧Qo (A.put x.id bc vb pf pt) w5 (Qn F w w5) b (p++[x])∧Qc F w w5∧Qc (fun k=>k=A.m) w4 w5:=by
 have R:=(Qo.obj A).bd h;obtain⟨l,V,hs⟩:=h;obtain⟨G,c,hG,_,u⟩:=Xv 1 (Vh A b l) rfl hs;obtain⟨w5,z,U,B⟩:=X6 (P:=prog) (c.map.aB E (fun h=>h)) underlying136 underlying3 x.id (ptr bc);have J:=(c.aB (Um.obj A) E (Jl.none G)).imp (Is':=Um (A.put x.id bc vb pf pt)) (fun y hy G' Z=>by
  have q:y.id≠x.id:=fun e=>by have h1:=Qe.at_of (p:=l) c.nodup hy;rw[Qe.at_eq V c.nodup]at hn;rw[e]at h1;have:Qe.at l x.id=none:=hn;rw[h1]at this;cases this
  refine⟨?_,?_⟩;·show A.ad y.id=(if y.id=x.id then bc else A.ad y.id);rw[if_neg q]
  ·rw[Qgu q];exact Z.2)
 have K:=J.put (Um.obj _) hx (fun k a b'=>by
  have h1:=((Qr k).1 a).1;have:=R k (hG k b');omega) (by rw[←Qe.at_eq V c.nodup];exact hn) U B
 have I:Qc G w w5:=(E.none (F:=G)).aA (B.sub fun k d=>d▸c.at_);have h5:=u w5 (fun w G=>Yn Qx.id (Um (A.put x.id bc vb pf pt)) w G (A.put x.id bc vb pf pt).m (A.put x.id bc vb pf pt).ad (l++[x])) I
  (K.more (fun k d=>d.elim .inl (fun d=>.inr ⟨((Qr k).1 d).1,Nat.lt_of_lt_of_le ((Qr k).1 d).2 B.size⟩)) (c.bd.ext I))
 exact⟨w5,z,⟨l++[x],V.append_right _,h5⟩,I.sub hG,B⟩
end
section
variable{A:Dz}{w:World}{F:Fp}{b:Nat}{p:Qe}{N:Nat}{dep:Int→Nat}
def Yr(w:World)(F:Fp)(b:Nat)(p:Qe):Prop:=∃A,Qo A w F b p
theorem Yr.obj:Hf Yr where
 bd:=fun⟨A,h⟩=>(Qo.obj A).bd h
 own:=fun⟨A,h⟩=>(Qo.obj A).own h
 aB:=fun⟨A,h⟩hc d=>⟨A,(Qo.obj A).aB h hc d⟩
 more:=fun⟨A,h⟩hs c=>⟨A,(Qo.obj A).more h hs c⟩
theorem Qo.ne(h:Qo A w F b p):b≠A.m:=by obtain⟨l,z,u,G,H,h1,⟨_,q,_,k,_,_,d,_⟩,c,_⟩:=h;rintro rfl;exact c _ h1.2.1 (d _ k.at_)
theorem Qo.mlt(h:Qo A w F b p):F A.m:=by obtain⟨l,E,B,G,H,h1,⟨_,q,_,k,_,_,c,_⟩,u,z,d⟩:=h;exact d _ (c _ k.at_)
theorem Qe.set_set(p:Qe){x y:Qx}(h:x.id=y.id):(p.set x).set y=p.set y:=by
 unfold Qe.set;rw[List.map_map];refine List.map_congr_left fun z _=>?_;simp only[Function.comp];by_cases c:z.id=x.id;·rw[if_pos c,if_pos h,if_pos (c.trans h)]
 ·rw[if_neg c]
theorem Qep{x:Qx}{i:Int}{q:Qx}(h:p.at i=some q):Qe.at (p++[x]) i=some q:=by unfold Qe.at at*;rw[List.find?_append,h];rfl
def Y0(s:Yk):Qx:=⟨s.id,s.par,s.leaf,s.aJ,0,Ha s.aN,⟨[],0⟩,[],0⟩
theorem Qlr{s:Yk}{q:Qx}(h1:1≤s.id)(hn:p.at s.id=none)(c:p.at s.par=some q)(hl:q.leaf=false):
  p.put s=Qe.set (p++[Y0 s]) {q with mem:=if s.aJ then q.mem.add s.id s.share else q.mem,aM:=q.aM+1}:=by
 unfold Qe.put;rw[c];dsimp only;rw[hn,hl];have:¬s.id<1:=by omega
 simp[this,Y0]
theorem Qpl(h:Qo A w F b p)(s:Yk)(h1:1≤s.id)(hn:p.at s.id=none){q:Qx}(hq:p.at s.par=some q)(hl:q.leaf=false)(cd:q.aM≤65536):
  Cl 69 #[ptr b,Fb s] w fun e w'=>e=.returned (.bool true)∧Yr w' (Qn F w w') b (p.put s)∧Qc F w w':=by
 have K:=(Qo.obj A).bd h;obtain⟨W,hW⟩:=Zx (w.alloc (.cells (Z4 s.leaf s) 40));have S0:Hi (Xx W w.heap.size s):=O (by rw[hW];exact Xx.new w s);have C0:Hi (Qc Qb w W):=O (by rw[hW];exact(Zg _ _).alloc _);have hP:=(Qo.obj A).aB h C0.o (Jl.none F);have ak:=O (Hw hP s.par);rw[Xz hq]at ak;have al:=O (Hw hP s.id);rw[Ep hn]at al;obtain⟨q0,q1,q2,q3,q4,q5,q6,q7⟩:=Ja (hP.cell hq);rw[hl]at q1;obtain⟨a0,a1,a2,a3,a4,a5,a6,a7,a8,a9,bj,bk,bl,bm⟩:=(show Xx (w.alloc _) _ _ from hW▸S0.o).cells;have Xg:¬s.id<1:=by omega
 have ao:=O (fun w=>Ns s w);have bf:=O (fun w=>Qdj s.aN w);have bb:=O hP.blk;have bt:=O hP.ne;have ay:Hi (w.heap.size≠A.m):=O (fun e=>by have:=K _ h.mlt;omega);obtain⟨az,I⟩:=Zx (p.put s);rw[←I];rw[Qlr h1 hn hq hl]at I;have ae:=O I;clear I;have bi:=O Qei;have ba:=O Bw;have ap:Hi (∀w0 w1 w2 w3 w4 vb pf pt,Qc Qb W w0→Qc Qb w0 w1→Qc Qb w1 w2→Qc Qb w2 w3→Ho w1 (Qn Qb w0 w1) vb (Ha s.aN)→J0 w2 (Qn Qb w1 w2) pf ⟨[],0⟩→Jg w3 (Qn Qb w2 w3) pt []→
   w4=w3.alloc (.cells #[.int .i64 s.par,.bool s.leaf,.bool s.aJ,.int .u64 0,ptr vb,ptr pf,ptr pt,.int .i64 0] 143)→
   ∃w5 J,(Instr.mapUpdate 136 (.map (some A.m)) (.int .i64 s.id) (.pointer (some ⟨w3.heap.size,0,none⟩))).run prog w4=.ok () w5∧Qo J w5 (Qn F W w5) b (p++[Y0 s])∧Qc F W w5∧J.ad s.par=A.ad s.par∧J.pf s.par=A.pf s.par):=O (by
  rintro w0 w1 w2 w3 w4 vb pf pt c0 c1 c2 c3 hL hF hT rfl;have c4:Qc Qb w3 (w3.alloc (.cells #[.int .i64 s.par,.bool s.leaf,.bool s.aJ,.int .u64 0,ptr vb,ptr pf,ptr pt,.int .i64 0] 143)):=(Zg _ _).alloc _;have hx:=Qtf (A:=A) (x:=Y0 s) c1 c2 c3 c4 hL hF hT (Qh.new _ _ _);have cW:Qc Qb W (w3.alloc (.cells #[.int .i64 s.par,.bool s.leaf,.bool s.aJ,.int .u64 0,ptr vb,ptr pf,ptr pt,.int .i64 0] 143)):=(((c0.aA c1).aA c2).aA c3).aA c4;have bw:=(Um.obj _).more hx (G5 c0.size (Zv _)) (Td _ _);obtain⟨w5,r1,r2,r3,r4⟩:=hP.newC (x:=Y0 s) hn cW bw;have aw:s.par≠s.id:=fun e=>by rw[e]at hq;rw[hq]at hn;cases hn
  exact⟨w5,_,r1,r2,r3,by simp[Dz.put,Y0,aw],by simp[Dz.put,Y0,aw]⟩)
 have R:Qe.at (p++[Y0 s]) s.par=some q:=Qep hq;unfold Fb ptr at*;clear h hP hl;go_enter func69,ntmps69;go_wp2_with fail;rw[←hW]at a0 a1 a2 a3 a4 a5 a6 a7 a8 a9 bj bk bl bm⊢;clear hW;refine Zy ak ?_;rintro w1 rfl;go_wp2_with fail;refine Zy al ?_;rintro w1 rfl;go_wp2_with fail;refine Jp [(1,0),(1,1),(1,2),(1,3),(1,4),(1,5),(1,6),(1,7),(1,8),(1,9),(0,10),(1,12),(1,13),(2,11),(2,14),(2,15),(2,16),(0,17),(2,18),(3,19)] (fun wv=>Qc (fun k=>k=A.m) (W) wv) Zq (by kernel_rfl) (fun _ _ _ _ _ h=>h) (by(repeat' (first|(with_reducible first|exact Zg _ _|assumption|refine Zh ?_ _|refine Zi ?_ _|refine Zj ?_|refine Zk ?_ _ ?_|(apply Or.inl;rfl))|(apply Or.inl;simp;done)|(apply Or.inr;simp;first|done|omega)))) ?_;simp only[Jk,Zf,Ze,Zd];iterate 3 (refine Qy (by kernel_rfl) (fun wv hv=>by go_simp;try rfl) ?_;try simp only[Act.put,Za,Zc,Zb])
 iterate 7 (refine Qy (by kernel_rfl) (fun wv hv=>by(have zz:=hv.blk S0.o ay.o;have yy:=hv.blk bb.o bt.o;have y0:=Jf yy;obtain⟨z0,z1,z2,z3,z4,z5,z6,z7,z8,z9,bz,ca,cb,cc⟩:=(show Xx wv w.heap.size s from zz).cells);go_simp;try rfl) ?_;try simp only[Act.put,Za,Zc,Zb])
 obtain⟨b0,b1,b2,b3,b4,b5,b6,b7,b8,b9,V,Z,aa,ab⟩:=(show Xx W.drew w.heap.size s from S0.o.aB (Zg _ _).drew).cells;refine Xe (by kernel_rfl) (by go_simp;try rfl) ?_;clear b0 b1 b2 b3 b4 b5 b6 b7 b8 b9 V Z aa ab;iterate 2 (refine Qy (by kernel_rfl) (fun wv hv=>by(have zz:=hv.blk S0.o ay.o;obtain⟨z0,z1,z2,z3,z4,z5,z6,z7,z8,z9,bz,ca,cb,cc⟩:=(show Xx wv w.heap.size s from zz).cells);go_simp;try rfl) ?_;try simp only[Act.put,Za,Zc,Zb])
 refine Yb ?_;go_wp2_with fail;refine Zz (ao.o _) ?_;intro w0 c0;have D0:=O c0.undrew;clear c0;go_wp2_with fail;refine⟨D0.o.none,?_⟩;refine Yb ?_;go_wp2_with fail;refine(bf.o _).mono ?_;rintro e w1⟨vb,rfl,hL,c1⟩;have E1:=O c1;have D1:=O (D0.o.aA c1);have be:=O hL;clear c1 hL;go_wp2_with fail;refine⟨D1.o.none,?_⟩;refine Yb ?_;go_wp2_with fail;refine(bi.o _).mono ?_;rintro e w2⟨pf,rfl,hF,c2⟩;have E2:=O c2;have D2:=O (D1.o.aA c2);have bc:=O hF;clear c2 hF;go_wp2_with fail;refine⟨D2.o.none,?_⟩;refine Yb ?_;go_wp2_with fail;refine(ba.o _).mono ?_;rintro e w3⟨pt,rfl,hT,c3⟩;have E3:=O c3;have D3:=O (D2.o.aA c3);have bh:=O hT;have NN:=O (ap.o w0 w1 w2 w3 _ vb pf pt D0.o E1.o E2.o E3.o be.o bc.o bh.o rfl);clear c3 hT ap;unfold ptr at*;go_wp2_with fail;refine⟨D3.o.none,?_⟩;refine Xe (by kernel_rfl) (by go_simp;try rfl) ?_;refine Yb ?_;go_wp2_with fail;refine⟨D3.o.none.alloc _,?_⟩;obtain⟨w5,J,bv,aq,au,ar,ax⟩:=NN.o;have bg:=O aq;have am:=O au;have u:=O (Zt ar ax);clear aq au ar ax NN;refine Km ?_;go_wp2_with fail;refine Ky ?_;clear bv;have S5:=O (am.o.blk S0.o (fun hk=>by have:=K _ hk;omega));obtain⟨b0,b1,b2,b3,b4,b5,b6,b7,b8,b9,V,Z,aa,ab⟩:=(show Xx w5 w.heap.size s from S5.o).cells;go_wp2_with fail;refine Zz (ao.o _) ?_;intro w6 c6;have d:=(Qo.obj J).same bg.o c6;obtain⟨d,ac⟩:=(Qo.obj J).two d.1 (K.later C0.o) am.o d.2;have af:Hi (∀w7 P' q',Qo J w7 (Qn F W w7) b P'→Qc F W w7→P'.at s.par=some q'→q'.aM=q.aM→∀w8,w8=w7.setCell ⟨A.ad s.par,7,none⟩ (.int .i64 ((q.aM:Int)+1))→Yr w8 (Qn F w w8) b (P'.set {q' with aM:=q.aM+1})∧Qc F w w8):=O (by
  rintro w7 P' q' h7 bo U hu w8 rfl;obtain⟨bu,av⟩:=Qe.aE U;have E:=h7.cell U;have e0:J.ad q'.id=A.ad s.par:=by rw[av];exact u.o.1
  obtain⟨k1,k2⟩:=h7.setC (c:=q') (c':={q' with aM:=q.aM+1}) bu rfl rfl rfl rfl
   (by rw[e0];exact(Zg (fun k=>k=A.ad s.par) w7).setCell (a:=⟨A.ad s.par,7,none⟩) (.int .i64 ((q.aM:Int)+1)) (.inl rfl))
   (by rw[av,u.o.1];rw[u.o.1]at E;exact E.set' 7 (.int .i64 ((q.aM:Int)+1)) rfl)
  obtain⟨m1,m2⟩:=(Qo.obj J).two k1 (K.later C0.o) bo k2;have c8:Qc F w (w7.setCell ⟨A.ad s.par,7,none⟩ (.int .i64 ((q.aM:Int)+1))):=C0.o.none.aA m2;exact⟨⟨J,(Qo.obj J).more m1 (Ke C0.o.size) (K.ext c8)⟩,c8⟩)
 have ew:IntKind.i64.wrap ((q.aM:Int)+1)=(q.aM:Int)+1:=by rw[IntWalk.i64_in _ (by omega)]
 rcases Bool.eq_false_or_eq_true s.aJ with B|B
 ·have z:=d.drew.cell R;rw[u.o.1,u.o.2]at z;obtain⟨_,_,_,_,_,e5,_,_⟩:=Ja z;have ag:s.share.May:=by unfold Yk.aJ at B;simp only[Zw,decide_eq_true_eq]at B;exact B.2
  have bd:Hi (Cl 127 #[ptr (A.pf s.par),.int .i64 s.id,cV s.share] w6.drew fun e w'=>(∃r,e=.returned (.bool r))∧Qo J w' (Qn F W w') b ((p++[Y0 s]).set {q with mem:=q.mem.add s.id s.share})∧Qc F W w'):=O (by
   obtain⟨G,hF,_,ah⟩:=d.drew.famAt R;rw[u.o.2]at hF ah;refine(Qeh hF s.id s.share ag).mono ?_;rintro e w7⟨hr,hf,c7⟩;obtain⟨m1,m2⟩:=ah _ w7 _ (Zg Qb _) hf c7;obtain⟨n1,n2⟩:=(Qo.obj J).two (w1:=w6) m1 (K.later C0.o) ac m2.undrew;exact⟨hr,n1,n2⟩)
  have aj:=(Qe.aE R).2;have U:((p++[Y0 s]).set {q with mem:=q.mem.add s.id s.share}).at s.par=some {q with mem:=q.mem.add s.id s.share}:=by have:=Hq (p:=p++[Y0 s]) (x:={q with mem:=q.mem.add s.id s.share}) (y:=q) (by show Qe.at _ q.id=_;rw[aj];exact R);rw[←aj];exact this
  have an:=O U;have SS:=O (Qe.set_set (p++[Y0 s]) (x:={q with mem:=q.mem.add s.id s.share}) (y:={q with mem:=q.mem.add s.id s.share,aM:=q.aM+1}) rfl);have ai:Hi (az=((p++[Y0 s]).set {q with mem:=q.mem.add s.id s.share}).set {q with mem:=q.mem.add s.id s.share,aM:=q.aM+1}):=O (by rw[ae.o,if_pos B];exact SS.o.symm);obtain⟨g0,g1,g2,g3,g4,g5,g6,g7,g8,g9,bp,bq,br,bs⟩:=(show Xx w6.drew w.heap.size s from c6.drew.blk S5.o (fun h=>h)).cells;unfold ptr cV at*;clear d ac z ag aj U b0 b1 b2 b3 b4 b5 b6 b7 b8 b9 V Z aa ab c6;rw[B];go_wp2_with fail;refine Qj [(0,0),(0,1),(0,2),(0,3),(0,4),(0,5),(0,6),(0,7),(2,8)] Zq (by kernel_rfl) (fun _ _ _ _ _ h=>h) ?_;simp only[Jk,Zf,Ze,Zd];iterate 8 (refine Jq (by kernel_rfl) (by go_simp;try rfl) ?_)
  clear g0 g1 g2 g3 g4 g5 g6 g7 g8 g9 bp bq br bs e5;refine J7 ?_;go_wp2_with fail;refine Zo bd ?_;rintro e w7⟨⟨r,rfl⟩,h7,c7⟩;have E:=h7.cell an.o;rw[u.o.1]at E;obtain⟨_,_,_,_,_,_,_,e7⟩:=Ja E;have z7:=E.frozen 7;have FF:=O (af.o w7 _ _ h7 c7 an.o rfl _ rfl);clear h7 c7 E;go_wp2_with fail;refine Jo ?_;go_wp2_with fail;go_ret;exact⟨rfl,by rw[ai.o];exact FF.o⟩
 ·have z:=d.cell R;rw[u.o.1]at z;obtain⟨_,_,_,_,_,_,_,e7⟩:=Ja z;have z7:=z.frozen 7;have FF:=O (af.o w6 _ q d ac R rfl _ rfl);have ai:Hi (az=(p++[Y0 s]).set {q with aM:=q.aM+1}):=O (by rw[ae.o,if_neg (by rw[B];decide)]);rw[B];clear d ac c6 z b0 b1 b2 b3 b4 b5 b6 b7 b8 b9 V Z aa ab;go_wp2_with fail;go_ret;exact⟨rfl,by rw[ai.o];exact FF.o⟩
end
section
variable{A:Dz}{w:World}{F:Fp}{b:Nat}{p:Qe}{N:Nat}{dep:Int→Nat}
theorem Qo.delC(h:Qo A w F b p)(i:Int)(I ty:TypeId):
  ∃w',(Builtin.delete_ #[136,I] ty #[.map (some A.m),.int .i64 i]).run prog w=.ok (.tuple #[]) w'∧Qo A w' (Qn F w w') b (p.filter fun x=>!decide (x.id=i))∧Qc F w w':=by
 obtain⟨l,K,hs⟩:=h;obtain⟨G,u,J,_,d⟩:=Xv 1 (Vh A b l) rfl hs;obtain⟨w',q,E,c⟩:=Di (P:=prog) u.map underlying136 underlying3 I ty i;have z:Qc G w w':=c.sub fun k B=>B▸u.at_;have h1:Yn Qx.id (Um A) w' (Qn G w w') A.m A.ad (Kp Qx.id i l):=(u.del (Um.obj A) i E c).more (fun k B=>.inl B) (u.bd.ext z);exact⟨w',q,⟨Kp Qx.id i l,K.filter _,d w' (fun w G=>Yn Qx.id (Um A) w G A.m A.ad (Kp Qx.id i l)) z h1⟩,z.sub J⟩
theorem drop_eq{i:Int}{c q:Qx}(h1:1≤i)(hc:p.at i=some c)(k:c.aM=0)(ha:p.aL i=false)(d:p.at c.par=some q):
  p.drop i=(p.set {q with mem:=q.mem.drop i,aM:=q.aM-1}).filter fun x=>!decide (x.id=i):=by
 unfold Qe.drop;rw[hc];dsimp only;rw[ha,k,d];have:¬i<1:=by omega
 simp[this]
theorem Qlj(h:Qo A w F b p)(I:Qs dep N p){i:Int}{c q:Qx}(h1:1≤i)(hc:p.at i=some c)(hu:c.aM=0)(ha:p.aL i=false)(E:p.at c.par=some q)(am:1≤q.aM):
  Cl 111 #[ptr b,.int .i64 i] w fun e w'=>e=.returned (.bool true)∧Qo A w' (Qn F w w') b (p.drop i)∧Qc F w w':=by
 have Z:=(Qo.obj A).bd h;have HA:=O (Hw h i);rw[Xz hc]at HA;have R:=O (Hx h I i);rw[ha]at R;have ac:=(I.ok q (Qe.aE E).1).aM;obtain⟨aj,d⟩:=Zx (p.drop i);rw[←d];rw[drop_eq h1 hc hu ha E]at d;have U:=O d;obtain⟨_,c1,_,_,_,_,_,c7⟩:=Ja (h.cell hc);rw[hu]at c7;have Xg:¬i<1:=by omega
 have J:=(Qe.aE E).2;have ew:IntKind.i64.wrap ((q.aM:Int)-1)=((q.aM-1:Nat):Int):=by rw[IntWalk.i64_in _ (by omega)];omega
 have af:Hi (∀w1,Qc Qb w w1→Cl 173 #[ptr (A.pf c.par),.int .i64 i] w1 fun e w'=>(∃r,e=.returned (.bool r))∧Qo A w' (Qn F w w') b (p.set {q with mem:=q.mem.drop i})∧Qc F w w'):=O (by
  intro w1 cc;obtain⟨G,hF,al,ab⟩:=h.famAt E;refine Zz (Qb3 (J0.obj.aB hF cc (Jl.none G)) i) ?_;rintro w2⟨hf,c2⟩;obtain⟨m1,m2⟩:=ab w1 w2 _ cc hf c2;exact⟨⟨_,rfl⟩,m1,m2⟩)
 have B:(p.set {q with mem:=q.mem.drop i}).at c.par=some {q with mem:=q.mem.drop i}:=by have:=Hq (p:=p) (x:={q with mem:=q.mem.drop i}) (y:=q) (by show p.at q.id=_;rw[J];exact E);rw[←J];exact this
 have SS:=O (Qe.set_set p (x:={q with mem:=q.mem.drop i}) (y:={q with mem:=q.mem.drop i,aM:=q.aM-1}) rfl);have V:Hi (∀w2,Qo A w2 (Qn F w w2) b (p.set {q with mem:=q.mem.drop i})→Qc F w w2→∀w3,w3=w2.setCell ⟨A.ad c.par,7,none⟩ (.int .i64 ((q.aM-1:Nat):Int))→
   w3.cell? ⟨b,0,none⟩=some (.map (some A.m))∧∃w4,(Builtin.delete_ #[136,3] 0 #[.map (some A.m),.int .i64 i]).run prog w3=.ok (.tuple #[]) w4∧Qo A w4 (Qn F w w4) b aj∧Qc F w w4):=O (by
  rintro w2 K ah w3 rfl;obtain⟨ai,aa⟩:=Qe.aE B;have z:=K.cell B;have e0:A.ad ({q with mem:=q.mem.drop i}:Qx).id=A.ad c.par:=by rw[aa]
  obtain⟨k1,k2⟩:=K.setC (c:={q with mem:=q.mem.drop i}) (c':={q with mem:=q.mem.drop i,aM:=q.aM-1}) ai rfl rfl rfl rfl
   (by rw[e0];exact(Zg (fun k=>k=A.ad c.par) w2).setCell (a:=⟨A.ad c.par,7,none⟩) (.int .i64 ((q.aM-1:Nat):Int)) (.inl rfl))
   (by rw[aa];exact z.set' 7 (.int .i64 ((q.aM-1:Nat):Int)) rfl)
  obtain⟨m1,m2⟩:=(Qo.obj A).two k1 Z ah k2;refine⟨Jf m1.blk,?_⟩;obtain⟨w4,ae,h4,c4⟩:=m1.delC i 3 0;obtain⟨n1,n2⟩:=(Qo.obj A).two h4 Z m2 c4;refine⟨w4,ae,?_,n2⟩;rw[U.o,←SS.o];exact n1)
 have ag:=O B;have HC:=O (h.cell hc);have HQ:=O (h.cell E);have HL:=O (fun w'(cc:Qc Qb w w')=>((Qo.obj A).aB h cc (Jl.none F)).look1 c.par);rw[Xz E]at HL;have HB:=O h.blk;unfold ptr at*;clear h I hc E hu ha d ac J B;go_enter func111,ntmps111;go_wp2_with fail;refine Zy HA ?_;rintro w1 rfl;go_wp2_with fail;refine Zy R ?_;intro w1 u;have C1:=O u;obtain⟨d0,_,_,_,_,_,_,_⟩:=Ja (u.drew.blk HC.o (fun h=>h));obtain⟨_,_,_,_,_,q5,_,_⟩:=Ja (u.drew.blk HQ.o (fun h=>h));have hL:=HL.o _ u.drew;have y0:=Jf (u.drew.blk HB.o (fun h=>h));unfold ptr at*;clear u c1 c7;go_wp2_with fail;refine Qj [(0,0),(0,1),(0,2),(0,3),(0,4),(0,5),(0,6),(0,7),(0,8),(2,9)] Zq (by kernel_rfl) (fun _ _ _ _ _ h=>h) ?_;simp only[Jk,Zf,Ze,Zd];iterate 9 (refine Jq (by kernel_rfl) (by go_simp;try rfl) ?_)
 refine J7 ?_;go_wp2_with fail;refine Jo ?_;go_wp2_with fail;refine(af.o _ C1.o.drew).mono ?_;rintro e w2⟨⟨r,rfl⟩,K,c2⟩;have z:=K.cell ag.o;obtain⟨_,_,_,_,_,_,_,e7⟩:=Ja z;have z7:=z.frozen 7;obtain⟨t0,w4,ak,h4,c4⟩:=V.o w2 K c2 _ rfl;have H4:=O (Zt h4 c4);clear K c2 z h4 c4 d0 q5 hL y0;go_wp2;go_ret;exact⟨rfl,H4.o⟩
end
end
end Go.Proofs.YtnnhmpehkbihnaaGreat
