/- A part of the proof: no condition. -/
import Derived.Test.YtigcnnkagkbflaaGreatYq11
import Derived.WalkMore
import Derived.Deep.LoopGhost
import Derived.Test.YtigcnnkagkbflaaGreatYq12
import Derived.Test.YtigcnnkagkbflaaGreatYq10
namespace Go.Proofs.YtigcnnkagkbflaaGreat
set_option linter.unusedVariables false
set_option maxRecDepth 100000
set_option maxHeartbeats 4000000
open Go.RowKit
open Go.Proofs.Tryz
attribute [local go_sem] Qp
section
attribute [local go_sem ↓] X8 Yd
def Qqv(b H:Nat)(w:World)(r:Xh)(x z d c q Y u n:Nat)(i:Value)(wr:World):Prop:=
 (i=ZI 0/\Qh wr b (Pk r x z d n) 340/\Qh wr H #[ZU Y,ZU u] 360/\Qc (λk=>k=b) w wr)\/
 (i=ZI 1/\Qh wr b (Pk r x c d n) 340/\Qh wr H #[ZU c,ZU u] 360/\Qc (λk=>k=b) w wr)\/
 (i=ZI 2/\Qh wr b (Pk r x c q n) 340/\Qh wr H #[ZU c,ZU q] 360/\Qc (λk=>k=b) w wr)
def Po(p:Bool)(a o:Nat):Nat:=if p then min a o else o
theorem Qdp{p:Bool}{n:Nat}(d:p=decide ((0:Int)<(n:Int)))(a o:Nat):(decide (0<n)=true/\decide (a<o)=true/\Po p a o=a)\/(decide (0<n)=true/\decide (a<o)=false/\Po p a o=o)\/(decide (0<n)=false/\Po p a o=o):=by
 unfold Po;subst d;by_cases h:0<n
 .have h':(0:Int)<(n:Int):=by omega
  rw[if_pos (by simpa using h)];by_cases c:a<o;·exact .inl ⟨by simpa using h,by simpa using c,by omega⟩
  .exact .inr (.inl ⟨by simpa using h,by simpa using c,by omega⟩)
 .rw[if_neg (by simpa using h)];exact .inr (.inr ⟨by simpa using h,rfl⟩)
theorem Qjz{w}{F:Fp}{b:Nat}{r:Xh}(h:Ve w F b r)(hn:r.l.length<4611686018427387904)(x y:Nat)(hx:x<18446744073709551616)(hy:y<18446744073709551616):
  ZW 332 #[ptr b,ZU x,ZU y] w (.tuple #[]) λw'=>Ve w' (Qn F w w') b (r.start x y)/\Qc F w w':=by
 have hm:=h.may;have ae:=h.ok.last;obtain⟨X,hX⟩:=Zx (max (min x Qq) (Ji r.l));obtain⟨Y,hY⟩:=Zx (min y Xw);obtain⟨p,hp⟩:∃p:Bool,p=decide ((0:Int)<(r.l.length:Int)):=⟨_,rfl⟩;have R:r.l=[]↔p=false:=by rw[hp];cases r.l<;>simp
 obtain⟨c,af⟩:=Zx (min Xw (Y+(r.c.f-r.c.r)*r.c.l));obtain⟨d,hd⟩:=Zx (X-Ji r.l);have e1:=r.start_h1 h.ok x y;have e2:=r.start_h2 h.ok x y;rw[<-hX,<-hd,<-hY]at e1 e2;rw[<-af]at e2;obtain⟨q,ab⟩:=Zx (Hb r.h1 r.c.f d);obtain⟨u,ac⟩:=Zx (Hb r.h2 r.c.r d);rw[<-ab]at e1;rw[<-ac]at e2;have f1:(r.start x y).h1=Po p q Y:=by
  rw[e1];unfold Po;cases p;·rw[if_pos (R.2 rfl)];simp
  .rw[if_neg (λh=>by have:=R.1 h;cases this)];simp
 have f2:(r.start x y).h2=Po p u c:=by
  rw[e2];unfold Po;cases p;·rw[if_pos (R.2 rfl)];simp
  .rw[if_neg (λh=>by have:=R.1 h;cases this)];simp
 clear e1 e2 R;have ao:=Yz;have aq:=Yf;have ap:(r.c.f-r.c.r)*r.c.l<=1048576*1099511627776:=Nat.mul_le_mul (by have:=hm.hf;omega) hm.hl;have HB:=O (L7 r.c);rw[decide_eq_true h.bent]at HB;have HU:=O (Qgr r.c hm h.bent);have HP:=O (Mm Y ((r.c.f-r.c.r)*r.c.l) (by omega) (by omega));rw[show Qa6 Y ((r.c.f-r.c.r)*r.c.l)=c by rw[af];exact Nat.min_comm _ _]at HP;have A1:=O (Qgl r.c.f r.h1 d (by have:=hm.hf;omega) r.h1_cap (by omega));have A2:=O (Qgl r.c.r r.h2 d (by have:=hm.hr;omega) r.h2_cap (by omega));rw[<-ab]at A1;rw[<-ac]at A2;have ag:∀w',Qh w' b (Pk r X (Po p q Y) (Po p u c) (r.l.length+1:Int)) 340->Qc (λk=>k=b) w w'->Ve w' (Qn F w w') b (r.start x y)/\Qc F w w':=λw' K hc=>by
  have ai:Qc F w w':=hc.sub (λk hk=>by rw[hk];exact h.own);refine⟨⟨h.bd.ext ai,.inl h.own,hm,h.bent,h.ok.start x y,h.rise.start h.ok x y,?_⟩,ai⟩;rw[f1,f2];have e3:Ji (r.start x y).l=X:=by rw[hX];exact Of _ _ _
  rw[e3];have e4:((r.start x y).l.length:Int)=(r.l.length+1:Int):=by simp[Xh.start,Dg]
  rw[e4];exact K
 have HF:=O ag;have B0:=O h.blk;have an:=B0.o.lt;have av:IntKind.u64.wrap ((X:Int)-(Ji r.l:Int))=(d:Int):=by rw[IntWalk.u64_in _ (by omega)];omega
 have ar:max (min (x:Int) 9223372036854775808) (Ji r.l:Int)=(X:Int):=by omega
 have au:min (y:Int) 4611686018427387904=(Y:Int):=by omega
 unfold ptr cV at*;have N1:(decide (0<r.l.length)=true/\decide (q<Y)=true/\Po p q Y=q)\/(decide (0<r.l.length)=true/\decide (q<Y)=false/\Po p q Y=Y)\/(decide (0<r.l.length)=false/\Po p q Y=Y):=Qdp hp q Y;have N2:(decide (0<r.l.length)=true/\decide (u<c)=true/\Po p u c=u)\/(decide (0<r.l.length)=true/\decide (u<c)=false/\Po p u c=c)\/(decide (0<r.l.length)=false/\Po p u c=c):=Qdp hp u c;have aj:=O N1;have ak:=O N2;clear N1 N2;generalize Po p q Y=n1 at*;generalize Po p u c=n2 at*;generalize r.l.length=n at*;generalize r.h1=al at*;generalize r.h2=am at*;generalize Ji r.l=x0 at*;generalize(r.c.f-r.c.r)*r.c.l=ov at*;clear ag f1 f2 ab ac hm h ap af ao aq hX hY hd hp ae;have U:=Av B0.o;apply WH func332;go_wp2_with fail;apply Zz (HB.o _);intro w1 c1;have C1:=O c1;have B1:=O (c1.blk B0.o (λh=>h));clear c1 U;have U:=Av B1.o;go_wp2_with fail;apply Zz (HU.o _);intro w2 c2;have C2:=O (C1.o.aA c2);have B2:=O (c2.blk B1.o (λh=>h));clear c2 U;go_wp2_with fail;with_reducible apply Zz (HP.o _)
 intro w3 c3;have C3:=O ((C2.o.aA c3).alloc (.cells #[ZU Y,ZU c] 360));have L3:=O (Qh.new w3 #[ZU Y,ZU c] 360);have B3:=O ((c3.blk B2.o (λh=>h)).alloc (.cells #[ZU Y,ZU c] 360));have hH:b<w3.heap.size:=Nat.lt_of_lt_of_le an ((C2.o.aA c3).size);have aa:=(C2.o.aA c3).size;clear c3;obtain⟨H,ah⟩:=Zx (w3.heap.size);go_wp2_with fail;rw[<-ah]at L3 hH aa|-;obtain⟨W,hW⟩:=Zx (w3.alloc (.cells #[ZU Y,ZU c] 360));rw[<-hW]at L3 B3 C3|-;clear hW ah;go_quiet (fail);go_wp2;go_loopw [52] (λi wr=>Qqv b H w r x0 al am n1 n2 Y c n i wr) (λi _=>2-(intOf i).toNat);case atStart=>exact .inl ⟨rfl,B3.o,L3.o,C3.o.none.drewN _⟩
 case round=>
  rcases hrel with hrel|hrel|hrel
  .obtain⟨rfl,K,hh,hc⟩:=hrel;have C4:=O hc;have B4:=O K;have L4:=O hh;clear K hh hc;have U:=Av B4.o;have g0:=Q4 L4.o;have i0:∀w,(Instr.index 392 (.agg #[.pointer (some ⟨b,5,none⟩),.pointer (some ⟨b,7,none⟩)]) (ZI 0)).run prog w=.ok (.pointer (some ⟨b,5,none⟩)) w:=λ_=>by kernel_rfl
   go_wp2_with fail;with_reducible apply Zz (A1.o _)
   intro w4 J;have C5:=O (C4.o.aA J.none);have z:=O (J.blk B4.o (λh=>h));have I:=O (J.blk L4.o (λh=>h));have s5:=O J.size;clear J U g0;have U:=Av z.o;have g0:=Q4 I.o;have zb:=z.o.frozen;have zH:=I.o.frozen;have s6:=z.o.lt;rcases aj.o with⟨q1,q2,rfl⟩|⟨q1,q2,rfl⟩|⟨q1,rfl⟩
   .go_wp2;go_roundw;case rel=>exact .inr (.inl ⟨rfl,(z.o.other _ (Nat.ne_of_gt hH)).set' 6 _ rfl,(I.o.set' 0 _ rfl).other _ (Nat.ne_of_lt hH),(C5.o.setCell _ (.inr aa)).setCell _ (.inl rfl)⟩)
    case measure=>decide
   .go_wp2;go_roundw;case rel=>exact .inr (.inl ⟨rfl,z.o.set' 6 _ rfl,I.o.other _ (Nat.ne_of_lt hH),C5.o.setCell _ (.inl rfl)⟩)
    case measure=>decide
   .go_wp2;go_roundw;case rel=>exact .inr (.inl ⟨rfl,z.o.set' 6 _ rfl,I.o.other _ (Nat.ne_of_lt hH),C5.o.setCell _ (.inl rfl)⟩)
    case measure=>decide
  .obtain⟨rfl,K,hh,hc⟩:=hrel;have C4:=O hc;have B4:=O K;have L4:=O hh;clear K hh hc;have U:=Av B4.o;have g0:=Q4 L4.o;have i0:∀w,(Instr.index 392 (.agg #[.pointer (some ⟨b,5,none⟩),.pointer (some ⟨b,7,none⟩)]) (ZI 1)).run prog w=.ok (.pointer (some ⟨b,7,none⟩)) w:=λ_=>by kernel_rfl
   go_wp2_with fail;with_reducible apply Zz (A2.o _)
   intro w4 J;have C5:=O (C4.o.aA J.none);have z:=O (J.blk B4.o (λh=>h));have I:=O (J.blk L4.o (λh=>h));have s5:=O J.size;clear J U g0;have U:=Av z.o;have g0:=Q4 I.o;have zb:=z.o.frozen;have zH:=I.o.frozen;have s6:=z.o.lt;rcases ak.o with⟨q1,q2,rfl⟩|⟨q1,q2,rfl⟩|⟨q1,rfl⟩
   .go_wp2;go_roundw;case rel=>exact .inr (.inr ⟨rfl,(z.o.other _ (Nat.ne_of_gt hH)).set' 8 _ rfl,(I.o.set' 1 _ rfl).other _ (Nat.ne_of_lt hH),(C5.o.setCell _ (.inr aa)).setCell _ (.inl rfl)⟩)
    case measure=>decide
   .go_wp2;go_roundw;case rel=>exact .inr (.inr ⟨rfl,z.o.set' 8 _ rfl,I.o.other _ (Nat.ne_of_lt hH),C5.o.setCell _ (.inl rfl)⟩)
    case measure=>decide
   .go_wp2;go_roundw;case rel=>exact .inr (.inr ⟨rfl,z.o.set' 8 _ rfl,I.o.other _ (Nat.ne_of_lt hH),C5.o.setCell _ (.inl rfl)⟩)
    case measure=>decide
  .obtain⟨rfl,K,hh,hc⟩:=hrel;have zb:=K.frozen;have U:=Av K;go_wp2;refine WB rfl rfl ⟨rfl,HF.o _ ((K.set' 4 _ rfl).set' 3 _ rfl) ((hc.setCell _ (.inl rfl)).setCell _ (.inl rfl))⟩
def Pq(c:Jy)(n:Int)(x:Nat)(v:Value):Array Value:=#[ZU c.f,ZU c.l,ZU c.r,.bool true,ZI n,ZU x,v]
theorem Tu{w}{b:Nat}{t:TypeId}{v0 v1 v2 v3 v4 v5 v6:Value}(h:Qh w b #[v0,v1,v2,v3,v4,v5,v6] t):w.cell? ⟨b,0,none⟩=some v0/\w.cell? ⟨b,1,none⟩=some v1/\w.cell? ⟨b,2,none⟩=some v2/\w.cell? ⟨b,3,none⟩=some v3/\w.cell? ⟨b,4,none⟩=some v4/\w.cell? ⟨b,5,none⟩=some v5/\w.cell? ⟨b,6,none⟩=some v6:=by simp only[h.cell];exact⟨rfl,rfl,rfl,rfl,rfl,rfl,rfl⟩
def kV(k:Nat×Nat):Value:=.agg #[ZU k.1,ZU k.2]
theorem Qej(m n:Nat)(c:n<18446744073709551616)(w)(h:m+n<340282366920938463463374607431768211456):
  Cl 287 #[.agg #[ZU ((m/18446744073709551616:Nat):Int),ZU ((m%18446744073709551616:Nat):Int)],.agg #[ZU 0,ZU n]] w
   λe w'=>e=.returned (.tuple #[Qek (m+n),ZI 0])/\Qc Qb w w':=by
 have:=Fg m n w h;rw[Nat.div_eq_of_lt c,Nat.mod_eq_of_lt c]at this;exact this
theorem Qbv{w}{b:Nat}{c:Jy}{n:Int}{x:Nat}{v:Value}(hc:c.May)(hB:Qh w b (Pq c n x v) 343)(k:Nat×Nat)(t:Nat)(hk:k.1<=t)(ht:t<18446744073709551616)(hy:k.2<=Xw):
  ZW 362 #[ptr b,kV k,ZU t] w (Qek (Ug c t k)) λw'=>Qc Qb w w':=by
 obtain⟨q,u⟩:=k;have I:=Yz;dsimp only at hk hy;have hm:c.r*(t-q)<=1048576*18446744073709551616:=Nat.mul_le_mul hc.hr (by omega);have V:=O (λw=>Dw c.r (t-q) w (by have:=hc.hr;omega) (by omega));have B:=O (λw=>Qej (c.r*(t-q)) u (by omega) w (by omega));have e:Ug c t (q,u)=c.r*(t-q)+u:=by unfold Ug;rw[Nat.add_comm]
 rw[e];have hs:IntKind.u64.wrap ((t:Int)-(q:Int))=((t-q:Nat):Int):=by rw[IntWalk.u64_in _ (by omega)];omega
 clear hk ht hy I hm e;generalize c.r*(t-q)=p at*;generalize t-q=d at*;unfold Qek kV ptr at*;dsimp only;generalize(((p+u)/18446744073709551616:Nat):Int)=q1 at B|-;generalize(((p+u)%18446744073709551616:Nat):Int)=q0 at B|-;generalize((p/18446744073709551616:Nat):Int)=p1 at V B;generalize((p%18446744073709551616:Nat):Int)=p0 at V B;have B0:=O hB;have aa:=hB.lt;obtain⟨s,z⟩:=Zx (w.heap.size);have J:=O ((Qh.new w #[ZU q,ZU u] 407).alloc (.cells #[ZU 0,ZU 0] 334));have K:=O (Qh.new (w.alloc (.cells #[ZU q,ZU u] 407)) #[ZU 0,ZU 0] 334);have S0:=O ((B0.o.alloc (.cells #[ZU q,ZU u] 407)).alloc (.cells #[ZU 0,ZU 0] 334));have U:=O (((Zg Qb w).alloc (.cells #[ZU q,ZU u] 407)).alloc (.cells #[ZU 0,ZU 0] 334));simp only[World.size_alloc,<-z]at J K;apply WH func362;go_wp2;rw[<-z];obtain⟨W,hW⟩:=Zx ((w.alloc (.cells #[ZU q,ZU u] 407)).alloc (.cells #[ZU 0,ZU 0] 334));rw[<-hW]at J K S0 U|-;have HS:=O z;clear hW z aa;have E:=O (λ(w')(h:Qc Qb W w')=>(⟨(Tu (h.blk S0.o (λh=>h))).2.2.1,(Q4 (h.blk J.o (λh=>h))).1,(Q4 (h.blk J.o (λh=>h))).2⟩:w'.cell? ⟨b,2,none⟩=some (ZU c.r)/\w'.cell? ⟨s,0,none⟩=some (ZU q)/\w'.cell? ⟨s,1,none⟩=some (ZU u)));go_region_held3 (λw':World=>w'.cell? ⟨b,2,none⟩=some (ZU c.r)/\w'.cell? ⟨s,0,none⟩=some (ZU q)/\w'.cell? ⟨s,1,none⟩=some (ZU u)) (exact E.o _ Z0) (first|(go_at_call 276;with_reducible refine(V.o _).mono ?_;rintro e w2⟨rfl,d2⟩;have c2:Qc Qb W w2:=Qc.aA Z0 d2;have z2:=c2.size;(try(have g2:=d2.blk (Qh.new _ #[ZU 0,ZU 0] 334).drew (λh=>h);have u0:=Q4 g2;have u2:=g2.frozen));clear d2)|(go_at_call 287;with_reducible refine(B.o _).mono ?_;rintro e w3⟨rfl,R⟩;have c3:Qc Qb W w3:=Qc.aA Z0 R;have z3:=c3.size;(try(first|have g3:=R.blk g2 (λh=>h)|have g3:=R.blk (Qh.new _ #[ZU 0,ZU 0] 334) (λh=>h));have u3:=Q4 g3;have u5:=g3.frozen);clear R));all_goals have Z:=c3.blk K.o (λh=>h)
 all_goals obtain⟨r0,r1⟩:=Q4 Z
 all_goals have r2:=Z.frozen
 all_goals have zs:=K.o.lt
 all_goals have ae:=Z.lt
 all_goals have n1:¬s+1=W.heap.size:=by omega
 all_goals have n2:¬W.heap.size=s+1:=by omega
 all_goals have n3:¬s+1=w2.heap.size:=by omega
 all_goals have n4:¬w2.heap.size=s+1:=by omega
 all_goals go_wp2
 all_goals refine bodyPost_ret (v:=.agg #[ZU q1,ZU q0]) ?_ rfl ⟨rfl,?_⟩
 all_goals first|(simp[*,results,Tryz.results362,go_sem];done)|skip
 all_goals have cw:=U.o.aA c3
 all_goals have ab:=HS.o
 all_goals have ac:=U.o.size
 all_goals clear r0 r1 r2 n1 n2 n3 n4
 all_goals(exact Z0)
theorem Qee{w}{b:Nat}{c:Jy}{n:Int}{x:Nat}{v:Value}(hc:c.May)(hB:Qh w b (Pq c n x v) 343)(k:Nat×Nat)(t:Nat)(hk:k.1<=t)(ht:t<18446744073709551616)(hy:k.2<=Xw):
  ZW 361 #[ptr b,kV k,ZU t] w (Qek (Hg c t k)) λw'=>Qc Qb w w':=by
 obtain⟨E,I⟩:=k;have ae:=Yz;dsimp only at hk hy;obtain⟨d,hd⟩:=Zx (t-E);obtain⟨m,hm⟩:=Zx (min d c.l);have h1:=hc.hf;have h2:=hc.hr;have h3:=hc.hl;have e:Hg c t (E,I)=c.f*m+c.r*(d-m)+I:=by unfold Hg Jy.at;rw[<-hd,<-hm];omega
 have hP:c.f*m<=1048576*18446744073709551616:=Nat.mul_le_mul h1 (by omega);have hQ:c.r*(d-m)<=1048576*18446744073709551616:=Nat.mul_le_mul h2 (by omega);have V:=O (λw=>Dw c.f m w (by omega) (by omega));have Z:=O (λw=>Dw c.r (d-m) w (by omega) (by omega));have u:=O (λw=>Fg (c.f*m) (c.r*(d-m)) w (by omega));have B:=O (λw=>Qej (c.f*m+c.r*(d-m)) I (by omega) w (by omega));rw[e];have hs:IntKind.u64.wrap ((t:Int)-(E:Int))=(d:Int):=by rw[IntWalk.u64_in _ (by omega)];omega
 have ak:IntKind.u64.wrap ((d:Int)-(m:Int))=((d-m:Nat):Int):=by rw[IntWalk.u64_in _ (by omega)];omega
 have al:min (d:Int) (c.l:Int)=(m:Int):=by omega
 clear hk ht hy ae e h1 h2 h3 hP hQ;generalize c.f*m=P at*;generalize c.r*(d-m)=Q at*;generalize d-m=d2 at*;clear hd hm;unfold Qek kV ptr at*;dsimp only;generalize(((P+Q+I)/18446744073709551616:Nat):Int)=q1 at B|-;generalize(((P+Q+I)%18446744073709551616:Nat):Int)=q0 at B|-;generalize(((P+Q)/18446744073709551616:Nat):Int)=s1 at u B;generalize(((P+Q)%18446744073709551616:Nat):Int)=s0 at u B;generalize((P/18446744073709551616:Nat):Int)=p1 at V u;generalize((P%18446744073709551616:Nat):Int)=p0 at V u;generalize((Q/18446744073709551616:Nat):Int)=r1 at Z u;generalize((Q%18446744073709551616:Nat):Int)=r0 at Z u;have B0:=O hB;have ah:=hB.lt;obtain⟨s,U⟩:=Zx (w.heap.size);have K0:=O ((Qh.new w #[ZU E,ZU I] 407).alloc (.cells #[ZU 0,ZU 0] 334));have R0:=O (Qh.new (w.alloc (.cells #[ZU E,ZU I] 407)) #[ZU 0,ZU 0] 334);have S0:=O ((B0.o.alloc (.cells #[ZU E,ZU I] 407)).alloc (.cells #[ZU 0,ZU 0] 334));have C0:=O (((Zg Qb w).alloc (.cells #[ZU E,ZU I] 407)).alloc (.cells #[ZU 0,ZU 0] 334));simp only[World.size_alloc,<-U]at K0 R0;apply WH func361;go_wp2;rw[<-U];obtain⟨W,hW⟩:=Zx ((w.alloc (.cells #[ZU E,ZU I] 407)).alloc (.cells #[ZU 0,ZU 0] 334));rw[<-hW]at K0 R0 S0 C0|-;have HS:=O U;clear hW U ah;have E1:=λx=>Tu (Qk (S:=Qb) S0.o (λh=>h) x);have E2:=λx=>Q4 (Qk (S:=Qb) K0.o (λh=>h) x);try dsimp only[Pq]at E1
 refine ZE [] [0,1,2,3,4,5,6,7,8,9] [10] [] (Qb) W ?_;simp only[pick,Zf,Ze,Zd];refine Qg ?_;iterate 10 (refine Ql (λK hK=>?_);go_simp;refine hK _ ?_;clear hK K)
 refine Qg ?_;intro _ ai;obtain⟨xo,ag⟩:=ai;subst ag;simp only[Jd];have J:=O (Qv Qb W xo);generalize Qz Qb W xo=W1 at J|-;clear E1 E2;go_wp2;refine⟨Qd J.o,?_⟩;have K1:=O (J.o.blk K0.o (λh=>h));have R1:=O (J.o.blk R0.o (λh=>h));have S1:=O (J.o.blk S0.o (λh=>h));have C1:=O (C0.o.aA J.o);clear J;have ab:=O (λ(w')(h:Qc Qb W1 w')=>(⟨(Tu (h.blk S1.o (λh=>h))).1,(Tu (h.blk S1.o (λh=>h))).2.2.1,(Q4 (h.blk K1.o (λh=>h))).1⟩:w'.cell? ⟨b,0,none⟩=some (ZU c.f)/\w'.cell? ⟨b,2,none⟩=some (ZU c.r)/\w'.cell? ⟨s,0,none⟩=some (ZU E)));go_wp2;go_cut [8] (λs8 wz=>∃q,s8=ZP q/\W1.heap.size<=q/\Qh wz q #[ZU s1,ZU s0] 334/\Qc Qb W1 wz)
 case first=>
  go_region_held3 (λw':World=>w'.cell? ⟨b,0,none⟩=some (ZU c.f)/\w'.cell? ⟨b,2,none⟩=some (ZU c.r)/\w'.cell? ⟨s,0,none⟩=some (ZU E)) (exact ab.o _ Z0) (first|(go_at_call 276;with_reducible refine(V.o _).mono ?_;rintro e w2⟨rfl,d2⟩;have c2:Qc Qb W1 w2:=Qc.aA Z0 d2;have z2:=c2.size;(try(first|have g2:=d2.blk (Qh.new _ #[ZU 0,ZU 0] 334) (λh=>h)|have g2:=d2.blk (Qh.new _ #[ZU 0,ZU 0] 334).drew (λh=>h));have u2:=Q4 g2;have f2:=g2.frozen);clear d2)|(go_at_call 276;with_reducible refine(Z.o _).mono ?_;rintro e w3⟨rfl,d3⟩;have J:Qc Qb W1 w3:=Qc.aA Z0 d3;have z3:=J.size;(try(first|have g3:=d3.blk g2 (λh=>h)|have g3:=d3.blk (Qh.new _ #[ZU 0,ZU 0] 334) (λh=>h)|have g3:=d3.blk (Qh.new _ #[ZU 0,ZU 0] 334).drew (λh=>h));have u3:=Q4 g3;have f3:=g3.frozen);clear d3)|(go_at_call 287;with_reducible refine(u.o _).mono ?_;rintro e w4⟨rfl,d4⟩;have c4:Qc Qb W1 w4:=Qc.aA Z0 d4;have z4:=c4.size;(try(first|have g4:=d4.blk g3 (λh=>h)|have g4:=d4.blk (Qh.new _ #[ZU 0,ZU 0] 334) (λh=>h)|have g4:=d4.blk (Qh.new _ #[ZU 0,ZU 0] 334).drew (λh=>h));have u4:=Q4 g4;have f4:=g4.frozen);clear d4));all_goals go_wp2_with fail
  all_goals go_meet
  all_goals refine⟨_,rfl,?_,?_,?_⟩
  all_goals first|exact(g4.set' 0 _ rfl).set' 1 _ rfl|exact Qh.new _ _ _|skip
  all_goals first|omega|skip
  all_goals(exact Z0)
 case rest=>
  obtain⟨q,rfl,hq,R,z⟩:=hcut;obtain⟨W2,ac⟩:=Zx wc;rw[<-ac]at R z|-;clear ac;have S2:=O (z.blk S1.o (λh=>h));have K2:=O (z.blk K1.o (λh=>h));have R2:=O (z.blk R1.o (λh=>h));have C2:=O (C1.o.aA z);have Q2:=O R;have af:s+1<q:=Nat.lt_of_lt_of_le R1.o.lt hq;have aa:=O af;have y0:=Q4 K2.o;have y2:=Q4 R;clear R z hq af;go_wp2_with fail;with_reducible apply Zz (B.o _)
  intro w5 d5;have C3:=O (C2.o.aA d5);have Q3:=O (d5.blk Q2.o (λh=>h));have R3:=O (d5.blk R2.o (λh=>h));clear d5 y0 y2;have y2:=Q4 Q3.o;have y4:=Q4 R3.o;have y6:=Q3.o.frozen;have y7:=R3.o.frozen;have n1:¬s+1=q:=by have:=aa.o;omega
  have n2:¬q=s+1:=by have:=aa.o;omega
  go_wp2;refine bodyPost_ret (v:=.agg #[ZU q1,ZU q0]) ?_ rfl ⟨rfl,?_⟩;·simp[*,results,Tryz.results361,go_sem]
  .have cw:=C3.o;have am:=HS.o;have aj:=aa.o;clear y2 y4 y6 y7 n1 n2;(exact Z0)
end
section
attribute [local go_sem ↓] X8 Yd
theorem Own.empty{T:Type}{cells:T->List Value}{sz:Nat}{e:TypeId}{w}{g:Nat}(h:Qh w g #[] e):Own cells sz e w (.slice (some ⟨g,0,none⟩) 0 0) ([]:List T):=
 ⟨by simp[Jm],.inr ⟨g,0,#[],rfl,Nat.zero_le _,h,Zv _,by simp[maxLen],by simp,by simp[Jm]⟩⟩
def V9(k:Nat×Nat):List Value:=[ZU k.1,ZU k.2]
theorem J5(k:Nat×Nat):(V9 k).length=2:=rfl
theorem startT:Qce prog V9 2 341 407 16 (0,0) where
 ht:=underlying341
 hi:=Ee (by kernel_rfl)
 pos:=by decide
 hc:=J5
 one:=by intro x u c;simp only[V9,Zu,List.not_mem_nil,or_false]at c;rcases c with rfl|rfl<;>rfl
structure Hh(w:World)(F:Fp)(b:Nat)(r:Xh):Prop where
 bd:Bd F w
 own:F b
 may:r.c.May
 sag:¬r.c.r<r.c.f
 ok:Uj r.l
 rise:Ew r.l
 ex:∃(v:Value)(K:Uw),Qh w b (Pq r.c r.l.length (Ji r.l) v) 343/\Own V9 2 407 w v K/\Ys r.c (Ji r.l) K r.l/\∀k,v.ownBlock=some k->F k/\k≠b
theorem sagP:Hf Hh where
 bd h:=h.bd
 own h:=h.own
 aB h hc hd:=⟨h.bd.later hc,h.own,h.may,h.sag,h.ok,h.rise,by
  obtain⟨v,K,q,u,z,c⟩:=h.ex;exact⟨v,K,hc.blk q (hd _ h.own),u.aB hc (λk d=>hd _ (c k d).1),z,c⟩⟩
 more h hs hb:=⟨hb,hs _ h.own,h.may,h.sag,h.ok,h.rise,by
  obtain⟨v,K,q,u,z,c⟩:=h.ex;exact⟨v,K,q,u,z,λk d=>⟨hs _ (c k d).1,(c k d).2⟩⟩⟩
theorem Mq{w}{F:Fp}{b:Nat}{r:Xh}(h:Hh w F b r):ZW 363 #[ptr b] w (.bool (r.l.length==0)) λw'=>w=w':=by
 obtain⟨v,K,c,_⟩:=h.ex;unfold ptr;have d:=Tu c;have e:((r.l.length:Int)==0)=(r.l.length==0):=by
  cases r.l with
  |nil=>rfl
  |cons k l=>simp;omega
 rw[<-e];clear h c e;generalize(r.l.length:Int)=n at*;apply WH func363;exact WE
theorem Qqb(c:Jy)(E:c.May)(z:¬c.r<c.f)(w):Cl 253 #[cV c] w λe w'=>∃b,e=.returned (.tuple #[ptr b,ZI 0])/\Hh w' (Qn Qb w w') b ⟨c,[]⟩/\Qc Qb w w':=by
 have R:=O (K8 c);have K:=O (L7 c);rw[decide_eq_true E]at R;rw[decide_eq_false z]at K;have d:∀(W w'),Qc Qb w W->w'=W.alloc (.cells (Pq c 0 0 (.slice none 0 0)) 343)->Hh w' (Qn Qb w w') W.heap.size ⟨c,[]⟩/\Qc Qb w w':=by rintro W w' hW rfl;have h1:=hW.size;refine⟨⟨λk I=>I.elim (λh=>h.elim) (λh=>h.2),.inr ⟨h1,by simp⟩,E,z,Uj.nil,.nil,_,[],Qh.new _ _ _,Own.nil _ _ _ _,⟨List.Sublist.refl _,nofun⟩,λk I=>by simp[Value.ownBlock]at I⟩,hW.alloc _⟩
 have HF:=O d;obtain⟨f,l,r⟩:=c;unfold cV at*;dsimp only[Pq]at*;have B:=O (Qh.new w #[ZU f,ZU l,ZU r] 27);have C:=O ((Zg Qb w).alloc (.cells #[ZU f,ZU l,ZU r] 27));clear E z d;apply WH func253;go_wp2_with fail;apply Zz (R.o _);intro w1 q;have C1:=O (C.o.aA q);have J:=O (q.blk B.o (λh=>h));clear q;have U:=L6 J.o;go_wp2_with fail;apply Zz (K.o _);intro w2 u;have C2:=O (C1.o.aA u);have B2:=O (u.blk J.o (λh=>h));clear u U;have U:=L6 B2.o;go_wp2;go_ret2;exact⟨_,rfl,HF.o _ _ C2.o rfl⟩
theorem Ta:prog.eqGuardType prog.depth 341=false:=by kernel_rfl
theorem Ba:prog.stoodInHeld 341=false:=by kernel_rfl
attribute [local go_sem] Ta Ba
theorem Ig(v:Value)(K:Uw)(w)(V:Own V9 2 407 w v K)(hl:K.length<1099511627776):
  Cl 360 #[v] w λe w'=>∃u,e=.returned u/\Own V9 2 407 w' u K/\Qc Qb w w'/\(∀k,u.ownBlock=some k->w.heap.size<=k)/\(v=.slice none 0 0->u=.slice none 0 0):=by
 obtain⟨a,cap,rfl,B,U,d⟩:=V.row startT.hc;have HR:=O d;have HK:=O V;clear d V;have I:=λ(W)=>Lib.run_eql_slice_nil (P:=prog) W 341 407 a K.length cap 0 0 underlying341;cases a with
 |none=>
  obtain rfl:=U rfl;have E:K.length=0:=by omega
  obtain rfl:=List.eq_nil_of_length_eq_zero E;have C0:=O (Zg Qb w);simp only[List.length_nil,Option.isNone_none]at I;clear B U hl E;apply WH func360;go_wp2;go_ret;exact⟨_,rfl,Own.nil _ _ _ _,C0.o,nofun,λ_=>rfl⟩
 |some ad=>
  clear U;apply WH func360;go_wp2_with (at_builtin;refine Jj startT rfl (.tmp 5) (.tmp 6) rfl _ ([]:Uw) rfl (Own.empty (Qh.new' _ _ (by simp))) _ _ K rfl ?a2 ?a3 ?a4 ?a5 ?a6);case a2=>intro h;cases h
  case a3=>exact HR.o.aB ((Zg Qb w).alloc _) (λ_ _ h=>h)
  case a4=>simp[maxLen];omega
  case a5=>simp;omega
  case a6=>
   intro u w1 c z J;have Z:Qc Qb w w1:=((Zg Qb w).alloc (.cells #[] 407)).trans z λj hj=>.inr (by simp[Value.ownBlock]at hj;omega);have K2:∀k,u.ownBlock=some k->w.heap.size<=k:=by
    intro k R;rcases J with h|h;·rw[h]at R;simp[Value.ownBlock]at R;omega
    .rw[h]at R;have:=Zs R;have hz:(w.alloc (.cells #[] 407)).heap.size=w.heap.size+1:=by simp
     omega
   have q:=O (Zt c (Zt Z K2));clear c Z K2 z J;go_wp2;go_ret;exact⟨_,rfl,q.o.1,q.o.2.1,q.o.2.2,nofun⟩
theorem Ys.len{c:Jy}{x:Nat}{a b:Uw}(h:Ys c x a b):a.length<=b.length:=h.1.length_le
theorem Qmh{w}{F:Fp}{b:Nat}{r:Xh}(h:Hh w F b r)(hl:r.l.length<1099511627776):Cl 371 #[ptr b] w λe w'=>∃b',e=.returned (ptr b')/\Hh w' (Qn Qb w w') b' r/\Qc Qb w w':=by
 obtain⟨v,K,I,V,Z,h4⟩:=h.ex;have HC:=O (λw'(B:Qc Qb w w')=>Ig v K w' (V.aB B (λ_ _ h=>h)) (Nat.lt_of_le_of_lt Z.len hl));have u:∀(w1 w2)(c:Value),Qc Qb (w.alloc (.cells (Pq r.c r.l.length (Ji r.l) v) 343)) w1->Own V9 2 407 w1 c K->(∀k,c.ownBlock=some k->w.heap.size+1<=k)->w2=w1.setCell ⟨w.heap.size,6,none⟩ c->Hh w2 (Qn Qb w w2) w.heap.size r/\Qc Qb w w2:=by
  rintro w1 w2 c B q E rfl;have e0:(w.alloc (.cells (Pq r.c r.l.length (Ji r.l) v) 343)).heap.size=w.heap.size+1:=by simp
  have e1:=B.size;have hB:=(B.blk (Qh.new w (Pq r.c r.l.length (Ji r.l) v) 343) (λh=>h)).set' 6 c (cs':=Pq r.c r.l.length (Ji r.l) c) rfl;have aa:Qc Qb w (w1.setCell ⟨w.heap.size,6,none⟩ c):=(((Zg Qb w).alloc _).aA B).setCell c (.inr (Zv _));have e2:(w1.setCell ⟨w.heap.size,6,none⟩ c).heap.size=w1.heap.size:=by simp[World.setCell]
  refine⟨⟨λk d=>d.elim (λh=>h.elim) (λh=>h.2),.inr ⟨Zv _,by rw[e2];omega⟩,h.may,h.sag,h.ok,h.rise,c,K,hB,?_,Z,λk d=>⟨.inr ⟨by have:=E k d;omega,?_⟩,by have:=E k d;omega⟩⟩,aa⟩;·exact q.aB ((Zg (λk=>k=w.heap.size) w1).setCell c (.inl rfl)) (λk d e=>by have:=E k d;omega)
  .rw[e2];exact q.lt k d
 have HF:=O u;obtain⟨ka,kc,E,_⟩:=V.row J5;clear u;subst E;have B0:=O I;have ac:=I.lt;have a0:=Tu I;unfold ptr;dsimp only[Pq]at*;clear h I V Z h4;have CC:=HC.o (w.alloc (.cells #[ZU r.c.f,ZU r.c.l,ZU r.c.r,.bool true,ZI r.l.length,ZU (Ji r.l:Int),.slice ka K.length kc] 343)) ((Zg _ _).alloc _);have R:=O CC;have B1:=O (Qh.new w #[ZU r.c.f,ZU r.c.l,ZU r.c.r,.bool true,ZI r.l.length,ZU (Ji r.l:Int),.slice ka K.length kc] 343);clear CC;apply WH func371;go_wp2_with fail;apply Zo R;rintro e w1⟨c,rfl,o1,U,n1,_⟩;have B2:=O (U.blk B1.o (λh=>h));have HO:=O o1;have HN:=O n1;have J:=O U;clear o1 n1 U a0;have a0:=Tu B2.o;have z:=B2.o.frozen;obtain⟨ae,af,ab,_⟩:=HO.o.row J5;subst ab;go_wp2;go_ret;exact⟨_,rfl,HF.o _ _ _ J.o HO.o (λk d=>by have:=HN.o k d;simpa using this) rfl⟩
end
section
attribute [local go_sem ↓] X8 Yd
theorem Qp3(c:Jy)(z:c.May)(y:Nat):U7 c y<=Qq:=by
 have k:=Yz;have B:=Yf;unfold U7;split;·exact Zv _
 .cases h:c.reach y with
  |none=>exact Zv _
  |some n=>
   show n<=Qq;unfold Jy.reach at h;have d:∀a b,0<b->Tw a b<=a:=λa b q=>(D9 q).2 (Nat.le_mul_of_pos_left a q);split at h;·cases h;omega
   .split at h;·cases h;have:=d y c.f (Nat.pos_of_ne_zero λk=>by rename_i u;rw[k,Nat.zero_mul]at u;omega);omega
    .split at h;·cases h
     .cases h;have:=d (y-c.f*c.l) c.r (by omega);have:=z.hl;omega
theorem Qri{f:Nat×Nat->Nat}{l:Uw}{a:Nat}{k:Nat×Nat}(c:k∈l):f k<=l.foldl (λn k=>max n (f k)) a:=((Uf l a).1 (Zv _)).2 k c
theorem Qg4{f g:Nat×Nat->Nat}(h:∀k,min Qq (f k)=min Qq (g k)):∀(l:Uw)(a b:Nat),min Qq a=min Qq b->min Qq (l.foldl (λn k=>max n (f k)) a)=min Qq (l.foldl (λn k=>max n (g k)) b)
 |[],a,b,e=>e
 |k::l,a,b,e=>by
  have:=h k;have c:min Qq (max a (f k))=min Qq (max b (g k)):=by omega
  exact Qg4 h l _ _ c
def atN(c:Jy)(y:Nat)(k:Nat×Nat):Nat:=k.1+U7 c (y-k.2)
theorem Qq0{c:Jy}{y:Nat}(d:y<=Xw)(k:Nat×Nat):min Qq (atN c y k)=min Qq (Rr c y k):=by
 unfold atN Rr U7;rw[if_neg (by omega)];cases c.reach (y-k.2)with
 |none=>show min Qq (k.1+Qq)=min Qq Qq;omega
 |some n=>rfl
theorem Qi4{w}{F:Fp}{b:Nat}{r:Xh}(h:Hh w F b r)(hl:r.l≠[])(hn:r.l.length<1099511627776)(y:Nat)(hy:y<=Xw)(c:Jy)(hc:c.May)
  (he:∀K,Ys r.c (Ji r.l) K r.l->∀t,Ji r.l<=t->Xb (Hg c t) K=Xb (Hg c t) r.l)(g q:Nat)(eg:∀Z w,(callFunc g Z).run prog w=.ok (.enter g Z) w)
  (hN:∀m,m<=Xw->∀w',Qc Qb w w'->ZW g #[ZU m,ZP q] w' (ZU (U7 c m:Nat)) λw2=>Qc Qb w' w2):
  ZW 357 #[ptr b,ZU y,.func (.func g) #[] #[ZP q]] w (ZU (Kn c r.l y:Nat)) λw'=>Qc Qb w w':=by
 have h0:=Yz;have ar:=Yf;have H1:=O (Mq h);have ab:(r.l.length==0)=false:=by simpa using hl
 rw[ab]at H1;obtain⟨v,K,hB,hO,hS,_⟩:=h.ex;have ap:K≠[]:=(La (f:=Hg r.c (Ji r.l)) hS.1 hl λk J=>by obtain⟨j,hj,d⟩:=hS.2 k J;exact⟨j,hj,(d _ (Zv _)).1⟩).1;have ac:Kn c r.l y=min Qq (K.foldl (λn k=>max n (atN c y k)) (Ji r.l)):=by rw[<-Qkr (c:=r.c) h.ok hl hS.1 (he K hS) ap];unfold Eg;rw[if_neg (by omega)];exact(Qg4 (f:=atN c y) (g:=Rr c y) (Qq0 hy) K _ _ rfl).symm
 have bb:K.length<1099511627776:=Nat.lt_of_le_of_lt hS.len hn;have aq:∀k∈K,k.1<=Qq/\k.2<=Xw:=λk J=>⟨Zp (h.ok.rise k (hS.1.subset J)) h.ok.last,h.ok.cap k (hS.1.subset J)⟩;have B:=h.ok.last;obtain⟨ka,kc,rfl,bd,ba,ae⟩:=hO.row J5;have HR:=O ae;have a7:=O aq;have V:=O ac;have a8:=O hN;have a9:=O (Qp3 c hc);have B0:=O hB;obtain⟨U,ax⟩:=Zx (Ji r.l);rw[<-ax]at B B0 V;rw[V.o];have bg:¬(4611686018427387904:Int)<(y:Int):=by omega
 have be:decide (4611686018427387904<y)=false:=by simp;omega
 have a0:=Tu B0.o;clear ac aq hN ae hB hO hS h hl he ba ax ab;apply WH func357;go_wp2_with fail;apply Zy H1;rintro w1 rfl;go_wp2_with fail;apply Zy H1;rintro w1 rfl;go_wp2;go_loopw [7,34] (λa i wr=>∃j:Nat,j<=K.length/\i=ZI j/\a=ZU ((K.take j).foldl (λn k=>max n (atN c y k)) U:Nat)/\(K.take j).foldl (λn k=>max n (atN c y k)) U<=Qq/\Qc Qb w wr) (λ_ i _=>K.length-(intOf i).toNat);case atStart=>exact⟨0,Nat.zero_le _,rfl,rfl,B,Zg _ _⟩
 case round=>
  obtain⟨j,hj,rfl,rfl,ha,z⟩:=hrel;have ar:=Yf;by_cases Xg:j<K.length
  .have RW:Kb V9 2 wr ka K:=HR.o.aB z (λ_ _ h=>h);obtain⟨gb,go,rfl,u⟩:=RW j Xg;have c0:=u 0 _ rfl;have c1:=u 1 _ rfl;obtain⟨k,J⟩:=Zx (K[j]);rw[<-J]at c0 c1;have al:k∈K:=J▸List.getElem_mem Xg;obtain⟨av,bh⟩:=a7.o k al;have E:(K.take (j+1)).foldl (λn k=>max n (atN c y k)) U=max ((K.take j).foldl (λn k=>max n (atN c y k)) U) (atN c y k):=by rw[List.take_succ_eq_append_getElem Xg,List.foldl_append,<-J];rfl
   have aa:Qq<=atN c y k->min Qq (K.foldl (λn k=>max n (atN c y k)) U)=Qq:=λh=>by have:=Qri (f:=atN c y) (a:=U) al;omega
   have I:=O E;have ag:=O aa;have HM:=O (λw=>Qiq y k.2 hy w);have HC:=O (a8.o (y-k.2) (by omega));have am:=a9.o (y-k.2);have au:atN c y k=k.1+U7 c (y-k.2):=rfl;rw[au]at I ag;generalize U7 c (y-k.2)=n at I ag HC am;generalize y-k.2=m at HM HC;generalize(K.take j).foldl (λn k=>max n (atN c y k)) U=A at*;have aw:IntKind.u64.wrap ((9223372036854775808:Int)-(k.1:Int))=((9223372036854775808-k.1:Nat):Int):=by rw[IntWalk.u64_in _ (by omega)];omega
   have aj:((j+1:Nat):Int)=(j:Int)+1:=by omega
   have bf:K.length<=9223372036854775807:=by omega
   have af:=O z;clear E aa z RW u J al au;simp only[Nat.add_zero]at c0;have BK:=O (Qh.new wr #[ZU k.1,ZU k.2] 407);have CK:=O (af.o.alloc (.cells #[ZU k.1,ZU k.2] 407));go_wp2_with fail;with_reducible apply Zz (HM.o _)
   intro w2 c2;have ay:=O (c2.blk BK.o (λh=>h));have an:=O (CK.o.aA c2);clear c2 c0 c1;go_wp2_with fail;apply Zz (HC.o _ an.o);intro w3 c3;have az:=O (c3.blk ay.o (λh=>h));have ao:=O (an.o.aA c3);clear c3;have c0:=Q4 az.o;have ai:=Yf;by_cases R:9223372036854775808-k.1<=n
   .have ak:decide (9223372036854775808-k.1<=n)=true:=by simpa using R
    have hr:=ag.o (by omega);rw[ai]at hr;have ah:=O hr;generalize 9223372036854775808-k.1=dd at aw ak;clear hr R am ha av ai;go_wp2;go_ret;exact⟨by rw[ah.o];rfl,ao.o⟩
   .have ak:decide (9223372036854775808-k.1<=n)=false:=by simpa using R
    have bi:IntKind.u64.wrap ((k.1:Int)+(n:Int))=((k.1+n:Nat):Int):=by rw[IntWalk.u64_in _ (by omega)];omega
    have bj:max (A:Int) ((k.1+n:Nat):Int)=((max A (k.1+n):Nat):Int):=by omega
    have hA:max A (k.1+n)<=Qq:=by omega
    have HA:=O hA;generalize 9223372036854775808-k.1=dd at aw ak;generalize k.1+n=kn at*;generalize max A kn=A2 at*;clear R am ha av ai hA;go_wp2;go_roundw;case rel=>exact⟨j+1,by omega,by rw[aj],by rw[I.o],by rw[I.o];exact HA.o,ao.o⟩
    case measure=>simp[intOf];omega
  .have bc:j=K.length:=by omega
   subst bc;rw[List.take_length]at*;have hr:min Qq (K.foldl (λn k=>max n (atN c y k)) U)=K.foldl (λn k=>max n (atN c y k)) U:=by omega
   have af:=O z;have ah:=O hr;clear hr ha ar z;go_wp2;go_ret;exact⟨by rw[ah.o];rfl,af.o⟩
theorem Qi2{w}{F:Fp}{b:Nat}{r:Xh}(h:Hh w F b r)(k:r.l=[])(y:Nat)(c:Jy)(g q:Nat):
  ZW 357 #[ptr b,ZU y,.func (.func g) #[] #[ZP q]] w (ZU (Kn c r.l y:Nat)) λw'=>Qc Qb w w':=by
 have d:=O (Mq h);rw[k]at d;have e:Kn c r.l y=if y=0 then 0 else 9223372036854775808:=by unfold Kn;rw[if_pos k]
 dsimp only[List.length_nil]at d;rw[e];by_cases u:y=0;·subst u;clear e k h;apply WH func357;go_wp2_with fail;apply Zy d;rintro w1 rfl;go_wp2;go_ret;exact⟨rfl,Zg _ _⟩
 .rw[if_neg u];have z:((y:Int)==0)=false:=by simp;omega
  clear u e k h;apply WH func357;go_wp2_with fail;apply Zy d;rintro w1 rfl;go_wp2_with fail;apply Zy d;rintro w1 rfl;go_wp2;go_ret;exact⟨rfl,Zg _ _⟩
theorem Qi3{w}{F:Fp}{b:Nat}{r:Xh}(h:Hh w F b r)(z:r.l≠[])(y:Nat)(k:Xw<y)(c:Jy)(g q:Nat):
  ZW 357 #[ptr b,ZU y,.func (.func g) #[] #[ZP q]] w (ZU (Kn c r.l y:Nat)) λw'=>Qc Qb w w':=by
 have u:=O (Mq h);have d:(r.l.length==0)=false:=by simpa using z
 rw[d]at u;have e:Kn c r.l y=9223372036854775808:=by unfold Kn;rw[if_neg z,if_pos k]
 have E:(4611686018427387904:Int)<(y:Int):=by rw[Yz]at k;omega
 have B:decide (4611686018427387904<y)=true:=by rw[Yz]at k;simpa using k
 rw[e];clear e z h k d;apply WH func357;go_wp2_with fail;apply Zy u;rintro w1 rfl;go_wp2_with fail;apply Zy u;rintro w1 rfl;go_wp2;go_ret;exact⟨rfl,Zg _ _⟩
end
theorem Qft{w}{q b:Nat}{c:Jy}{n:Int}{x:Nat}{v:Value}(E:c.May)(z:Qh w q #[ZP b] 318)(k:Qh w b (Pq c n x v) 343)(m:Nat)(u:m<=Xw):
  ZW 358 #[ZU m,ZP q] w (ZU (U7 c m:Nat)) λw'=>Qc Qb w w':=by
 have d:=O (Aw c E m u);have R:=Jf z;have I:=Tu k;unfold cV at d;clear z k u;apply WH func358;go_wp2_with fail;apply Zz (d.o _);intro w1 B;go_wp2;go_ret;exact⟨rfl,B⟩
theorem Qfs{w}{q:Nat}{r:Nat}(u:r<=1048576)(k:Qh w q #[ZU r] 22)(m:Nat)(d:m<=Xw):
  ZW 372 #[ZU m,ZP q] w (ZU (U7 ⟨0,0,r⟩ m:Nat)) λw'=>Qc Qb w w':=by
 have c:=O (Aw ⟨0,0,r⟩ ⟨Nat.zero_le _,u,Nat.zero_le _,λ_=>rfl,λh=>(h rfl).elim⟩ m d);have B:=Jf k;unfold cV at c;clear k d u;apply WH func372;go_wp2_with fail;apply Zz (c.o _);intro w1 z;go_wp2;go_ret;exact⟨rfl,z⟩
theorem Qbu{w}{F:Fp}{b:Nat}{r:Xh}(h:Hh w F b r)(I:r.l.length<1099511627776)(y:Nat)(c:Jy)(B:c.May)
  (E:∀K,Ys r.c (Ji r.l) K r.l->∀t,Ji r.l<=t->Xb (Hg c t) K=Xb (Hg c t) r.l)(g q:Nat)(u:∀d w,(callFunc g d).run prog w=.ok (.enter g d) w)
  (z:∀m,m<=Xw->∀w',Qc Qb w w'->ZW g #[ZU m,ZP q] w' (ZU (U7 c m:Nat)) λw2=>Qc Qb w' w2):
  ZW 357 #[ptr b,ZU y,.func (.func g) #[] #[ZP q]] w (ZU (Kn c r.l y:Nat)) λw'=>Qc Qb w w':=by
 by_cases k:r.l=[];·exact Qi2 h k y c g q
 .by_cases J:Xw<y;·exact Qi3 h k y J c g q
  .exact Qi4 h k I y (by omega) c B E g q u z
theorem Qi5{w}{F:Fp}{b:Nat}{r:Xh}(h:Hh w F b r)(J:r.l.length<1099511627776)(y:Nat):
  ZW 354 #[ptr b,ZU y] w (ZU (r.reach y:Nat)) λw'=>Qc Qb w w':=by
 have d:=O ((Zg Qb w).alloc (.cells #[ZP b] 318));have h':=sagP.aB h d.o (Jl.none F);obtain⟨v,K,k,_⟩:=h'.ex;have u:=Qh.new w #[ZP b] 318;have B:=O (Qbu h' J y r.c h.may (λK z t R=>by
  by_cases c:r.l=[];·have:K=[]:=List.sublist_nil.1 (c▸z.1);rw[this,c]
  .exact Qmf z c R) 358 w.heap.size (enters_of func358 (by kernel_rfl) rfl)
  (λm I w' q=>Qft h.may (q.blk u (λh=>h)) (q.blk k (λh=>h)) m I))
 unfold Xh.reach;clear u k h' h;apply WH func354;go_wp2_with fail;apply Zy B;intro w1 E;go_wp2;go_ret;exact⟨rfl,d.o.aA E⟩
theorem Qpv(c:Jy)(t:Nat)(k:Nat×Nat):Hg ⟨0,0,c.r⟩ t k=Ug c t k:=by unfold Hg Ug Jy.at;simp
theorem Qi1{w}{F:Fp}{b:Nat}{r:Xh}(h:Hh w F b r)(V:r.l.length<1099511627776)(y:Nat):
  ZW 370 #[ptr b,ZU y] w (ZU (r.elig y:Nat)) λw'=>Qc Qb w w':=by
 have u:=O ((Zg Qb w).alloc (.cells #[ZU r.c.r] 22));have h':=sagP.aB h u.o (Jl.none F);have z:=Qh.new w #[ZU r.c.r] 22;have c:=h.may.hr;have I:=O (Qbu h' V y ⟨0,0,r.c.r⟩ ⟨Nat.zero_le _,c,Nat.zero_le _,λ_=>rfl,λh=>(h rfl).elim⟩ (λK B t Z=>by
  by_cases q:r.l=[];·have:K=[]:=List.sublist_nil.1 (q▸B.1);rw[this,q]
  .have e:Hg ⟨0,0,r.c.r⟩ t=Ug r.c t:=funext (Qpv r.c t);rw[e];exact Qi0 B q Z) 372 w.heap.size (enters_of func372 (by kernel_rfl) rfl)
  (λm U w' R=>Qfs c (R.blk z (λh=>h)) m U))
 unfold Xh.elig;rw[if_neg h.sag];obtain⟨v,K,d,_⟩:=h.ex;have E:=O d;have k:=d.lt;have a0:=Tu (E.o.alloc (.cells #[ZU 0] 22));have aa:¬b=w.heap.size:=by omega
 clear z d h' h k;apply WH func370;go_wp2_with fail;apply Zy I;intro w1 J;go_wp2;go_ret;exact⟨rfl,u.o.aA J⟩
section
attribute [local go_sem ↓] X8 Yd
theorem Own.cells2{e:TypeId}{w}{a:Option Addr}{n cap:Nat}{l:Uw}(h:Own V9 2 e w (.slice a n cap) l)(i:Nat)(J:i<l.length):
  ∃g,a=some ⟨g,0,none⟩/\w.cell? ⟨g,i*2,none⟩=some (ZU (l[i].1:Int))/\w.cell? ⟨g,i*2+1,none⟩=some (ZU (l[i].2:Int)):=by
 obtain⟨K,z,c,_,_,d⟩:=h.row J5;simp only[Value.slice.injEq]at c;obtain⟨rfl,_,_⟩:=c;obtain⟨_,h⟩:=h;rcases h with⟨k,U⟩|⟨g,B,I,k,_⟩;·omega
 .simp only[Value.slice.injEq]at k;obtain⟨rfl,_,_⟩:=k;obtain⟨R,V,c,E⟩:=d i J;simp only[Option.some.injEq,Addr.mk.injEq]at c;obtain⟨rfl,rfl,_⟩:=c;have q:=E 0 _ rfl;have u:=E 1 _ rfl;simp only[Nat.zero_add,Nat.add_zero]at q u;exact⟨g,rfl,q,u⟩
theorem Own.len{T:Type}{cells:T->List Value}{sz:Nat}{e:TypeId}{w}{a:Option Addr}{n cap:Nat}{l:List T}(d:∀x,(cells x).length=sz)(h:Own cells sz e w (.slice a n cap) l):n=l.length/\n<=cap:=by obtain⟨q,c,k,u,_,_⟩:=h.row d;simp only[Value.slice.injEq]at k;omega
theorem Own.dropLast{T:Type}{cells:T->List Value}{sz:Nat}{e:TypeId}{w}{a:Option Addr}{n cap:Nat}{l:List T}(k:∀x,(cells x).length=sz)(h:Own cells sz e w (.slice a n cap) l)(R:l≠[]):Own cells sz e w (.slice a (n-1) cap) l.dropLast:=by
 have U:=(h.len k).1;obtain⟨V,h⟩:=h;have z:=List.length_pos_iff.2 R;refine⟨by rw[Yh k],?_⟩;rcases h with⟨d,u⟩|⟨g,q,c,d,u,E,Z,I,J,K⟩;·omega
 .simp only[Value.slice.injEq]at d;obtain⟨rfl,_,rfl⟩:=d;refine .inr ⟨g,cap,c,by rw[List.length_dropLast,U],u,E,by rw[List.length_dropLast];omega,I,J,?_⟩;have B:l.dropLast=l.take (l.length-1):=List.dropLast_eq_take;rw[List.length_dropLast,B,<-Wn k,<-K,List.take_take];congr 1;have:(l.length-1)*sz<=l.length*sz:=Nat.mul_le_mul_right _ (by omega);omega
theorem Qtg(m n:Nat):decide ((0:Int)<=Io m n)=decide (n<=m):=by
 unfold Io;by_cases c:m<n;·rw[if_pos c];simp;omega
 .rw[if_neg c];split<;>simp<;>omega
theorem Qth(m n:Nat):decide (Io m n<=(0:Int))=decide (m<=n):=by
 unfold Io;by_cases c:m<n;·rw[if_pos c];simp;omega
 .rw[if_neg c];split<;>simp<;>omega
structure Quo(c:Jy)(X:Nat)(L:Uw)(W2:World)(gk:Nat)(v i:Value)(wr:World):Prop where
 ex:∃(j:Nat)(out:Uw)(a:Option Addr)(cap:Nat),j+gk=L.length/\i=ZI j/\v=.slice a out.length cap/\Own V9 2 407 wr (.slice a out.length cap) out/\out=(L.take j).foldl (Ux c X) []/\
  out.length<=j/\(∀z∈out,z.1<=X/\z.2<=Xw)/\(∀k,(Value.slice a out.length cap).ownBlock=some k->W2.heap.size<=k)/\Qc Qb W2 wr
structure Qup(c:Jy)(X:Nat)(k:Nat×Nat)(P:Uw)(W2 W3:World)(q B:Nat)(gk:Nat)(v n:Value)(wi:World):Prop where
 ex:∃(o:Uw)(a:Option Addr)(cap:Nat),o.length=gk/\n=ZI o.length/\v=.slice a o.length cap/\Own V9 2 407 wi (.slice a o.length cap) o/\U8 c X k o.length o=P/\o.length<=B/\(∀z∈o,z.1<=X/\z.2<=Xw)/\
  (∀g,(Value.slice a o.length cap).ownBlock=some g->W2.heap.size<=g/\g≠q)/\Qc Qb W3 wi
theorem Ws{o:Uw}{m:Nat}(h:o.length=m+1):∃z,o.getLast? =some z/\z∈o/\∃c:m<o.length,o[m]=z:=by
 have c:m<o.length:=by omega
 refine⟨o[m],?_,List.getElem_mem c,c,rfl⟩;rw[List.getLast?_eq_getElem?,h,Nat.add_sub_cancel,List.getElem?_eq_getElem c]
theorem Qi6{w}{F:Fp}{b:Nat}{r:Xh}(h:Hh w F b r)(hn:r.l.length<549755813888)(x y:Nat)(R:x<18446744073709551616)(hy:y<18446744073709551616):
  ZW 355 #[ptr b,ZU x,ZU y] w (.tuple #[]) λw'=>Hh w' (Qn F w w') b (r.start x y)/\Qc F w w':=by
 have Z:=h.may;have d:=h.ok.last;have c8:=Yz;have de:=Yf;obtain⟨X,hX⟩:=Zx (max (min x Qq) (Ji r.l));obtain⟨Y,hY⟩:=Zx (min y Xw);obtain⟨v0,K,hB,hO,hS,hV⟩:=h.ex;have bz:Ji (r.start x y).l=X:=by rw[hX];exact Of _ _ _
 have bg:Ys r.c X (Qbj r.c X (K++[(X,Y)])) (r.start x y).l:=by have:=Qp6 (Nat.le_of_not_lt h.sag) hS h.rise h.ok.rise x y;rw[hX,hY];rw[Of]at this;exact this
 have cz:K.length<549755813888:=Nat.lt_of_le_of_lt hS.len hn;have bo:∀k∈K++[(X,Y)],k.1<=X/\k.2<=Xw:=λk I=>by
  rcases Zl.1 I with I|I;·exact⟨Zp (h.ok.rise k (hS.1.subset I)) (by rw[hX];omega),h.ok.cap k (hS.1.subset I)⟩
  .obtain rfl:k=(X,Y):=by simpa using I
   exact⟨Zv _,by rw[hY];exact Nat.min_le_right _ _⟩
 have dy:X<=9223372036854775808:=by rw[hX];omega
 have dz:Y<=4611686018427387904:=by rw[hY];omega
 have c0:max (min (x:Int) 9223372036854775808) (Ji r.l:Int)=(X:Int):=by omega
 have d0:min (y:Int) 4611686018427387904=(Y:Int):=by omega
 obtain⟨ka,kc,rfl,_,_,ck⟩:=hO.row J5;have bi:∀(w')(v:Value),Qh w' b (Pq r.c (r.l.length+1:Int) X v) 343->Own V9 2 407 w' v (Qbj r.c X (K++[(X,Y)]))->(∀k,v.ownBlock=some k->w.heap.size<=k)->Qc (λk=>k=b) w w'->Hh w' (Qn F w w') b (r.start x y)/\Qc F w w':=λw' v hb ho hv hc=>by
  have ce:Qc F w w':=hc.sub (λk I=>by rw[I];exact h.own);refine⟨⟨h.bd.ext ce,.inl h.own,Z,h.sag,h.ok.start x y,h.rise.start h.ok x y,v,_,?_,ho,by rw[bz];exact bg,λk I=>⟨.inr ⟨hv k I,ho.lt k I⟩,by have:=hv k I;have:=hB.lt;omega⟩⟩,ce⟩;rw[bz];have e4:((r.start x y).l.length:Int)=(r.l.length+1:Int):=by simp[Xh.start,Dg]
  rw[e4];exact hb
 obtain⟨L,hL⟩:=Zx (K++[(X,Y)]);rw[<-hL]at bi bo;have an:L.length=K.length+1:=by rw[hL];simp
 have dv:L.length<549755813889:=by omega
 have dt:=O an;have HL:=O hL;have HF:=O bi;have HC:=O (λw'(hc:Qc (λk=>k=b) w w')=>Ig _ K w' (hO.aB hc (λk I e=>(hV k I).2 e)) (by omega));have cu:=O bo;have B0:=O hB;have d8:=hB.lt;have ar:=O Z;obtain⟨x0,co⟩:=Zx (Ji r.l);rw[<-co]at c0 B0;obtain⟨n0,ch⟩:=Zx (r.l.length);rw[<-ch]at HF B0 hn;obtain⟨c,cf⟩:=Zx (r.c);rw[<-cf]at HF B0 ar;obtain⟨a0,a1,a2,a3,a4,a5,a6⟩:=Tu B0.o;have z0:=B0.o.frozen;clear bi bo hL an bg bz hX hY co ch cf hB hO hS hV ck Z d c8 de h;apply WH func355;go_wp2;go_step3;go_wp2;go_step3;go_wp2;obtain⟨W,hW⟩:=Zx ((w.setCell ⟨b,5,none⟩ (ZU X)).setCell ⟨b,4,none⟩ (ZI ((n0:Int)+1)));have B1:=O ((B0.o.set' 5 (ZU X) (cs':=Pq c n0 X (.slice ka K.length kc)) rfl).set' 4 (ZI ((n0:Int)+1)) (cs':=Pq c ((n0:Int)+1) X (.slice ka K.length kc)) rfl);have C1:=O (((Zg (λk=>k=b) w).setCell (a:=⟨b,5,none⟩) (ZU X) (.inl rfl)).setCell (a:=⟨b,4,none⟩) (ZI ((n0:Int)+1)) (.inl rfl));rw[<-hW]at B1 C1|-;clear hW a0 a1 a2 a3 a4 a5 a6 z0;have di:=C1.o.size;have b8:=O (λw'(hc:Qc Qb W w')=>HC.o w' (C1.o.aA hc.none));go_cut [50,51,52] (λdj dk dl wz=>∃a cap,dj=.slice a L.length cap/\dk=ZI L.length/\dl=ZI 0/\Own V9 2 407 wz (.slice a L.length cap) L/\(∀k,(Value.slice a L.length cap).ownBlock=some k->W.heap.size<=k)/\Qc Qb W wz)
 case first=>
  refine Ui (.lookp 0 (.lookp 1 (.lookp 2 (.lookp 3 (.lookp 5 (.lookp 6 (.lookp 7 (.lookp 8 (.lookp 9 (.lookp 10 (.lookp 11 (.lookp 15 (.fork 4 (.walk 12 (.walk 13 (.look 14 .nil))) 12 (.walk 4 (.walk 13 (.look 14 .nil)))))))))))))))) (λwv=>Qc (Qb) (W) wv) Zq (by kernel_rfl) (λ_ _ _ _ _ h=>h) Z0 ?_;simp only[O0,Zf,Ze,Zd];iterate 3 (first|refine Vd (h:=?_)|refine Xi (h:=?_);try simp only[Act.put,Za,Zc,Zb])
  iterate 1 (apply YL λ_ hv=>Tu (hv.blk B1.o (λh=>h)))
  iterate 3 (first|refine Vd (h:=?_)|refine Xi (h:=?_);try simp only[Act.put,Za,Zc,Zb])
  iterate 1 (apply YL λ_ hv=>Tu (hv.blk B1.o (λh=>h)))
  iterate 4 (first|refine Vd (h:=?_)|refine Xi (h:=?_);try simp only[Act.put,Za,Zc,Zb])
  obtain⟨w3,b0⟩:=Zx (W.drew);have c3:Hi (Qc Qb W w3):=O (by rw[b0];exact(Zg _ _).drew);rw[<-b0];clear b0;refine Gn ?_ ?_
  .go_wp2_with fail;refine(b8.o _ c3.o).mono ?_;rintro e w4⟨v4,rfl,o4,d4,n4,_⟩;have c4:=O (c3.o.aA d4);have O4:=O o4;have N4:=O n4;clear d4 o4 n4;go_wp2_with fail;refine⟨c4.o,?_⟩;refine Xt ?_;go_wp2_with fail;refine⟨c4.o.alloc _,?_⟩;refine Xt ?_;go_wp2_with (at_builtin;refine Jj startT rfl (.tmp 41) (.tmp 49) rfl _ K rfl (O4.o.aB ((Zg Qb _).alloc _) (λ_ _ h=>h)) _ _ [(X,Y)] rfl ?a2 ?a3 ?a4 ?a5 ?a6);case a2=>intro h;cases h
   case a3=>exact RowBlk.row J5 (show RowBlk V9 (w4.alloc (.cells #[ZU X,ZU Y] 407)) w4.heap.size [(X,Y)] 407 from Qh.new _ _ _)
   case a4=>simp[maxLen];omega
   case a5=>simp;omega
   intro v5 w5 o5 d5 n5;rw[<-HL.o]at o5;have c5:Qc Qb W w5:=(c4.o.alloc (.cells #[ZU X,ZU Y] 407)).trans d5 λk I=>.inr (by have q0:=N4.o k I;have q1:=c3.o.size;(try simp at q0);omega);have ax:∀k,v5.ownBlock=some k->W.heap.size<=k:=λk I=>by
    have dh:=c3.o.size;rcases n5 with h|h;·rw[h]at I;have:=N4.o k I;omega
    .rw[h]at I;have q1:=Zs I;have q2:=(c4.o.alloc (.cells #[ZU X,ZU Y] 407)).size;try simp at q1
     try simp at q2
     omega
   obtain⟨a5,al,rfl,c1,bm,_⟩:=o5.row J5;have O5:=O (Zt o5 (Zt ax c5));clear o5 ax d5 n5 c5 bm;go_wp2_with fail;refine⟨O5.o.2.2,?_⟩;iterate 1 (first|refine Vd (h:=?_)|refine Xi (h:=?_);try simp only[Act.put,Za,Zc,Zb])
   refine U9 ?_;go_wp2_with fail;go_meet;exact⟨a5,al,rfl,rfl,rfl,O5.o.1,O5.o.2.1,O5.o.2.2⟩
  .go_wp2_with fail;refine⟨c3.o.alloc _,?_⟩;refine Xt ?_;have R3:=O (Qh.new w3 #[ZU X,ZU Y] 407);go_wp2_with fail;refine(b8.o _ (c3.o.alloc _)).mono ?_;rintro e w4⟨v4,rfl,o4,d4,n4,_⟩;have c4:=O ((c3.o.alloc (.cells #[ZU X,ZU Y] 407)).aA d4);have R4:=O (d4.blk R3.o (λh=>h));have O4:=O o4;have N4:=O n4;clear d4 o4 n4;go_wp2_with fail;refine⟨c4.o,?_⟩;refine Xt ?_;go_wp2_with (at_builtin;refine Jj startT rfl (.tmp 41) (.tmp 49) rfl _ K rfl O4.o _ _ [(X,Y)] rfl ?b2 ?b3 ?b4 ?b5 ?b6);case b2=>intro h;cases h
   case b3=>exact RowBlk.row J5 (show RowBlk V9 w4 w3.heap.size [(X,Y)] 407 from R4.o)
   case b4=>simp[maxLen];omega
   case b5=>simp;omega
   intro v5 w5 o5 d5 n5;rw[<-HL.o]at o5;have c5:Qc Qb W w5:=c4.o.trans d5 λk I=>.inr (by have q0:=N4.o k I;have q1:=c3.o.size;(try simp at q0);omega);have ax:∀k,v5.ownBlock=some k->W.heap.size<=k:=λk I=>by
    have dh:=c3.o.size;rcases n5 with h|h;·rw[h]at I;have:=N4.o k I;simp at this;omega
    .rw[h]at I;have q1:=Zs I;have q2:=c4.o.size;try simp at q1
     try simp at q2
     omega
   obtain⟨a5,al,rfl,c1,bm,_⟩:=o5.row J5;have O5:=O (Zt o5 (Zt ax c5));clear o5 ax d5 n5 c5 bm;go_wp2_with fail;refine⟨O5.o.2.2,?_⟩;iterate 1 (first|refine Vd (h:=?_)|refine Xi (h:=?_);try simp only[Act.put,Za,Zc,Zb])
   refine U9 ?_;go_wp2_with fail;go_meet;exact⟨a5,al,rfl,rfl,rfl,O5.o.1,O5.o.2.1,O5.o.2.2⟩
 case rest=>
  obtain⟨la,ds,rfl,rfl,rfl,oL,nL,cW⟩:=hcut;obtain⟨W2,cd⟩:=Zx wc;rw[<-cd]at oL cW|-;have B2:=O (cW.blk B1.o (λh=>h));have C2:=O (C1.o.aA (Qc.none cW));have OL:=O oL;have NL:=O nL;have dr:=cW.size;have d1:=B2.o.lt;clear cd oL nL cW di;go_wp2;go_loopg [6,52] L.length (λgk v i wr=>Quo c X L W2 gk v i wr);case atStart=>exact⟨0,[],none,0,by omega,rfl,rfl,Own.nil _ _ _ _,by simp,Nat.zero_le _,nofun,λk I=>by simp[Value.ownBlock]at I,Zg _ _⟩
  case round=>
   obtain⟨j,U,oa,bh,hj,rfl,rfl,hO,ab,ci,J,u,B⟩:=hrel;have bp:=hO.len J5;by_cases Xg:j<L.length
   .obtain⟨g,hg,l0,l1⟩:=(OL.o.aB B (λ_ _ h=>h)).cells2 j Xg;obtain⟨k,I⟩:=Zx (L[j]);rw[<-I]at l0 l1;have ai:=cu.o k (I▸List.getElem_mem Xg);have au:(L.take (j+1)).foldl (Ux c X) []=Ux c X U k:=by rw[List.take_succ_eq_append_getElem Xg,List.foldl_append,<-ab,<-I];rfl
    have bl:=O au;have ae:((j+1:Nat):Int)=(j:Int)+1:=by omega
    have dw:(L.length:Int)<=9223372036854775807:=by omega
    obtain⟨W3,bq⟩:=Zx (wr.alloc (.cells #[ZU k.1,ZU k.2] 407));have BK:=O (Qh.new wr #[ZU k.1,ZU k.2] 407);have CK:=O ((Zg Qb wr).alloc (.cells #[ZU k.1,ZU k.2] 407));obtain⟨q,hq⟩:=Zx (wr.heap.size);have cg:∀x,(Value.slice oa U.length bh).ownBlock=some x->x≠q:=λx R=>by have:=hO.lt x R;omega
    rw[<-bq]at BK CK;rw[<-hq]at BK;have O3:=O (hO.aB CK.o (λ_ _ h=>h));have C3:=O (B.aA CK.o);have B3:=O (C3.o.blk B2.o (λh=>h));have ba:=O u;have cv:=O J;have ct:=O cg;have HQ:=O hq;obtain rfl:=hg;clear ab hO J u B I au cg;go_wp2;rw[<-bq,<-hq];clear bq hq;have bu:L.length-(j+1)<gk:=by omega
    have ap:j+1+(L.length-(j+1))=L.length:=by omega
    go_loopg [6,9] U.length (λg v n wi=>Qup c X k (U8 c X k U.length U) W2 W3 q j g v n wi);case atStart=>exact⟨U,oa,bh,rfl,rfl,rfl,O3.o,rfl,ci,cv.o,λx R=>⟨ba.o x R,ct.o x R⟩,Zg _ _⟩
    case round=>
     obtain⟨o,a,cap,ho,rfl,rfl,hO,hP,dg,J,u,B⟩:=hrel;obtain⟨wi,cl⟩:=Zx wr;rw[<-cl]at hO B|-;clear cl;have ac:=(hO.len J5).2;by_cases hz:o.length=0
     .obtain rfl:=List.eq_nil_of_length_eq_zero hz;have bk:Hi (U8 c X k U.length U=[]):=O (by rw[<-hP];rfl);have Ki:=O (B.blk BK.o (λh=>h));have Ci:=O (C3.o.aA B);have HO:=O hO;have be:=O u;clear hP hz ho hO J u B ac dg;rw[List.length_nil]at HO be|-;go_wp2;go_quiet (fail);obtain⟨a8,av⟩:=Zx (wi.drewN nq);have s3:=O (show Qc Qb wi a8 by rw[av];exact(Zg _ _).drewN _);rw[<-av];clear av;go_wp2;go_quiet (fail);obtain⟨a9,aw⟩:=Zx (a8.drewN nq);have t3:=O (show Qc Qb a8 a9 by rw[aw];exact(Zg _ _).drewN _);rw[<-aw];clear aw;obtain⟨u0,u1⟩:=Q4 (t3.o.blk (s3.o.blk Ki.o (λh=>h)) (λh=>h));have C6:=O ((Ci.o.aA s3.o).aA t3.o);have R6:=O ((HO.o.aB s3.o (λ_ _ h=>h)).aB t3.o (λ_ _ h=>h));go_wp2_with (at_builtin;refine Jj startT rfl (.tmp 114) (.tmp 116) rfl _ ([]:Uw) rfl (R6.o.aB ((Zg Qb _).alloc _) (λ_ _ h=>h)) _ _ [k] rfl ?d2 ?d3 ?d4 ?d5 ?d6);case d2=>intro h;cases h
      case d3=>exact RowBlk.row J5 (show RowBlk V9 (a9.alloc (.cells #[ZU k.1,ZU k.2] 407)) a9.heap.size [k] 407 from Qh.new _ _ _)
      case d4=>simp[maxLen]
      case d5=>simp
      intro v7 w7 o7 d7 n7;have u:=be.o;have c7:Qc Qb W2 w7:=(C6.o.alloc (.cells #[ZU k.1,ZU k.2] 407)).trans d7 λx R=>.inr (u x R).1;have ay:∀x,v7.ownBlock=some x->W2.heap.size<=x:=λx R=>by
       rcases n7 with h|h;·rw[h]at R;exact(u x R).1
       .rw[h]at R;have q1:=Zs R;have q2:=C6.o.size;(try simp at q1);omega
      obtain⟨a7,am,rfl,_,_,_⟩:=o7.row J5;have O7:=O (Zt o7 (Zt ay c7));clear o7 ay c7 d7 n7 u;go_wp2;go_roundg (L.length-(j+1))
      case rel=>
       refine⟨j+1,[k],a7,am,ap,by rw[ae],rfl,O7.o.1,?_,by simp,λz hz=>?_,O7.o.2.1,O7.o.2.2⟩;·rw[bl.o];unfold Ux;simp only[bk.o];rfl
       .obtain rfl:z=k:=by simpa using hz
        exact ai
      case measure=>exact bu
     .obtain⟨m,Z⟩:∃m,o.length=m+1:=⟨o.length-1,by omega⟩;obtain⟨z,d,bc,aj,ak⟩:=Ws Z;obtain⟨g2,rfl,l2,l3⟩:=hO.cells2 m aj;rw[ak]at l2 l3;obtain⟨b1,b7⟩:=J z bc;have R0:∀x,Own V9 2 407 (Qz Qb wi x) (.slice (some ⟨g2,0,none⟩) o.length cap) o:=λx=>hO.aB (Qv Qb wi x) (λ_ _ h=>h);have E1:∀x,(Qz Qb wi x).cell? ⟨g2,m*2,none⟩=some (ZU z.1)/\(Qz Qb wi x).cell? ⟨g2,m*2+1,none⟩=some (ZU z.2):=λx=>by obtain⟨g3,bt,p0,p1⟩:=(R0 x).cells2 m aj;cases bt;rw[ak]at p0 p1;exact⟨p0,p1⟩
      have Bi:=O (B.blk B3.o (λh=>h));have Ki:=O (B.blk BK.o (λh=>h));have E2:=λx=>Tu (Qk (S:=Qb) Bi.o (λh=>h) x);have E3:=λx=>Q4 (Qk (S:=Qb) Ki.o (λh=>h) x);try dsimp only[Pq]at E2
      have E4:=True.intro;have A1:=O (λw'(hc:Qc Qb wi w')=>Qee ar.o (hc.blk Bi.o (λh=>h)) z X b1 (by omega) b7);have A2:=O (λw'(hc:Qc Qb wi w')=>Qee ar.o (hc.blk Bi.o (λh=>h)) k X ai.1 (by omega) ai.2);have AC:=O (λw'=>Qb5 (Hg c X z) (Hg c X k) w');have A3:=O (λw'(hc:Qc Qb wi w')=>Qbv ar.o (hc.blk Bi.o (λh=>h)) z X b1 (by omega) b7);have A4:=O (λw'(hc:Qc Qb wi w')=>Qbv ar.o (hc.blk Bi.o (λh=>h)) k X ai.1 (by omega) ai.2);have AD:=O (λw'=>Qb5 (Ug c X z) (Ug c X k) w');have HD:=O (Zt (Qtg (Hg c X z) (Hg c X k)) (Qth (Ug c X z) (Ug c X k)));unfold kV ptr at A1 A2 A3 A4;unfold Qek at A1 A2 A3 A4;have dd:((o.length:Nat):Int)=(m:Int)+1:=by omega
      have cj:(0:Int)<(o.length:Int):=by omega
      rw[Z];rw[Z]at hP hO ac;have ee:IntKind.i64.wrap (m:Int)=(m:Int):=IntWalk.i64_in _ (by omega);have ea:(m:Int)<(m:Int)+1:=by omega
      have d9:(0:Int)<=(m:Int):=by omega
      have cq:((m+1:Nat):Int)=(m:Int)+1:=by omega
      have bf:U8 c X k (m+1) o=if Hg c X k<=Hg c X z then U8 c X k m o.dropLast else o:=by rw[U8,d]
      have ag:=O (Zt bf hP);have E:=O (Zt d (Zt Z (Zt J (Zt u B))));have HO:=O hO;have ec:m+1<=cap:=ac;have eb:m+1<=j:=by omega
      generalize Hg c X z=p1 at*;generalize Hg c X k=p2 at*;obtain⟨q1,bv⟩:=Zx (Ug c X z);obtain⟨q2,bw⟩:=Zx (Ug c X k);rw[<-bv]at A3 AD HD;rw[<-bw]at A4 AD HD;have cw:=O bv;have cx:=O bw;clear bv bw;generalize Io p1 p2=cm at*;generalize Io q1 q2=cn at*;generalize((p1/18446744073709551616:Nat):Int)=ef at*;generalize((p1%18446744073709551616:Nat):Int)=eg at*;generalize((p2/18446744073709551616:Nat):Int)=eh at*;generalize((p2%18446744073709551616:Nat):Int)=ei at*;generalize((q1/18446744073709551616:Nat):Int)=ej at*;generalize((q1%18446744073709551616:Nat):Int)=ek at*;generalize((q2/18446744073709551616:Nat):Int)=el at*;generalize((q2%18446744073709551616:Nat):Int)=em at*;clear Z d bc ak bf hP J u B hO hz dd cj l2 l3 b1 b7 aj;have br:(0:Int)<=cm↔p2<=p1:=by have:=HD.o.1;simpa using this
      have bs:cn<=(0:Int)↔q1<=q2:=by have:=HD.o.2;simpa using this
      by_cases hh:p2<=p1
      .have da:(0:Int)<=cm:=br.2 hh;have HH:=O hh;clear br bs hh;have cy:=O R0;clear R0;go_wp2;refine ZE [] [0,1,2,3,4,5,6,7,8,9,10,11,12,14,15,16,17,18,19] [13,20,21,22,23] [] (Qb) wi ?_;simp only[pick,Zf,Ze,Zd];refine Qg ?_;iterate 19 (refine Ql (λK hK=>?_);go_simp;refine hK _ ?_;clear hK K)
       refine Qg ?_;intro _ af;obtain⟨xo,V⟩:=af;subst V;simp only[Jd];have s3:=O (Qv Qb wi xo);generalize Qz Qb wi xo=a8 at s3|-;clear E1 E2 E3 E4;go_wp2_with fail;with_reducible apply Zz ((A1).o _ s3.o)
       intro dm d4;have s4:=O (s3.o.aA d4);clear d4;go_wp2;refine⟨Qd s4.o,?_⟩;go_wp2_with fail;with_reducible apply Zz ((A2).o _ s4.o)
       intro dn d5;have s5:=O (s4.o.aA d5);clear d5;go_wp2;refine⟨Qd s5.o,?_⟩;go_wp2_with fail;with_reducible apply Zz ((AC).o _)
       intro cp d6;have s6:=O (s5.o.aA d6);clear d6;go_wp2;refine⟨Qd s6.o,?_⟩;go_wp2;refine⟨Qd s6.o,?_⟩;go_wp2;refine⟨Qd s6.o,?_⟩;go_wp2;obtain⟨d,Z,J,u,B⟩:=E.o;have ao:o.dropLast.length=m:=by rw[List.length_dropLast,Z];rfl
       have df:o≠[]:=λh=>by rw[h]at Z;cases Z
       have c9:m<gk:=by omega
       go_roundg m
       case rel=>
        refine⟨o.dropLast,some ⟨g2,0,none⟩,cap,ao,by rw[ao],by rw[ao],?_,?_,by omega,λz hz=>J z (List.dropLast_subset _ hz),λx R=>u x R,B.aA s6.o⟩;·rw[ao];exact(HO.o.aB s6.o (λ_ _ h=>h)).dropLast J5 df
        .rw[ao,<-ag.o.2,ag.o.1,if_pos HH.o]
       case measure=>exact c9
      .have da:cm<(0:Int):=by omega
       have bk:Hi (U8 c X k U.length U=o):=O (by rw[<-ag.o.2,ag.o.1,if_neg hh]);have b9:=O bs;clear br bs hh;have cy:=O R0;clear R0;go_wp2;refine ZE [] [0,1,2,3,4,5,6,7,8,9,10,11,12,14,15,16,17,18,19] [13,20,21,22,23] [] (Qb) wi ?_;simp only[pick,Zf,Ze,Zd];refine Qg ?_;iterate 19 (refine Ql (λK hK=>?_);go_simp;refine hK _ ?_;clear hK K)
       refine Qg ?_;intro _ af;obtain⟨xo,V⟩:=af;subst V;simp only[Jd];have s3:=O (Qv Qb wi xo);generalize Qz Qb wi xo=a8 at s3|-;clear E1 E2 E3 E4;go_wp2_with fail;with_reducible apply Zz ((A1).o _ s3.o)
       intro dm d4;have s4:=O (s3.o.aA d4);clear d4;go_wp2;refine⟨Qd s4.o,?_⟩;go_wp2_with fail;with_reducible apply Zz ((A2).o _ s4.o)
       intro dn d5;have s5:=O (s4.o.aA d5);clear d5;go_wp2;refine⟨Qd s5.o,?_⟩;go_wp2_with fail;with_reducible apply Zz ((AC).o _)
       intro cp d6;have s6:=O (s5.o.aA d6);clear d6;go_wp2;refine⟨Qd s6.o,?_⟩;go_wp2;refine⟨Qd s6.o,?_⟩;go_wp2;refine⟨Qd s6.o,?_⟩;obtain⟨w9,az⟩:=Zx cp;have R9:Own V9 2 407 w9 (.slice (some ⟨g2,0,none⟩) (m+1) cap) o:=by rw[az];exact HO.o.aB s6.o (λ_ _ h=>h)
       have B9:=O (s6.o.blk Bi.o (λh=>h));have K9:=O (s6.o.blk Ki.o (λh=>h));have C9:=O (E.o.2.2.2.2.aA s6.o);rw[<-az]at B9 K9 C9;have P9:∀w',Qc Qb w9 w'->Qc Qb wi w':=λw' h=>s6.o.aA (by rw[<-az];exact h);obtain⟨d,Z,J,u,B⟩:=E.o;obtain⟨z',aa,bc,aj,ak⟩:=Ws Z;obtain rfl:z'=z:=by rw[d]at aa;exact(Zs aa).symm
       have E1:∀x,(Qz Qb w9 x).cell? ⟨g2,m*2,none⟩=some (ZU z'.1)/\(Qz Qb w9 x).cell? ⟨g2,m*2+1,none⟩=some (ZU z'.2):=λx=>by obtain⟨g3,bt,p0,p1⟩:=(R9.aB (Qv Qb w9 x) (λ_ _ h=>h)).cells2 m aj;cases bt;rw[ak]at p0 p1;exact⟨p0,p1⟩
       have E2:=λx=>Tu (Qk (S:=Qb) B9.o (λh=>h) x);have E3:=λx=>Q4 (Qk (S:=Qb) K9.o (λh=>h) x);try dsimp only[Pq]at E2
       have E4:=True.intro;have A5:=O (λw' hc=>A3.o w' (P9 w' hc));have A6:=O (λw' hc=>A4.o w' (P9 w' hc));have cc:=O R9;have ah:Ux c X U k=if q1<=q2 then o else o++[k]:=by unfold Ux;simp only[bk.o,d];rw[<-cw.o,<-cx.o]
       have cb:=O ah;rw[<-az];clear az P9 R9 d Z J u B bc aj ak aa ah;by_cases aq:q1<=q2
       .have db:cn<=(0:Int):=b9.o.2 aq;have bj:=O aq;clear aq;go_wp2;refine ZE [] [0,1,2,3,4,5,6,7,8,9,10,11,12,14,15,16,17,18,19] [13,20,21,22,23] [] (Qb) w9 ?_;simp only[pick,Zf,Ze,Zd];refine Qg ?_;iterate 19 (refine Ql (λK hK=>?_);go_simp;refine hK _ ?_;clear hK K)
        refine Qg ?_;intro _ af;obtain⟨xo,V⟩:=af;subst V;simp only[Jd];have t3:=O (Qv Qb w9 xo);generalize Qz Qb w9 xo=a9 at t3|-;clear E1 E2 E3 E4;go_wp2_with fail;with_reducible apply Zz ((A5).o _ t3.o)
        intro dp d4;have t4:=O (t3.o.aA d4);clear d4;go_wp2;refine⟨Qd t4.o,?_⟩;go_wp2_with fail;with_reducible apply Zz ((A6).o _ t4.o)
        intro dq d5;have t5:=O (t4.o.aA d5);clear d5;go_wp2;refine⟨Qd t5.o,?_⟩;go_wp2_with fail;with_reducible apply Zz ((AD).o _)
        intro bd d6;have t6:=O (t5.o.aA d6);clear d6;go_wp2;refine⟨Qd t6.o,?_⟩;go_wp2;refine⟨Qd t6.o,?_⟩;go_wp2;refine⟨Qd t6.o,?_⟩;go_wp2;obtain⟨d,Z,J,u,B⟩:=E.o;go_roundg (L.length-(j+1))
        case rel=>
         refine⟨j+1,o,some ⟨g2,0,none⟩,cap,ap,by rw[ae],by rw[Z],?_,?_,by omega,J,λx R=>(u x R).1,(C3.o.aA C9.o).aA t6.o⟩;·rw[Z];exact cc.o.aB t6.o (λ_ _ h=>h)
         .rw[bl.o,cb.o,if_pos bj.o]
        case measure=>exact bu
       .have db:(0:Int)<cn:=by have:=b9.o;omega
        have bj:=O aq;clear aq;go_wp2;refine ZE [] [0,1,2,3,4,5,6,7,8,9,10,11,12,14,15,16,17,18,19] [13,20,21,22,23] [] (Qb) w9 ?_;simp only[pick,Zf,Ze,Zd];refine Qg ?_;iterate 19 (refine Ql (λK hK=>?_);go_simp;refine hK _ ?_;clear hK K)
        refine Qg ?_;intro _ af;obtain⟨xo,V⟩:=af;subst V;simp only[Jd];have t3:=O (Qv Qb w9 xo);generalize Qz Qb w9 xo=a9 at t3|-;clear E1 E2 E3 E4;go_wp2_with fail;with_reducible apply Zz ((A5).o _ t3.o)
        intro dp d4;have t4:=O (t3.o.aA d4);clear d4;go_wp2;refine⟨Qd t4.o,?_⟩;go_wp2_with fail;with_reducible apply Zz ((A6).o _ t4.o)
        intro dq d5;have t5:=O (t4.o.aA d5);clear d5;go_wp2;refine⟨Qd t5.o,?_⟩;go_wp2_with fail;with_reducible apply Zz ((AD).o _)
        intro bd d6;have t6:=O (t5.o.aA d6);clear d6;go_wp2;refine⟨Qd t6.o,?_⟩;go_wp2;refine⟨Qd t6.o,?_⟩;go_wp2;refine⟨Qd t6.o,?_⟩;obtain⟨u0,u1⟩:=Q4 (t6.o.blk K9.o (λh=>h));have c6:=(C3.o.aA C9.o).aA t6.o;have C6:=O c6;have RK:=O (Qh.new bd #[ZU k.1,ZU k.2] 407);have ed:o.length<549755813889:=by have:=E.o.2.1;omega
        have bb:=E.o.2.1;have R6:=O (cc.o.aB t6.o (λ_ _ h=>h));rw[<-bb]at R6;have du:=O bb;have e0:(Value.slice (some ⟨g2,0,none⟩) (m+1) cap)=.slice (some ⟨g2,0,none⟩) o.length cap:=by rw[bb]
        have cr:=O e0;clear e0 bb c6;go_wp2_with (at_builtin;refine Jj startT rfl (.tmp 114) (.tmp 116) rfl _ o cr.o (R6.o.aB ((Zg Qb _).alloc _) (λ_ _ h=>h)) _ _ [k] rfl ?c2 ?c3 ?c4 ?c5 ?c6);case c2=>intro h;cases h
        case c3=>exact RowBlk.row J5 (show RowBlk V9 (bd.alloc (.cells #[ZU k.1,ZU k.2] 407)) bd.heap.size [k] 407 from Qh.new _ _ _)
        case c4=>simp[maxLen];omega
        case c5=>simp;omega
        intro v7 w7 o7 d7 n7;have u:=E.o.2.2.2.1;have c7:Qc Qb W2 w7:=(C6.o.alloc (.cells #[ZU k.1,ZU k.2] 407)).trans d7 λx R=>.inr (u x R).1;have ay:∀x,v7.ownBlock=some x->W2.heap.size<=x:=λx R=>by
         rcases n7 with h|h;·rw[h]at R;exact(u x R).1
         .rw[h]at R;have q1:=Zs R;have q2:=C6.o.size;(try simp at q1);omega
        obtain⟨a7,am,rfl,_,_,_⟩:=o7.row J5;have O7:=O (Zt o7 (Zt ay c7));clear o7 ay c7 d7 n7 u;go_wp2;obtain⟨d,Z,J,u,B⟩:=E.o;go_roundg (L.length-(j+1))
        case rel=>
         refine⟨j+1,o++[k],a7,am,ap,by rw[ae],rfl,O7.o.1,?_,?_,λz hz=>?_,O7.o.2.1,O7.o.2.2⟩;·rw[bl.o,cb.o,if_neg bj.o]
         .rw[List.length_append,Z];simp;omega
         .rcases Zl.1 hz with hz|hz;·exact J z hz
          .obtain rfl:z=k:=by simpa using hz
           exact ai
        case measure=>exact bu
   .have dc:j=L.length:=by omega
    subst dc;rw[List.take_length]at ab;have ca:=O ab;have HO:=O hO;have ba:=O u;have B9:=O (B.blk B2.o (λh=>h));have C9:=O (C2.o.aA (Qc.none B));obtain⟨a0,a1,a2,a3,a4,a5,a6⟩:=Tu B9.o;have z0:=B9.o.frozen;have dx:=C2.o.size;clear ab hO J u B hj ci bp;go_wp2;rw[Exit.noGoto_normal];refine WB rfl rfl ⟨rfl,HF.o _ _ (B9.o.set' 6 _ rfl) ?_ (λx R=>by have:=ba.o x R;omega) (C9.o.setCell _ (.inl rfl))⟩;rw[<-(show U=Qbj c X L from ca.o)];exact HO.o.aB ((Zg (λk=>k=b) wr).setCell (a:=⟨b,6,none⟩) _ (.inl rfl)) (λx R e=>by have:=ba.o x R;omega)
end
section
structure Yv(w:World)(F:Fp)(b:Nat)(r:Xh):Prop where
  bd:Bd F w
  own:F b
  may:r.c.May
  ok:Uj r.l
  rise:Ew r.l
  ex:∃(k:Nat)(G:Fp),(∀x,G x->F x/\x≠b)/\
    ((r.c.r < r.c.f /\ Ve w G k r /\ Qh w b #[ZU r.c.f, ZU r.c.l, ZU r.c.r, .iface 317 (.agg #[ZP k])] 259) \/
     (¬ r.c.r < r.c.f /\ Hh w G k r /\ Qh w b #[ZU r.c.f, ZU r.c.l, ZU r.c.r, .iface 322 (.agg #[ZP k])] 259))
theorem runP:Hf Yv where
 bd h:=h.bd
 own h:=h.own
 aB h hc hd:=⟨h.bd.later hc,h.own,h.may,h.ok,h.rise,by
  obtain⟨k,G,d,c⟩:=h.ex;refine⟨k,G,d,?_⟩;have u:=Jl.subL hd λx z=>(d x z).1;rcases c with⟨q,c,B⟩|⟨q,c,B⟩;·exact .inl ⟨q,bentP.aB c hc u,hc.blk B (hd _ h.own)⟩
  .exact .inr ⟨q,sagP.aB c hc u,hc.blk B (hd _ h.own)⟩⟩
 more h hs q:=⟨q,hs _ h.own,h.may,h.ok,h.rise,by
  obtain⟨k,G,d,c⟩:=h.ex;exact⟨k,G,λx z=>⟨hs x (d x z).1,(d x z).2⟩,c⟩⟩
theorem Nv{w}{b:Nat}{v0 v1 v2:Value}{t:TypeId}{v:Value}(c:Qh w b #[v0,v1,v2,.iface t v] 259):
  ZW 229 #[ptr b] w (.iface t v) λw'=>w=w':=by
 have d:=X9 c;unfold ptr;clear c;apply WH func229;exact WE
theorem Qty(k:Nat)(w):(method 519 317 (.agg #[ZP k]) "Start").run prog w=.ok (332,ZP k) w:=by kernel_rfl
theorem Qtz(k:Nat)(w):(method 519 322 (.agg #[ZP k]) "Start").run prog w=.ok (355,ZP k) w:=by kernel_rfl
theorem Qnd(k:Nat)(w):(method 519 317 (.agg #[ZP k]) "Reach").run prog w=.ok (331,ZP k) w:=by kernel_rfl
theorem Qne(k:Nat)(w):(method 519 322 (.agg #[ZP k]) "Reach").run prog w=.ok (354,ZP k) w:=by kernel_rfl
attribute [local go_sem] Qty Qtz Qnd Qne
theorem Yv.bent'{w}{F G:Fp}{b k:Nat}{r:Xh}(d:Bd F w)(u:F b)(h:Ve w G k r)(q:∀x,G x->F x/\x≠b)(c:Qh w b #[ZU r.c.f,ZU r.c.l,ZU r.c.r,.iface 317 (.agg #[ZP k])] 259):Yv w F b r:=
 ⟨d,u,h.may,h.ok,h.rise,k,G,q,.inl ⟨h.bent,h,c⟩⟩
theorem Yv.sag'{w}{F G:Fp}{b k:Nat}{r:Xh}(d:Bd F w)(u:F b)(h:Hh w G k r)(q:∀x,G x->F x/\x≠b)(c:Qh w b #[ZU r.c.f,ZU r.c.l,ZU r.c.r,.iface 322 (.agg #[ZP k])] 259):Yv w F b r:=
 ⟨d,u,h.may,h.ok,h.rise,k,G,q,.inr ⟨h.sag,h,c⟩⟩
theorem Rv{w}{F:Fp}{b:Nat}{r:Xh}(h:Yv w F b r)(hn:r.l.length<549755813888)(x y:Nat)(c:x<18446744073709551616)(V:y<18446744073709551616):
  ZW 173 #[ptr b,ZU x,ZU y] w (.tuple #[]) λw'=>Yv w' (Qn F w w') b (r.start x y)/\Qc F w w':=by
 obtain⟨k,G,B,E⟩:=h.ex;have K:=runP.lt h;have z:=h.bd;have d:=h.own;rcases E with⟨hb,E,I⟩|⟨hb,E,I⟩
 .have HO:=O (Nv I);have HS:=O (Qjz E (by omega) x y c V);have q:∀w',Ve w' (Qn G w w') k (r.start x y)->Qc G w w'->Yv w' (Qn F w w') b (r.start x y)/\Qc F w w':=λw' hi R=>by have u:Qc F w w':=R.sub λx c=>(B x c).1;exact⟨Yv.bent' (z.ext u) (.inl d) hi (λx c=>c.elim (λc=>⟨.inl (B x c).1,(B x c).2⟩) (λc=>⟨.inr c,by omega⟩)) (R.blk I λc=>(B b c).2 rfl),u⟩
  have Z:=O q;clear hn c V h E I q K z d;apply WH func173;go_wp2_with fail;apply Zy HO;rintro w1 rfl;go_wp2_with fail;apply ZF HS (λ_ ⟨U,J⟩=>Z.o _ U J);intro w2 HI;exact WD HI
 .have HO:=O (Nv I);have HS:=O (Qi6 E hn x y c V);have q:∀w',Hh w' (Qn G w w') k (r.start x y)->Qc G w w'->Yv w' (Qn F w w') b (r.start x y)/\Qc F w w':=λw' hi R=>by have u:Qc F w w':=R.sub λx c=>(B x c).1;exact⟨Yv.sag' (z.ext u) (.inl d) hi (λx c=>c.elim (λc=>⟨.inl (B x c).1,(B x c).2⟩) (λc=>⟨.inr c,by omega⟩)) (R.blk I λc=>(B b c).2 rfl),u⟩
  have Z:=O q;clear hn c V h E I q K z d;apply WH func173;go_wp2_with fail;apply Zy HO;rintro w1 rfl;go_wp2_with fail;apply ZF HS (λ_ ⟨U,J⟩=>Z.o _ U J);intro w2 HI;exact WD HI
end
section
attribute [local go_sem] Qnd Qne
theorem Qrw(k:Nat)(w):(method 519 317 (.agg #[ZP k]) "distributary/run.eligible").run prog w=.ok (348,.agg #[ZP k]) w:=by kernel_rfl
theorem Qry(k:Nat)(w):(method 519 322 (.agg #[ZP k]) "distributary/run.eligible").run prog w=.ok (368,.agg #[ZP k]) w:=by kernel_rfl
theorem Quj(k:Nat)(w):(method 519 317 (.agg #[ZP k]) "distributary/run.own").run prog w=.ok (349,.agg #[ZP k]) w:=by kernel_rfl
theorem Quk(k:Nat)(w):(method 519 322 (.agg #[ZP k]) "distributary/run.own").run prog w=.ok (369,.agg #[ZP k]) w:=by kernel_rfl
attribute [local go_sem] Qrw Qry Quj Quk
theorem Ar{w}{F:Fp}{b:Nat}{r:Xh}(h:Ve w F b r)(y:Nat)(d:y<18446744073709551616):ZW 331 #[ptr b,ZU y] w (ZU (r.reach y:Nat)) λw'=>Qc Qb w w':=by
 by_cases c:r.l=[];·exact Qgm h c y
 .exact Qgn h c y d
theorem Qiv{w}{F:Fp}{k:Nat}{r:Xh}(h:Ve w F k r)(y:Nat)(q:y<18446744073709551616):ZW 348 #[.agg #[ZP k],ZU y] w (ZU (r.elig y:Nat)) λw'=>Qc Qb w w':=by
 have c:=O (Ar (bentP.aB h ((Zg Qb w).alloc (.cells #[ZP k] 317)) (Jl.none F)) y q);have e:r.elig y=r.reach y:=by unfold Xh.elig Xh.reach;rw[if_pos h.bent]
 rw[e];unfold ptr at c;clear h q e;apply WH func348;go_wp2_with fail;apply ZF c (λ_ d=>((Zg Qb w).alloc _).aA d);intro w1 u;exact WD u
theorem Qiw{w}{F:Fp}{k:Nat}{r:Xh}(h:Hh w F k r)(q:r.l.length<1099511627776)(y:Nat):ZW 368 #[.agg #[ZP k],ZU y] w (ZU (r.elig y:Nat)) λw'=>Qc Qb w w':=by have c:=O (Qi1 (sagP.aB h ((Zg Qb w).alloc (.cells #[ZP k] 322)) (Jl.none F)) q y);unfold ptr at c;clear h q;apply WH func368;go_wp2_with fail;apply ZF c (λ_ d=>((Zg Qb w).alloc _).aA d);intro w1 u;exact WD u
theorem Ql2{w}{F:Fp}{k:Nat}{r:Xh}(h:Ve w F k r):Cl 349 #[.agg #[ZP k]] w λe w'=>∃d,e=.returned (.iface 317 (.agg #[ZP d]))/\Ve w' (Qn Qb w w') d r/\Qc Qb w w':=by have u:=O (Qn4 (bentP.aB h ((Zg Qb w).alloc (.cells #[ZP k] 317)) (Jl.none F)));unfold ptr at u;clear h;apply WH func349;go_wp2_with fail;apply Zo u;rintro e w1⟨d,rfl,B,z⟩;have q:=O (((Zg Qb w).alloc _).aA z);have E:=O (bentP.more B (F':=Qn Qb w w1) (λx c=>c.elim .inl (λc=>.inr ⟨by have:=c.1;simp at this;omega,c.2⟩)) ((show Bd Qb w from λ_ h=>h.elim).ext q.o));clear z B;go_wp2;go_ret;exact⟨_,rfl,E.o,q.o⟩
theorem Ql4{w}{F:Fp}{k:Nat}{r:Xh}(h:Hh w F k r)(B:r.l.length<1099511627776):Cl 369 #[.agg #[ZP k]] w λe w'=>∃d,e=.returned (.iface 322 (.agg #[ZP d]))/\Hh w' (Qn Qb w w') d r/\Qc Qb w w':=by have u:=O (Qmh (sagP.aB h ((Zg Qb w).alloc (.cells #[ZP k] 322)) (Jl.none F)) B);unfold ptr at u;clear h B;apply WH func369;go_wp2_with fail;apply Zo u;rintro e w1⟨d,rfl,E,z⟩;have q:=O (((Zg Qb w).alloc _).aA z);have I:=O (sagP.more E (F':=Qn Qb w w1) (λx c=>c.elim .inl (λc=>.inr ⟨by have:=c.1;simp at this;omega,c.2⟩)) ((show Bd Qb w from λ_ h=>h.elim).ext q.o));clear z E;go_wp2;go_ret;exact⟨_,rfl,I.o,q.o⟩
theorem Ru{w}{F:Fp}{b:Nat}{r:Xh}(h:Yv w F b r)(z:r.l.length<1099511627776)(y:Nat)(B:y<18446744073709551616):
  ZW 207 #[ptr b,ZU y] w (ZU (r.reach y:Nat)) λw'=>Qc Qb w w':=by
 obtain⟨k,G,J,c⟩:=h.ex;rcases c with⟨I,c,d⟩|⟨I,c,d⟩;all_goals have E:=O (Nv d)
 case inl=> have q:=O (Ar c y B);clear z B h c d;apply WH func207;go_wp2_with fail;apply Zy E;rintro w1 rfl;go_wp2_with fail;apply Zy q;intro w2 u;go_wp2;go_ret;exact⟨rfl,u⟩
 case inr=> have q:=O (Qi5 c z y);clear z B h c d;apply WH func207;go_wp2_with fail;apply Zy E;rintro w1 rfl;go_wp2_with fail;apply Zy q;intro w2 u;go_wp2;go_ret;exact⟨rfl,u⟩
theorem Ql3{w}{F:Fp}{b:Nat}{r:Xh}(h:Yv w F b r)(z:r.l.length<1099511627776)(y:Nat)(B:y<18446744073709551616):
  ZW 205 #[ptr b,ZU y] w (ZU (r.elig y:Nat)) λw'=>Qc Qb w w':=by
 obtain⟨k,G,J,c⟩:=h.ex;rcases c with⟨I,c,d⟩|⟨I,c,d⟩;all_goals have E:=O (Nv d)
 case inl=> have q:=O (Qiv c y B);clear z B h c d;apply WH func205;go_wp2_with fail;apply Zy E;rintro w1 rfl;go_wp2_with fail;apply Zy q;intro w2 u;go_wp2;go_ret;exact⟨rfl,u⟩
 case inr=> have q:=O (Qiw c z y);clear z B h c d;apply WH func205;go_wp2_with fail;apply Zy E;rintro w1 rfl;go_wp2_with fail;apply Zy q;intro w2 u;go_wp2;go_ret;exact⟨rfl,u⟩
end
section
attribute [local go_sem] Qrw Qry Quj Quk
theorem Qq4(c:Jy)(E:c.May)(z:¬c.r<c.f)(w):ZW 252 #[cV c] w (.tuple #[.pointer none,ZI 30]) λw'=>Qc Qb w w':=by have q:=O (K8 c);have k:=O (L7 c);rw[decide_eq_true E]at q;rw[decide_eq_false z]at k;obtain⟨f,l,r⟩:=c;unfold cV at*;have B:=O (Qh.new w #[ZU f,ZU l,ZU r] 27);have C:=O ((Zg Qb w).alloc (.cells #[ZU f,ZU l,ZU r] 27));clear E z;apply WH func252;go_wp2_with fail;apply Zz (q.o _);intro w1 d;have J:=O (C.o.aA d);have I:=O (d.blk B.o (λh=>h));clear d;have R:=L6 I.o;go_wp2_with fail;apply Z9 (k.o _) (λ_ u=>J.o.aA u);intro w2 K;clear R;exact WD K
theorem Cv(c:Jy)(J:c.May)(w):Cl 228 #[cV c] w λe w'=>∃b,e=.returned (ptr b)/\Yv w' (Qn Qb w w') b ⟨c,[]⟩/\Qc Qb w w':=by
 have HM:=O (K8 c);rw[decide_eq_true J]at HM;by_cases V:c.r<c.f
 .have HN:=O (Qn5 c J V);have d:∀(w0 w1 w2)(k:Nat),Qc Qb w w0->Ve w1 (Qn Qb w0 w1) k ⟨c,[]⟩->Qc Qb w0 w1->w2=w1.alloc (.cells #[ZU c.f,ZU c.l,ZU c.r,.iface 317 (.agg #[ZP k])] 259)->Yv w2 (Qn Qb w w2) w1.heap.size ⟨c,[]⟩/\Qc Qb w w2:=by
   rintro w0 w1 w2 k R h1 U rfl;have e0:=R.size;have e1:=U.size;refine⟨Yv.bent' (G:=Qn Qb w0 w1) (λx hx=>hx.elim (λh=>h.elim) (λh=>h.2)) (.inr ⟨by omega,by simp⟩) (bentP.aB h1 ((Zg Qb w1).alloc _) (Jl.none _)) ?_ (Qh.new _ _ _),((R.aA U).alloc _)⟩;rintro x(h|⟨h3,h4⟩);·exact h.elim
   .exact⟨.inr ⟨by omega,by simp;omega⟩,by omega⟩
  have HF:=O d;obtain⟨f,l,r⟩:=c;unfold cV at*;dsimp only at*;have B:=O (Qh.new w #[ZU f,ZU l,ZU r] 27);have C:=O ((Zg Qb w).alloc (.cells #[ZU f,ZU l,ZU r] 27));clear J V d;apply WH func228;go_wp2_with fail;apply Zz (HM.o _);intro w1 E;have C1:=O (C.o.aA E);have K:=O (E.blk B.o (λh=>h));clear E;have q:=L6 K.o;go_wp2_with fail;refine(HN.o _).mono ?_;rintro e w2⟨k,rfl,i2,I⟩;have Z:=O (I.blk K.o (λh=>h));have H2:=O (HF.o _ _ _ _ C1.o i2 I rfl);clear i2 I q;have q:=L6 Z.o;exact WG H2
 .have HN:=O (Qq4 c J V);have HS:=O (Qqb c J V);have d:∀(w0 w1 w2)(k:Nat),Qc Qb w w0->Hh w1 (Qn Qb w0 w1) k ⟨c,[]⟩->Qc Qb w0 w1->w2=w1.alloc (.cells #[ZU c.f,ZU c.l,ZU c.r,.iface 322 (.agg #[ZP k])] 259)->Yv w2 (Qn Qb w w2) w1.heap.size ⟨c,[]⟩/\Qc Qb w w2:=by
   rintro w0 w1 w2 k R h1 U rfl;have e0:=R.size;have e1:=U.size;refine⟨Yv.sag' (G:=Qn Qb w0 w1) (λx hx=>hx.elim (λh=>h.elim) (λh=>h.2)) (.inr ⟨by omega,by simp⟩) (sagP.aB h1 ((Zg Qb w1).alloc _) (Jl.none _)) ?_ (Qh.new _ _ _),((R.aA U).alloc _)⟩;rintro x(h|⟨h3,h4⟩);·exact h.elim
   .exact⟨.inr ⟨by omega,by simp;omega⟩,by omega⟩
  have HF:=O d;obtain⟨f,l,r⟩:=c;unfold cV at*;dsimp only at*;have B:=O (Qh.new w #[ZU f,ZU l,ZU r] 27);have C:=O ((Zg Qb w).alloc (.cells #[ZU f,ZU l,ZU r] 27));clear J V d;apply WH func228;go_wp2_with fail;apply Zz (HM.o _);intro w1 E;have C1:=O (C.o.aA E);have K:=O (E.blk B.o (λh=>h));clear E;have q:=L6 K.o;go_wp2_with fail;apply Zz (HN.o _);intro w2 I;have C2:=O (C1.o.aA I);have Z:=O (I.blk K.o (λh=>h));clear I q;have q:=L6 Z.o;go_wp2_with fail;refine(HS.o _).mono ?_;rintro e w3⟨k,rfl,i3,c3⟩;have B3:=O (c3.blk Z.o (λh=>h));have H3:=O (HF.o _ _ _ _ C2.o i3 c3 rfl);clear i3 c3 q;have q:=L6 B3.o;exact WG H3
theorem Mo{w}{F:Fp}{b:Nat}{r:Xh}(h:Yv w F b r)(hn:r.l.length<1099511627776):
  Cl 129 #[ptr b] w λe w'=>∃b',e=.returned (ptr b')/\Yv w' (Qn Qb w w') b' r/\Qc Qb w w':=by
 obtain⟨k,G,hG,I⟩:=h.ex;rcases I with⟨hb,I,d⟩|⟨hb,I,d⟩
 .have z:∀(w1 w2)(k:Nat),Ve w1 (Qn Qb w w1) k r->Qc Qb w w1->w2=w1.alloc (.cells #[ZU r.c.f,ZU r.c.l,ZU r.c.r,.iface 317 (.agg #[ZP k])] 259)->Yv w2 (Qn Qb w w2) w1.heap.size r/\Qc Qb w w2:=by
   rintro w1 w2 k I d rfl;have e1:=d.size;refine⟨Yv.bent' (G:=Qn Qb w w1) (λx u=>u.elim (λh=>h.elim) (λh=>h.2)) (.inr ⟨by omega,by simp⟩) (bentP.aB I ((Zg Qb w1).alloc _) (Jl.none _)) ?_ (Qh.new _ _ _),d.alloc _⟩;rintro x(h|⟨h3,h4⟩);·exact h.elim
   .exact⟨.inr ⟨by omega,by simp;omega⟩,by omega⟩
  have HF:=O z;have HS:=O (λw'(c:Qc Qb w w')=>Ql2 (bentP.aB I c (Jl.none G)));have TL:=O (λw'(c:Qc Qb w w')=>c.blk d (λh=>h));have B:=O d;have E:=λx=>X9 (Qk (S:=Qb) d (λh=>h) x);have a0:=X9 d;clear hb I d z hn h hG;apply WH func129;go_wp2;refine ZE [] [0,1,2,3,4,5,6,7] [8,9,10,11] [] (Qb) w ?_;simp only[pick,Zf,Ze,Zd];refine Qg ?_;iterate 8 (refine Ql (λK hK=>?_);go_simp;refine hK _ ?_;clear hK K)
  refine Qg ?_;intro _ V;obtain⟨xo,J⟩:=V;subst J;simp only[Jd];have R:=O (Qv Qb w xo);generalize Qz Qb w xo=w3 at R|-;clear E;go_wp2_with fail;refine(HS.o _ R.o).mono ?_;rintro e w4⟨k',rfl,i4,Z⟩;have U:=O (R.o.aA Z);have q:=O (HF.o _ _ _ (bentP.more i4 (F':=Qn Qb w w4) (λx u=>u.elim .inl (λu=>.inr ⟨Zp R.o.size u.1,u.2⟩)) ((show Bd Qb w from λ_ h=>h.elim).ext U.o)) U.o rfl);clear Z i4;go_wp2;refine⟨Qd U.o,?_⟩;go_wp2;refine⟨Qd U.o,?_⟩;go_wp2;refine⟨Qd q.o.2,?_⟩;go_wp2;refine⟨Qd q.o.2,?_⟩;exact WG q
 .have z:∀(w1 w2)(k:Nat),Hh w1 (Qn Qb w w1) k r->Qc Qb w w1->w2=w1.alloc (.cells #[ZU r.c.f,ZU r.c.l,ZU r.c.r,.iface 322 (.agg #[ZP k])] 259)->Yv w2 (Qn Qb w w2) w1.heap.size r/\Qc Qb w w2:=by
   rintro w1 w2 k I d rfl;have e1:=d.size;refine⟨Yv.sag' (G:=Qn Qb w w1) (λx u=>u.elim (λh=>h.elim) (λh=>h.2)) (.inr ⟨by omega,by simp⟩) (sagP.aB I ((Zg Qb w1).alloc _) (Jl.none _)) ?_ (Qh.new _ _ _),d.alloc _⟩;rintro x(h|⟨h3,h4⟩);·exact h.elim
   .exact⟨.inr ⟨by omega,by simp;omega⟩,by omega⟩
  have HF:=O z;have HS:=O (λw'(c:Qc Qb w w')=>Ql4 (sagP.aB I c (Jl.none G)) hn);have TL:=O (λw'(c:Qc Qb w w')=>c.blk d (λh=>h));have B:=O d;have E:=λx=>X9 (Qk (S:=Qb) d (λh=>h) x);have a0:=X9 d;clear hb I d z hn h hG;apply WH func129;go_wp2;refine ZE [] [0,1,2,3,4,5,6,7] [8,9,10,11] [] (Qb) w ?_;simp only[pick,Zf,Ze,Zd];refine Qg ?_;iterate 8 (refine Ql (λK hK=>?_);go_simp;refine hK _ ?_;clear hK K)
  refine Qg ?_;intro _ V;obtain⟨xo,J⟩:=V;subst J;simp only[Jd];have R:=O (Qv Qb w xo);generalize Qz Qb w xo=w3 at R|-;clear E;go_wp2_with fail;refine(HS.o _ R.o).mono ?_;rintro e w4⟨k',rfl,i4,Z⟩;have U:=O (R.o.aA Z);have q:=O (HF.o _ _ _ (sagP.more i4 (F':=Qn Qb w w4) (λx u=>u.elim .inl (λu=>.inr ⟨Zp R.o.size u.1,u.2⟩)) ((show Bd Qb w from λ_ h=>h.elim).ext U.o)) U.o rfl);clear Z i4;go_wp2;refine⟨Qd U.o,?_⟩;go_wp2;refine⟨Qd U.o,?_⟩;go_wp2;refine⟨Qd q.o.2,?_⟩;go_wp2;refine⟨Qd q.o.2,?_⟩;exact WG q
end
def Fs(d:Ju)(p:Nat):Array Value:=#[ptr p,ZU d.got,.bool d.aL,ZU d.elig,ZU d.due]
abbrev Ye:World->Fp->Nat->Ju->Prop:=O1 196 Fs Ju.run Yv
theorem Ye.obj:Hf Ye:=O1.obj runP
theorem Qrm(c:Int)(w):ZW 151 #[ZI c] w (ZU (Xr c:Nat)) λw'=>w=w':=by
 have q:IntKind.u64.wrap (min (max c 0) 65536)=(((min (max c 0) 65536).toNat:Nat):Int):=by rw[IntWalk.u64_in _ (by omega)];omega
 have u:IntKind.u64.wrap ((((min (max c 0) 65536).toNat:Nat):Int)*256)=(Xr c:Int):=by unfold Xr;rw[IntWalk.u64_in _ (by omega)];omega
 have B:=λ(d:Array TypeId)t k a b(w)=>X8 (P:=prog) d t k a b w;have E:=λ(d:Array TypeId)t k a b(w)=>Yd (P:=prog) d t k a b w;generalize Xr c=g at u|-;generalize(min (max c 0) 65536).toNat=m at q u;generalize I:min (max c 0) 65536=z at q;apply WH func151;exact WE
theorem Wt(c:Int):Xr c<=16777216:=by unfold Xr;omega
theorem Ty{w}{b p:Nat}{v1 v2 v3 v4:Value}(h:Qh w b #[ptr p,v1,v2,v3,v4] 196):ZW 128 #[ptr b] w (.bool false) λw'=>w=w':=by have c:=h.cell 0;simp only[Zf,Ze]at c;clear h;apply WH func128;exact WE
theorem Li{w}{F:Fp}{b:Nat}{d:Ju}(h:Ye w F b d):ZW 149 #[ptr b] w (.bool d.aL) λw'=>w=w':=by obtain⟨p,G,c,_⟩:=h.ex;have k:=O (Ty c);have q:=Ym c;clear h c;apply WH func149;go_wp2_with fail;apply Zy k;rintro w1 rfl;exact WE
theorem Ay{w}{F:Fp}{b:Nat}{d:Ju}(h:Ye w F b d):ZW 154 #[ptr b] w (ZU (d.from_:Nat)) λw'=>w=w':=by
 have c:=O (Li h);obtain⟨p,G,k,_⟩:=h.ex;have q:=Ym k;unfold ptr Ju.from_ at*;clear h k;cases ha:d.aL;all_goals
  rw[ha]at c;clear ha;apply WH func154;go_wp2_with fail;apply Zy c;rintro w1 rfl;exact WE
theorem Cb{w}{F:Fp}{b:Nat}{d:Ju}(h:Ye w F b d):ZW 97 #[ptr b] w (ZU (d.dueAt:Nat)) λw'=>w=w':=by
 have c:=O (Li h);obtain⟨p,G,k,_⟩:=h.ex;have q:=Ym k;unfold ptr Ju.dueAt at*;clear h k;cases ha:d.aL;all_goals
  rw[ha]at c;clear ha;apply WH func97;go_wp2_with fail;apply Zy c;rintro w1 rfl;exact WE
theorem Qcu{w}{G:Fp}{b p g:Nat}{r:Xh}{v2 v3 v4:Value}(B:Int)(R:Qh w b #[ptr p,ZU g,v2,v3,v4] 196)(V:Yv w G p r)(hn:r.l.length<549755813888)(hg:g<=Xw):
  ZW 204 #[ptr b,ZI B] w (.tuple #[]) λw'=>Qh w' b #[ptr p,ZU g,v2,ZU (r.elig g:Nat),v4] 196/\Qc (λk=>k=b) w w':=by
 have I:=O (λw'(hc:Qc Qb w w')=>Ql3 (runP.aB V hc (Jl.none G)) (by omega) g (by have:=Yz;omega));have E:=O R;generalize r.elig g=x at I|-;have E1:=λx=>Ym (Qk (S:=Qb) E.o (λh=>h) x);clear R V hn hg;apply WH func204;go_wp2_with fail;refine ZE [] [0,1,2,3,4,5,6,7,8,9] [10] [11,12,13] (Qb) w ?_;simp only[pick,Zf,Ze,Zd];refine Qg ?_;iterate 10 (refine Ql (λK U=>?_);go_simp;refine U _ ?_;clear U K)
 refine Qg ?_;intro _ z;obtain⟨Z,c⟩:=z;subst c;simp only[Jd];have q:=O (Qv Qb w Z);generalize Qz Qb w Z=w1 at q|-;clear E1;go_wp2_with fail;apply Z9 (I.o _ q.o) (λ_ J=>q.o.aA J);intro w2 u;go_wp2;refine⟨Qd u.o,?_⟩;have d:=O (u.o.blk E.o (λh=>h));have a0:=Ym d.o;have f2:=d.o.frozen;go_wp2;refine WB rfl rfl ⟨rfl,d.o.set' 3 _ rfl,u.o.none.setCell (a:=⟨b,3,none⟩) _ (.inl rfl)⟩
theorem By{w}{G:Fp}{b p g:Nat}{r:Xh}{v2 v3 v4:Value}(c:Int)(hB:Qh w b #[ptr p,ZU g,v2,v3,v4] 196)(hR:Yv w G p r)(hn:r.l.length<549755813888)(hg:g<=Xw):
  ZW 206 #[ptr b,ZI c] w (.tuple #[]) λw'=>Qh w' b #[ptr p,ZU g,v2,v3,ZU (r.reach (min (g+Xr c) Xw):Nat)] 196/\Qc (λk=>k=b) w w':=by
 have q:=Yz;have U:=Wt c;have J:=O (λw'(hc:Qc Qb w w')=>Ru (runP.aB hR hc (Jl.none G)) (by omega) (min (g+Xr c) Xw) (by omega));have HG:=O (λw=>Qrm c w);have Z:=O hB;have hs:IntKind.u64.wrap ((g:Int)+(Xr c:Int))=((g+Xr c:Nat):Int):=by rw[IntWalk.u64_in _ (by omega)];omega
 have B:min ((g+Xr c:Nat):Int) 4611686018427387904=((min (g+Xr c) Xw:Nat):Int):=by omega
 generalize r.reach (min (g+Xr c) Xw)=x at J|-;generalize min (g+Xr c) Xw=y at J B;generalize g+Xr c=z at hs B;generalize Xr c=u at HG hs;have hm:=λ(ts:Array TypeId)t k a b(w)=>X8 (P:=prog) ts t k a b w;have E1:=λx=>Ym (Qk (S:=Qb) Z.o (λh=>h) x);clear hB hR hn hg q U;apply WH func206;go_wp2_with fail;refine ZE [] [0,1,2,3,4,5,6,7,8,9,10] [11,12,13,14] [15,16,17] (Qb) w ?_;simp only[pick,Zf,Ze,Zd];refine Qg ?_;iterate 11 (refine Ql (λK hK=>?_);go_simp;refine hK _ ?_;clear hK K)
 refine Qg ?_;intro _ V;obtain⟨xo,E⟩:=V;subst E;simp only[Jd];have d:=O (Qv Qb w xo);generalize Qz Qb w xo=w1 at d|-;clear E1;go_wp2_with fail;apply Zz (HG.o _);rintro w2 rfl;go_wp2;refine⟨Qd d.o,?_⟩;go_wp2;refine⟨Qd d.o,?_⟩;go_wp2;refine⟨Qd d.o,?_⟩;go_wp2_with fail;apply Z9 (J.o _ d.o) (λ_ d2=>d.o.aA d2);intro w2 R;go_wp2;refine⟨Qd R.o,?_⟩;have I:=O (R.o.blk Z.o (λh=>h));have a0:=Ym I.o;have f2:=I.o.frozen;go_wp2;refine WB rfl rfl ⟨rfl,I.o.set' 4 _ rfl,R.o.none.setCell (a:=⟨b,4,none⟩) _ (.inl rfl)⟩
theorem Gj(r:Xh)(x y:Nat):(r.start x y).l.length=r.l.length+1:=by simp[Xh.start,Dg]
def Qm0:Value:=.agg #[.func (.func 204) #[] #[],.func (.func 206) #[] #[]]
theorem Qgg(w):ZW 150 #[] w Qm0 λw'=>Qc Qb w w':=by
 unfold Qm0;have c:Hi (∀w',w'=w.alloc (.cells #[.func (.func 204) #[] #[],.func (.func 206) #[] #[]] 223)->Qc Qb w w'/\Qh w' w.heap.size #[.func (.func 204) #[] #[],.func (.func 206) #[] #[]] 223):=O (by
  rintro w' rfl;exact⟨(Zg _ _).alloc _,Qh.new _ _ _⟩)
 apply WH func150;go_wp2;obtain⟨W,d⟩:=Zx (w.alloc (.cells #[.func (.func 204) #[] #[],.func (.func 206) #[] #[]] 223));rw[<-d];obtain⟨k,q⟩:=c.o W d;have u:=Q4 q;refine bodyPost_ret (v:=.agg #[.func (.func 204) #[] #[],.func (.func 206) #[] #[]]) ?_ rfl ⟨rfl,k⟩;clear k q d;simp[*,results,Tryz.results150,go_sem]
theorem Qj6{w}{F:Fp}{b:Nat}{d:Ju}(h:Ye w F b d)(hn:d.run.l.length+1<549755813888)(hg:d.got<=Xw)(now:Nat)(hw:now<18446744073709551616)(c:Int):
  ZW 108 #[ptr b,ZU now,ZI c] w (.tuple #[]) λw'=>Ye w' (Qn F w w') b (d.wake now c)/\Qc F w w':=by
 have H:=O h;obtain⟨p,G,Z,hR,hG⟩:=h.ex;have HN:=O (Ty Z);have ai:=O (runP.bd hR);have B:=Yz;cases ha:d.aL with
 |true=>
  have e:d.wake now c=d:=by unfold Ju.wake;rw[if_pos ha]
  have I:=O (λw'(hc:Qc Qb w w')=>Ye.obj.same H.o hc);rw[e];have a2:=Z.cell 2;simp only[Fs,Zf,Ze,Zd]at a2;rw[ha]at a2;clear h Z hR ha e B hn hg;apply WH func108;go_wp2_with fail;apply Zy HN;rintro w1 rfl;go_wp2;refine WA rfl rfl ⟨rfl,I.o _ (Zg _ _)⟩
 |false=>
  have HW:Hi (d.wake now c=⟨d.run.start now d.got,d.got,true,(d.run.start now d.got).elig d.got,(d.run.start now d.got).reach (min (d.got+Xr c) Xw)⟩):=O (by unfold Ju.wake;rw[if_neg (by rw[ha];exact Bool.false_ne_true)]);have HS:=O (λw'(hc:Qc Qb w w')=>Rv (runP.aB hR hc (Jl.none G)) (by omega) now d.got hw (by omega));have U:Hi ((d.run.start now d.got).l.length<549755813888):=O (by rw[Gj];exact hn);have HB:Hi (Qh w b #[ptr p,ZU d.got,.bool false,ZU d.elig,ZU d.due] 196):=O (by unfold Fs at Z;rw[ha]at Z;exact Z);have R:=O hG;have J:=O hg;obtain⟨g,af⟩:=Zx (d.got);rw[<-af]at HW HS U HB J;have a0:=Ym HB.o;clear h Z hR ha B hn hg hG af;apply WH func108;go_wp2_with fail;apply Zy HN;rintro w1 rfl;go_wp2_with fail;clear a0;have E1:=λx=>Ym (Qk (S:=Qb) HB.o (λh=>h) x);refine ZE [] [0,1,2,3,4,5,6,7,8,9] [] [10] (Qb) w ?_;simp only[pick,Zf,Ze,Zd];refine Qg ?_;iterate 10 (refine Ql (λK hK=>?_);go_simp;refine hK _ ?_;clear hK K)
  refine Qg ?_;intro _ ak;obtain⟨xo,ah⟩:=ak;subst ah;simp only[Jd];have V:=O (Qv Qb w xo);generalize Qz Qb w xo=w1 at V|-;clear E1;go_wp2_with fail;apply Zz (HS.o _ V.o);rintro w2⟨ae,c2⟩;have ac:¬G b:=λh=>(R.o _ h).2 rfl;have B2:=O (c2.blk (V.o.blk HB.o (λh=>h)) ac);have C2:=O c2;have R2:=O ae;have a0:=Ym B2.o;have f2:=B2.o.frozen;clear c2 ae ac;go_upto_region 3 with fail;obtain⟨w3,z⟩:=Zx (w2.setCell ⟨b,2,none⟩ (.bool true));have C3:Hi (Qc (λk=>k=b) w2 w3):=O (by rw[z];exact(Zg _ _).setCell (a:=⟨b,2,none⟩) _ (.inl rfl));have B3:Hi (Qh w3 b #[ZP p,ZU g,.bool true,ZU d.elig,ZU d.due] 196):=O (by rw[z];exact B2.o.set' 2 _ rfl);have E:Jl (Qn G w1 w2) (λk=>k=b):=by
   rintro k u rfl;rcases u with u|u;·exact(R.o _ u).2 rfl
   .have:=H.o.bd k H.o.own;have:=V.o.size;omega
  have HD:=O E;rw[<-z];have HA:=O (Qgg w3);unfold Qm0 at HA;clear z E a0 f2;go_wp2_with fail;apply Zy HA;intro w4 c4;obtain⟨s,hs⟩:=Zx (w4.heap.size);obtain⟨w5,q⟩:=Zx (w4.alloc (.cells #[.func (.func 204) #[] #[],.func (.func 206) #[] #[]] 223));have C5:Hi (Qc Qb w3 w5):=O (by rw[q];exact c4.alloc _);have S5:Hi (Qh w5 s #[.func (.func 204) #[] #[],.func (.func 206) #[] #[]] 223):=O (by rw[q,hs];exact Qh.new _ _ _);have ag:s≠b:=by have:=B3.o.lt;have:=c4.size;omega
  have aj:=O ag;have A1:=O (Qcu c (C5.o.blk B3.o (λh=>h)) (runP.aB (runP.aB R2.o C3.o HD.o) C5.o (Jl.none _)) U.o J.o);have s0:=Q4 (show Qh (w4.alloc (.cells #[.func (.func 204) #[] #[],.func (.func 206) #[] #[]] 223)) s _ _ from q▸S5.o);unfold ptr at A1;clear c4 ag;go_wp2_with fail;rw[<-hs,<-q];apply Zy A1;rintro w6⟨aa,c6⟩;have B6:=O aa;have C6:=O c6;have S6:=O (c6.blk S5.o aj.o);have A2:=O (By c aa (runP.aB (runP.aB (runP.aB R2.o C3.o HD.o) C5.o (Jl.none _)) c6 HD.o) U.o J.o);have t0:=Q4 S6.o;unfold ptr at A2;clear aa c6 s0 hs q;go_wp2_with fail;apply Zy A2;rintro w7⟨ab,c7⟩;have I:Hi (Ye w7 (Qn F w w7) b (d.wake now c)/\Qc F w w7):=O (by
   rw[HW.o];refine H.o.made (w1:=w2) (p:=p) (G:=G) R.o runP (V.o.none.aA C2.o) ?_ (((C3.o.aA C5.o.none).aA C6.o).aA c7) ab;exact runP.more R2.o (λk u=>u.elim .inl (λu=>.inr ⟨Zp V.o.size u.1,u.2⟩)) (ai.o.ext (V.o.none.aA C2.o)))
  clear ab c7 t0;exact WD I
theorem Qgw{w}{F:Fp}{b:Nat}{d:Ju}(h:Ye w F b d)(hn:d.run.l.length<549755813888)(hg:d.got<=Xw)(q:Nat)(B c:Int):
  ZW 98 #[ptr b,.int .u8 q,ZI B,ZI c] w (.tuple #[]) λw'=>Ye w' (Qn F w w') b (d.serve q B c)/\Qc F w w':=by
 have H:=O h;have U:=O (Li h);obtain⟨p,G,hB,hR,hG⟩:=h.ex;have ac:=Yz;cases ha:d.aL with
 |false=>
  rw[ha]at U;have e:d.serve q B c=d:=by unfold Ju.serve;rw[if_pos (by rw[ha];rfl)]
  have I:=O (λw'(hc:Qc Qb w w')=>Ye.obj.same H.o hc);rw[e];clear h hB hR ha e ac hn hg;apply WH func98;go_wp2_with fail;apply Zy U;rintro w1 rfl;go_wp2;refine WA rfl rfl ⟨rfl,I.o _ (Zg _ _)⟩
 |true=>
  rw[ha]at U;have HR:=O (λw'(hc:Qc Qb w w')=>runP.aB hR hc (Jl.none G));have ai:=O hR;have ae:=O hn;have HB:Hi (Qh w b #[ptr p,ZU d.got,.bool true,ZU d.elig,ZU d.due] 196):=O (by unfold Fs at hB;rw[ha]at hB;exact hB);have ah:=O hG;have ag:=O hg;have ao:=Wt B;obtain⟨g,Z⟩:=Zx (d.got);rw[<-Z]at HB ag;have HG:=O (λw=>Qrm B w);have HD:Hi (Jl G (λk=>k=b)):=O (λk hk e=>(hG k hk).2 e);have HA:=O (Qgg w);unfold Qm0 at HA;obtain⟨J,al⟩:=Zx (min (g+Xr B) Xw);have ab:Hi (J<=Xw):=O (by omega);have hs:IntKind.u64.wrap ((g:Int)+(Xr B:Int))=((g+Xr B:Nat):Int):=by rw[Z,IntWalk.u64_in _ (by omega)];omega
  have ap:min ((g+Xr B:Nat):Int) 4611686018427387904=(J:Int):=by omega
  have V:Hi (d.serve q B c=⟨d.run,if q=1 then J else g,decide (1<=c),if q=1 then d.run.elig (if q=1 then J else g)else d.elig,d.run.reach (min ((if q=1 then J else g)+Xr c) Xw)⟩):=O (by unfold Ju.serve;rw[if_neg (by rw[ha];simp),al,Z]);generalize g+Xr B=z at hs ap;generalize Xr B=u at HG hs;have hm:=λ(ts:Array TypeId)t k a b(w)=>X8 (P:=prog) ts t k a b w;clear h hB hR ha ac hn hg hG Z ao al;apply WH func98;go_wp2_with fail;apply Zy U;rintro w1 rfl;go_wp2_with fail;apply Zy HA;intro w4 c4;obtain⟨s,af⟩:=Zx (w4.heap.size);obtain⟨w5,aa⟩:=Zx (w4.alloc (.cells #[.func (.func 204) #[] #[],.func (.func 206) #[] #[]] 223));have C0:Hi (Qc Qb w w5):=O (by rw[aa];exact c4.alloc _);have S5:Hi (Qh w5 s #[.func (.func 204) #[] #[],.func (.func 206) #[] #[]] 223):=O (by rw[aa,af];exact Qh.new _ _ _);have am:s≠b:=by have:=HB.o.lt;have:=c4.size;omega
  have aj:=O am;have B5:=O (C0.o.blk HB.o (λh=>h));clear c4 am;go_upto_region 2 with fail;rw[<-af,<-aa];clear af aa;by_cases hr:q=1
  .subst hr;rw[if_pos rfl,if_pos rfl]at V;have HW:=V;have E1:=λx=>Ym (Qk (S:=Qb) B5.o (λh=>h) x);go_wp2_with fail;refine ZE [] [0,1,2,3,4,5] [6,7,8] [9,10,11] (Qb) w5 ?_;simp only[pick,Zf,Ze,Zd];refine Qg ?_;iterate 6 (refine Ql (λK hK=>?_);go_simp;refine hK _ ?_;clear hK K)
   refine Qg ?_;intro _ ar;obtain⟨xo,an⟩:=ar;subst an;simp only[Jd];have c1:=O (Qv Qb w5 xo);generalize Qz Qb w5 xo=w6 at c1|-;clear E1;go_wp2_with fail;apply Zz (HG.o _);rintro w7 rfl;go_wp2;refine⟨Qd c1.o,?_⟩;go_wp2;refine⟨Qd c1.o,?_⟩;go_wp2;refine⟨Qd c1.o,?_⟩;have B6:=O (c1.o.blk B5.o (λh=>h));have f6:=B6.o.frozen;have a0:=Ym B6.o;obtain⟨w8,R⟩:=Zx (w6.setCell ⟨b,1,none⟩ (ZU J));have C8:Hi (Qc (λk=>k=b) w5 w8):=O (by rw[R];exact c1.o.none.setCell (a:=⟨b,1,none⟩) _ (.inl rfl));have B8:Hi (Qh w8 b #[ZP p,ZU J,.bool true,ZU d.elig,ZU d.due] 196):=O (by rw[R];exact B6.o.set' 1 _ rfl);have S8:=O (C8.o.blk S5.o aj.o);have A1:=O (Qcu c B8.o (runP.aB (HR.o _ C0.o) C8.o HD.o) ae.o ab.o);have s0:=Q4 (show Qh (w6.setCell ⟨b,1,none⟩ (ZU J)) s _ _ from R▸S8.o);unfold ptr at A1;go_wp2_with fail;rw[<-R];apply Zy A1;rintro w9⟨ak,c9⟩;have B9:=O ak;have C9:=O (C8.o.aA c9);have S6:=O (c9.blk S8.o aj.o);clear ak c9 s0 R a0 f6;have A2:=O (By c B9.o (runP.aB (HR.o _ C0.o) C9.o HD.o) ae.o ab.o);have t0:=Q4 S6.o;unfold ptr at A2;go_wp2_with fail;apply Zy A2;rintro w7⟨E,c7⟩;have B7:=O E;have a0:=Ym E;have f7:=E.frozen;have I:Hi (Ye (w7.setCell ⟨b,2,none⟩ (.bool (decide (1<=c)))) (Qn F w (w7.setCell ⟨b,2,none⟩ (.bool (decide (1<=c))))) b (d.serve 1 B c)/\Qc F w (w7.setCell ⟨b,2,none⟩ (.bool (decide (1<=c))))):=O (by
    rw[HW.o];exact H.o.cell (p:=p) (G:=G) (x':=⟨d.run,J,decide (1<=c),d.run.elig J,d.run.reach (min (J+Xr c) Xw)⟩) ai.o ah.o runP ((((C0.o.none.aA C9.o).aA c7).setCell (a:=⟨b,2,none⟩) _ (.inl rfl))) (E.set' 2 _ rfl))
   have aq:decide (c>=1)=decide (1<=c):=rfl;clear E c7 t0;exact WD I
  .rw[if_neg hr,if_neg hr]at V;have HW:=V;have au:((q:Int)==1)=false:=by simp;omega
   have S6:=S5;have C9:Hi (Qc (λk=>k=b) w5 w5):=O (Zg _ _);have s0:=Q4 S5.o;clear hr;have A2:=O (By c B5.o (runP.aB (HR.o _ C0.o) C9.o HD.o) ae.o ag.o);have t0:=Q4 S6.o;unfold ptr at A2;go_wp2_with fail;apply Zy A2;rintro w7⟨E,c7⟩;have B7:=O E;have a0:=Ym E;have f7:=E.frozen;have I:Hi (Ye (w7.setCell ⟨b,2,none⟩ (.bool (decide (1<=c)))) (Qn F w (w7.setCell ⟨b,2,none⟩ (.bool (decide (1<=c))))) b (d.serve q B c)/\Qc F w (w7.setCell ⟨b,2,none⟩ (.bool (decide (1<=c))))):=O (by
    rw[HW.o];exact H.o.cell (p:=p) (G:=G) (x':=⟨d.run,g,decide (1<=c),d.elig,d.run.reach (min (g+Xr c) Xw)⟩) ai.o ah.o runP ((((C0.o.none.aA C9.o).aA c7).setCell (a:=⟨b,2,none⟩) _ (.inl rfl))) (E.set' 2 _ rfl))
   have aq:decide (c>=1)=decide (1<=c):=rfl;clear E c7 t0;exact WD I
theorem Qj5{w}{F:Fp}{b:Nat}{d:Ju}(h:Ye w F b d)(hn:d.run.l.length<549755813888):
  Cl 74 #[ptr b] w λe w'=>∃b',e=.returned (ptr b')/\Ye w' (Qn Qb w w') b' d/\Qc Qb w w':=by
 obtain⟨p,G,J,U,hG⟩:=h.ex;have HN:=O (Ty J);obtain⟨k,K⟩:=Zx (w.heap.size);obtain⟨W,B⟩:=Zx (w.alloc (.cells (Fs d p) 196));have I:Hi (Qc Qb w W):=O (by rw[B];exact(Zg _ _).alloc _);have E:Hi (Qh W k (Fs d p) 196):=O (by rw[B,K];exact Qh.new _ _ _);have Z:=O K;have V:=O (Mo (runP.aB U I.o (Jl.none G)) (by omega));have a0:=Ym J;have e0:=Ym (show Qh (w.alloc (.cells (Fs d p) 196)) b _ _ from B▸I.o.blk J (λh=>h));unfold Fs ptr at*;clear h J U hG hn;apply WH func74;go_wp2_with fail;apply Zy HN;rintro w1 rfl;go_wp2_with fail;rw[<-K,<-B];apply Zo V;rintro e w2⟨q,rfl,z,u⟩;have R:Hi (∀w',w'=w2.setCell ⟨k,0,none⟩ (ZP q)->Ye w' (Qn Qb w w') k d/\Qc Qb w w'):=O (by
  rintro w' rfl;have ab:=Z.o;have aa:=E.o.lt;have hc:Qc (λj=>j=k) w2 (w2.setCell ⟨k,0,none⟩ (ZP q)):=(Zg (λj=>j=k) w2).setCell (a:=⟨k,0,none⟩) _ (.inl rfl);have s0:=I.o.size;refine⟨O1.new (p:=q) (G:=Qn Qb W w2) (runP.aB z hc ?_) (λj c=>c.elim (λh=>h.elim) (λh=>by omega)) runP ((u.blk E.o (λh=>h)).set' 0 _ rfl) (by omega) (λh=>h.elim (λh=>h) (λh=>by omega)),(I.o.aA u).setCell (a:=⟨k,0,none⟩) _ (.inr (by show w.heap.size<=k;omega))⟩;rintro j c rfl;rcases c with c|c;·exact c
  .omega)
 have f2:∀j,w2.frozen? ⟨k,j,none⟩=false:=(u.blk E.o (λh=>h)).frozen;have d0:=Ym (u.blk E.o (λh=>h));clear K B z u a0 e0;go_wp2;go_ret;exact⟨_,rfl,R.o _ rfl⟩
def Kv(w:World)(F:Fp)(v:Value)(o:Option Ju):Prop:=match o with
 |none=>v=.pointer none/\Bd F w
 |some d=>∃b,v=ptr b/\Ye w F b d
theorem Kv.good(v:Value)(o:Option Ju):Uy (λw F=>Kv w F v o):=by
 cases o with
 |none=>exact Qop _
 |some d=>exact Qtk (P:=λb w F=>v=ptr b/\Ye w F b d) (λb=>⟨λh=>Ye.obj.bd h.2,λh k q=>⟨h.1,Ye.obj.aB h.2 k q⟩,λh u c=>⟨h.1,Ye.obj.more h.2 u c⟩⟩)
theorem Qn8(c:Jy)(d:c.May)(w):Cl 171 #[cV c] w λe w'=>∃b,e=.returned (ptr b)/\Ye w' (Qn Qb w w') b (Ju.new c)/\Qc Qb w w':=by
 obtain⟨W,k⟩:=Zx (w.alloc (.cells #[ZU c.f,ZU c.l,ZU c.r] 27));have K:Hi (Qc Qb w W):=O (by rw[k];exact(Zg _ _).alloc _);have J:Hi (Qh W w.heap.size #[ZU c.f,ZU c.l,ZU c.r] 27):=O (by rw[k];exact Qh.new _ _ _);have E:=O (λw=>K8 c w);rw[decide_eq_true d]at E;have R:=O (λw=>Cv c d w);unfold cV ptr at*;clear d;apply WH func171;go_wp2_with fail;rw[<-k];apply Zz (E.o _);intro w1 u;have U:=L6 (u.blk J.o (λh=>h));have B:=O (K.o.aA u);clear u k;go_wp2_with fail;refine(R.o _).mono ?_;rintro e w2⟨p,rfl,I,z⟩;have q:Hi (∀w',w'=w2.alloc (.cells #[ZP p,ZU 0,.bool false,ZU 0,ZU 0] 196)->Ye w' (Qn Qb w w') w2.heap.size (Ju.new c)/\Qc Qb w w'):=O (by
  rintro w' rfl;have d:Qc Qb w2 (w2.alloc (.cells #[ZP p,ZU 0,.bool false,ZU 0,ZU 0] 196)):=(Zg _ _).alloc _;have s1:=B.o.size;have s2:=z.size;exact⟨O1.new (p:=p) (G:=Qn Qb w1 w2) (runP.aB I d (Jl.none _)) (λj hj=>hj.elim (λh=>h.elim) (λh=>by omega)) runP (Qh.new _ _ _) (by omega) (λh=>h.elim (λh=>h) (λh=>by omega)),(B.o.aA z).aA d⟩)
 clear I z U;go_wp2;go_ret;exact⟨_,rfl,q.o _ rfl⟩
theorem Qgx(c:Jy)(E:c.May)(w):Cl 105 #[cV c] w λe w'=>∃v,e=.returned v/\Kv w' (Qn Qb w w') v (Xl c)/\Qc Qb w w':=by
 obtain⟨W,B⟩:=Zx (w.alloc (.cells #[ZU c.f,ZU c.l,ZU c.r] 27));have K:Hi (Qc Qb w W):=O (by rw[B];exact(Zg _ _).alloc _);have V:Hi (Qh W w.heap.size #[ZU c.f,ZU c.l,ZU c.r] 27):=O (by rw[B];exact Qh.new _ _ _);have J:=O (λw=>Kz c w);have Z:=O (λw=>Qn8 c E w);unfold Xl;cases d:c.none with
 |true=> rw[d]at J;have u:=O (λw'(E:Qc Qb w w')=>show Kv w' (Qn Qb w w') (.pointer none) none/\Qc Qb w w' from⟨⟨rfl,λk q=>q.elim (λh=>h.elim) (λh=>h.2)⟩,E⟩);rw[if_pos rfl];unfold cV ptr at*;clear E d;apply WH func105;go_wp2_with fail;rw[<-B];apply Z9 (J.o _) (λ_ z=>K.o.aA z);intro w1 I;clear B;go_wp2;go_ret;exact⟨_,rfl,u.o _ I.o⟩
 |false=> rw[d]at J;rw[if_neg Bool.false_ne_true];unfold cV ptr at*;clear E d;apply WH func105;go_wp2_with fail;rw[<-B];apply Zz (J.o _);intro w1 z;have a0:=L6 (z.blk V.o (λh=>h));have I:=O (K.o.aA z);clear z B;go_wp2_with fail;refine(Z.o _).mono ?_;rintro e w2⟨p,rfl,U,R⟩;have u:Hi (Kv w2 (Qn Qb w w2) (ZP p) (some (Ju.new c))/\Qc Qb w w2):=O (⟨⟨p,rfl,Ye.obj.more U (λk q=>q.elim .inl (λq=>.inr ⟨Zp I.o.size q.1,q.2⟩)) (λk q=>q.elim (λh=>h.elim) (λh=>h.2))⟩,I.o.aA R⟩);clear U R a0;exact WG u
theorem Qkb{w}{F H:Fp}{b q:Nat}{l:List Xu}{d:Ju}(h:Yq w F b l)(u:Ye w H q d)(I:l.length<4611686018427387903)(id:Int):
  ZW 99 #[ptr b,ZI id,ptr q] w (.tuple #[]) λw'=>Yq w' (Qn F w w') b (Hj l id d)/\Qc F w w':=by
 have z:=O (Li u);have J:=O (Ay u);have K:=O (Cb u);unfold Ju.from_ Ju.dueAt at*;cases ha:d.aL with
 |false=> rw[ha]at z;have E:=O (Qj9 h (by omega) id);rw[show Hj l id d=Xa id l by unfold Hj;rw[ha];rfl];clear h u ha I;apply WH func99;go_wp2_with fail;apply Zy z;rintro w1 rfl;go_wp2_with fail;apply ZQ E;intro w1 B;exact WD B
 |true=> rw[ha,if_pos rfl]at J K;rw[ha]at z;have E:=O (Qoe h I id d.elig d.due);rw[show Hj l id d=Vf id d.elig d.due l by unfold Hj;rw[ha];rfl];clear h u ha I;apply WH func99;go_wp2_with fail;apply Zy z;rintro w1 rfl;go_wp2_with fail;apply Zy J;rintro w1 rfl;go_wp2_with fail;apply Zy K;rintro w1 rfl;go_wp2_with fail;apply ZQ E;intro w1 B;exact WD B
section
abbrev Oj:World->Fp->Nat->Xh->Prop:=O1 252 (λ_ p=>#[.iface 248 (.agg #[ptr p])]) (λr=>r) Yv
theorem Oj.obj:Hf Oj:=O1.obj runP
def Ho(w:World)(F:Fp)(b:Nat)(l:Kg):Prop:=match l with
 |none=>Tv b #[.iface 293 (.agg #[])] 252 w F
 |some r=>Oj w F b r
theorem Ho.obj:Hf Ho where
 bd:=λ{w F b x}h=>by cases x with|none=>exact(Ks _ _ _).bd h|some r=>exact Oj.obj.bd h
 own:=λ{w F b x}h=>by cases x with|none=>exact h.2.1|some r=>exact Oj.obj.own h
 aB:=λ{w w' F S b x}h d k=>by cases x with|none=>exact(Ks _ _ _).aB h d k|some r=>exact Oj.obj.aB h d k
 more:=λ{w F u b x}h q c=>by cases x with|none=>exact(Ks _ _ _).more h q c|some r=>exact Oj.obj.more h q c
theorem Qbg(v:Value)(w):(Instr.typeAssert (.iface 248 v) 250 248 true).run prog w=.ok (.tuple #[v,.bool true]) w:=by have h:=underlying248;simp[Instr.typeAssert,run_underlying h,go_sem,Result.andThen]
theorem Qck(v:Value)(w):(Instr.typeAssert (.iface 293 v) 250 248 true).run prog w=.ok (.tuple #[.agg #[.pointer none],.bool false]) w:=by
 have h:=underlying248;have c:(zeroValue 248).run prog w=.ok (.agg #[.pointer none]) w:=by go_simp
 simp[Instr.typeAssert,run_underlying h,go_sem,Result.andThen,c]
theorem Iu(v:Value)(w):(Instr.typeAssert (.iface 293 v) 250 293 true).run prog w=.ok (.tuple #[v,.bool true]) w:=by have h:=underlying293;simp[Instr.typeAssert,run_underlying h,go_sem,Result.andThen]
attribute [local go_sem] Qbg Qck Iu
theorem Rg{w}{b p:Nat}(h:Qh w b #[.iface 248 (.agg #[ptr p])] 252):ZW 187 #[ptr b] w (ptr p) λw'=>Qc Qb w w':=by have c:=Jf h;clear h;apply WH func187;go_wp2;go_ret;refine⟨rfl,?_⟩;(exact Z0)
theorem Mc{w}{b:Nat}(h:Qh w b #[.iface 293 (.agg #[])] 252):ZW 187 #[ptr b] w (.pointer none) λw'=>Qc Qb w w':=by have c:=Jf h;clear h;apply WH func187;go_wp2;go_ret;refine⟨rfl,?_⟩;(exact Z0)
theorem F8(w):ZW 187 #[.pointer none] w (.pointer none) λw'=>Qc Qb w w':=by apply WH func187;go_wp2;go_ret;exact⟨rfl,Zg _ _⟩
end
theorem Qkw{w}{F:Fp}{b:Nat}{l:Kg}(h:Ho w F b l)(hn:∀r,l=some r->r.l.length<549755813888)(now c:Nat)(U:now<18446744073709551616)(V:c<18446744073709551616):
  ZW 176 #[ptr b,ZU now,ZU c] w (.tuple #[]) λw'=>Ho w' (Qn F w w') b (l.wake now c)/\Qc F w w':=by
 have E:=O (λw'(hc:Qc Qb w w')=>Ho.obj.same h hc);cases l with
 |none=> have I:=O (Mc h.1);rw[show Kg.wake none now c=none from rfl];clear h hn U V;apply WH func176;go_wp2_with fail;apply ZQ I;intro w1 d;go_wp2;refine WB rfl rfl ⟨rfl,E.o _ d.o⟩
 |some r=>
  have h:Oj w F b r:=h;have H:=O h;obtain⟨p,G,Z,hR,hG⟩:=h.ex;have I:=O (Rg Z);have J:=O Z;have q:=O hG;have HR:=O (λw'(hc:Qc Qb w w')=>Rv (runP.aB hR hc (Jl.none G)) (hn r rfl) now c U V);rw[show Kg.wake (some r) now c=some (r.start now c)from rfl];have K:=O (runP.bd hR);clear h hn U V Z hR hG;apply WH func176;go_wp2_with fail;apply ZQ I;intro w1 d;go_wp2_with fail;apply Zz (HR.o _ d.o);rintro w2⟨z,c2⟩;have FF:Hi (Oj w2 (Qn F w w2) b (r.start now c)/\Qc F w w2):=O (by
   have R:Qc G w w2:=d.o.none.aA c2;exact H.o.made (x':=r.start now c) q.o runP R (runP.more z (λk B=>B.elim .inl (λB=>.inr ⟨Zp d.o.size B.1,B.2⟩)) (K.o.ext R)) (Zg _ _) (R.blk J.o (λh=>(q.o _ h).2 rfl)))
  clear z c2;exact WD FF
theorem Qo1{w}{F:Fp}{b:Nat}{l:Kg}(h:Ho w F b l)(z:∀r,l=some r->r.l.length<549755813888)(c:Nat)(u:c<18446744073709551616):
  ZW 245 #[ptr b,ZU c] w (ZU (l.fit c:Nat)) λw'=>Qc Qb w w':=by
 cases l with
 |none=> have q:=O (Mc h.1);rw[show Kg.fit none c=0 from rfl];clear h z u;apply WH func245;go_wp2_with fail;apply ZQ q;intro w1 k;exact WD k
 |some r=> have h:Oj w F b r:=h;obtain⟨p,G,I,J,R⟩:=h.ex;have q:=O (Rg I);have B:=O (λw'(U:Qc Qb w w')=>Ru (runP.aB J U (Jl.none G)) (by have:=z r rfl;omega) c u);rw[show Kg.fit (some r) c=r.reach c from rfl];generalize r.reach c=x at B|-;clear h z u I J R;apply WH func245;go_wp2_with fail;apply ZQ q;intro w1 k;go_wp2_with fail;apply Z9 (B.o _ k.o) (λ_ E=>k.o.aA E);intro w2 K;exact WD K
theorem Qku{w}{F:Fp}{b:Nat}{l:Kg}(h:Ho w F b l)(J:∀r,l=some r->r.l.length<549755813888):
  Cl 126 #[ptr b] w λe w'=>∃b',e=.returned (ptr b')/\Ho w' (Qn Qb w w') b' l/\Qc Qb w w':=by
 cases l with
 |none=>
  have E:=O (Mc h.1);have U:=O h.1;clear h J;apply WH func126;go_wp2_with fail;apply Zy E;intro w1 d;have a0:=Jf (d.blk U.o (λh=>h));have c:Hi (∀w',w'=w1.alloc (.cells #[.iface 293 (.agg #[])] 252)->Ho w' (Qn Qb w w') w1.heap.size none/\Qc Qb w w'):=O (by
   rintro w' rfl;exact⟨⟨Qh.new _ _ _,.inr ⟨d.size,by simp⟩,λk hk=>hk.elim (λh=>h.elim) (λh=>h.2)⟩,d.alloc _⟩)
  clear d;go_wp2;go_ret;exact⟨_,rfl,c.o _ rfl⟩
 |some r=>
  have h:Oj w F b r:=h;obtain⟨p,G,K,R,Z⟩:=h.ex;have E:=O (Rg K);have V:=O (λw'(z:Qc Qb w w')=>Mo (runP.aB R z (Jl.none G)) (by have:=J r rfl;omega));clear h J K R Z;apply WH func126;go_wp2_with fail;apply ZQ E;intro w1 B;go_wp2_with fail;refine(V.o _ B.o).mono ?_;rintro e w2⟨q,rfl,u,I⟩;have c:Hi (∀w',w'=w2.alloc (.cells #[.iface 248 (.agg #[ZP q])] 252)->Ho w' (Qn Qb w w') w2.heap.size (some r)/\Qc Qb w w'):=O (by
   rintro w' rfl;have z:Qc Qb w2 (w2.alloc (.cells #[.iface 248 (.agg #[ZP q])] 252)):=(Zg _ _).alloc _;have s1:=B.o.size;have s2:=I.size;exact⟨O1.new (p:=q) (G:=Qn Qb w1 w2) (runP.aB u z (Jl.none _)) (λj hj=>hj.elim (λh=>h.elim) (λh=>by omega)) runP (Qh.new _ _ _) (by omega) (λh=>h.elim (λh=>h) (λh=>by omega)),(B.o.aA I).aA z⟩)
  clear u I;go_wp2;go_ret;exact⟨_,rfl,c.o _ rfl⟩
theorem Qdj(c:Jy)(w):Cl 168 #[cV c] w λe w'=>∃b,e=.returned (ptr b)/\Ho w' (Qn Qb w w') b (Ha c)/\Qc Qb w w':=by
 obtain⟨W,E⟩:=Zx (w.alloc (.cells #[ZU c.f,ZU c.l,ZU c.r] 27));have Z:Hi (Qc Qb w W):=O (by rw[E];exact(Zg _ _).alloc _);have B0:Hi (Qh W w.heap.size #[ZU c.f,ZU c.l,ZU c.r] 27):=O (by rw[E];exact Qh.new _ _ _);have K:=O (λw=>Kz c w);have V:=O (λw=>K8 c w);have B:Hi (∀w1 w',Qc Qb w w1->w'=w1.alloc (.cells #[.iface 293 (.agg #[])] 252)->Ho w' (Qn Qb w w') w1.heap.size none/\Qc Qb w w'):=O (by
  rintro w1 w' d rfl;exact⟨⟨Qh.new _ _ _,.inr ⟨d.size,by simp⟩,λk hk=>hk.elim (λh=>h.elim) (λh=>h.2)⟩,d.alloc _⟩)
 unfold Ha;cases z:c.none with
 |true=> rw[z]at K;rw[show(if(true||!decide c.May)=true then(none:Kg)else some (Xh.new c))=none from rfl];unfold cV ptr at*;clear z;apply WH func168;go_wp2_with fail;rw[<-E];apply Z9 (K.o _) (λ_ d=>Z.o.aA d);intro w1 J;clear E;go_wp2;go_ret;exact⟨_,rfl,B.o _ _ J.o rfl⟩
 |false=>
  rw[z]at K;cases u:decide c.May with
  |false=> rw[u]at V;rw[show(if(false||!false)=true then(none:Kg)else some (Xh.new c))=none from rfl];unfold cV ptr at*;clear z u;apply WH func168;go_wp2_with fail;rw[<-E];apply Zz (K.o _);intro w1 d;have a0:=L6 (d.blk B0.o (λh=>h));have J:=O (Z.o.aA d);clear d E;go_wp2_with fail;apply Z9 (V.o _) (λ_ I=>J.o.aA I);intro w2 U;clear a0;go_wp2;go_ret;exact⟨_,rfl,B.o _ _ U.o rfl⟩
  |true=>
   have HR:=O (λw=>Cv c (of_decide_eq_true u) w);rw[u]at V;rw[show(if(false||!true)=true then(none:Kg)else some (Xh.new c))=some (Xh.new c)from rfl];unfold cV ptr at*;clear z u;apply WH func168;go_wp2_with fail;rw[<-E];apply Zz (K.o _);intro w1 d;have B1:=O (d.blk B0.o (λh=>h));have a0:=L6 B1.o;have J:=O (Z.o.aA d);clear d E;go_wp2_with fail;apply Zz (V.o _);intro w2 I;have U:=O (J.o.aA I);have e0:=L6 (I.blk B1.o (λh=>h));clear I a0;go_wp2_with fail;refine(HR.o _).mono ?_;rintro e w3⟨q,rfl,R,c3⟩;have aa:Hi (∀w',w'=w3.alloc (.cells #[.iface 248 (.agg #[ZP q])] 252)->Ho w' (Qn Qb w w') w3.heap.size (some (Xh.new c))/\Qc Qb w w'):=O (by
    rintro w' rfl;have hc:Qc Qb w3 (w3.alloc (.cells #[.iface 248 (.agg #[ZP q])] 252)):=(Zg _ _).alloc _;have s1:=U.o.size;have s2:=c3.size;exact⟨O1.new (p:=q) (G:=Qn Qb w2 w3) (runP.aB R hc (Jl.none _)) (λj hj=>hj.elim (λh=>h.elim) (λh=>by omega)) runP (Qh.new _ _ _) (by omega) (λh=>h.elim (λh=>h) (λh=>by omega)),(U.o.aA c3).aA hc⟩)
   clear R c3 e0;go_wp2;go_ret;exact⟨_,rfl,aa.o _ rfl⟩
def Pp(m:Jh)(p:Nat):Array Value:=#[ZU m.total,ZU m.v,ptr p,.bool m.aL]
abbrev Vj:World->Fp->Nat->Jh->Prop:=O1 255 Pp Jh.run Yv
theorem Vj.obj:Hf Vj:=O1.obj runP
theorem Sm{X:Type}{key:X->Int}{Is:World->Fp->Nat->X->Prop}(c:Hf Is)(m:Nat)(ad:Int->Nat)(l:List X):Uy (λw F=>Yn key Is w F m ad l) where
 bd:=λh=>h.bd
 aB:=λh k q=>h.aB c k q
 more:=λh u d=>h.more u d
theorem Mz{X:Type}{key:X->Int}{l c:List X}(k:l.Perm c)(q:(l.map key).Nodup)(i:Int):Hn key i l=Hn key i c:=by
 have E:(c.map key).Nodup:=(k.map _).nodup_iff.1 q;cases h:Hn key i c with
 |some x=> obtain⟨u,d⟩:=Y3 h;exact Ls q (k.mem_iff.2 u) d
 |none=>
  cases d:Hn key i l with
  |none=>rfl
  |some x=> obtain⟨z,B⟩:=Y3 d;exact absurd B (Lz h x (k.mem_iff.1 z))
def Qtj(b m:Nat)(c:Nat)(ad:Int->Nat)(l:List Jh):List Ya:=
 [Tv b #[.map (some m),ZU c] 245,λw G=>Yn Jh.id Vj w G m ad l]
theorem Yc(b m c:Nat)(ad:Int->Nat)(l:List Jh):∀P∈Qtj b m c ad l,Uy P:=by
 intro P d;simp only[Qtj,Zu,List.not_mem_nil,or_false]at d;rcases d with rfl|rfl;·exact Ks _ _ _
 .exact Sm Vj.obj _ _ _
def J0(w:World)(F:Fp)(b:Nat)(f:Jc):Prop:=∃m ad l,l.Perm f.all/\Oh (Qtj b m f.mark ad l) w F
theorem J0.obj:Hf J0 where
 bd:=λ⟨m,ad,l,_,h⟩=>(Je (Yc _ m _ ad l)).bd h
 own:=λ⟨m,ad,l,_,h⟩=>by obtain⟨G,d,k⟩:=J6 (Yc _ m _ ad l) 0 rfl h;exact k _ d.2.1
 aB:=λ⟨m,ad,l,c,h⟩u z=>⟨m,ad,l,c,(Je (Yc _ m _ ad l)).aB h u z⟩
 more:=λ⟨m,ad,l,c,h⟩B q=>⟨m,ad,l,c,(Je (Yc _ m _ ad l)).more h B q⟩
theorem J0.opn{w}{F:Fp}{b:Nat}{f:Jc}(h:J0 w F b f):
  ∃m ad l,l.Perm f.all/\Qh w b #[.map (some m),ZU f.mark] 245/\∃G,Yn Jh.id Vj w G m ad l:=by
 obtain⟨m,ad,l,q,h⟩:=h;obtain⟨u,d,_⟩:=J6 (Yc _ m _ ad l) 0 rfl h;obtain⟨c,k,_⟩:=J6 (Yc _ m _ ad l) 1 rfl h;exact⟨m,ad,l,q,d.1,c,k⟩
theorem Jc.at_eq{f:Jc}{l:List Jh}(d:l.Perm f.all)(c:(l.map Jh.id).Nodup)(i:Int):f.at i=Hn Jh.id i l:=(Mz d c i).symm
theorem Qjt(w):(zeroValue 253).run prog w=.ok (.pointer none) w:=by go_simp
def atP(ad:Int->Nat)(i:Int)(o:Option Jh):Value:=match o with
 |none=>.pointer none
 |some _=>ptr (ad i)
theorem Qb2{w}{G:Fp}{b m:Nat}{v:Value}{ad:Int->Nat}{l:List Jh}(q:Qh w b #[.map (some m),v] 245)(d:Yn Jh.id Vj w G m ad l)(i:Int):
  ZW 213 #[ptr b,ZI i] w (atP ad i (Hn Jh.id i l)) λw'=>w=w':=by
 have c:=d.look i;have k:=Du (P:=prog) d.map underlying243 underlying3 (Qjt w) i;rw[c]at k;have u:((Hn Jh.id i l).map λ_=>ptr (ad i)).getD (.pointer none)=atP ad i (Hn Jh.id i l):=by cases Hn Jh.id i l<;>rfl
 rw[u]at k;generalize atP ad i (Hn Jh.id i l)=r at k|-;have z:=Q4 q;clear q d c u;apply WH func213;exact WE
theorem famAt{w}{G:Fp}{m:Nat}{ad:Int->Nat}{l:List Jh}(k:Yn Jh.id Vj w G m ad l){i:Int}{x:Jh}(u:Hn Jh.id i l=some x):∃p H,Qh w (ad i) (Pp x p) 255/\Yv w H p x.run:=by obtain⟨c,d⟩:=Y3 u;obtain⟨K,q,_⟩:=k.focus Vj.obj c;obtain⟨p,H,a,b,_⟩:=q.ex;exact⟨p,H,d▸a,b⟩
theorem Quf{w}{F:Fp}{b:Nat}{f:Jc}(h:J0 w F b f)(i:Int):ZW 244 #[ptr b,ZI i] w (ZU (f.v i:Nat)) λw'=>w=w':=by
 obtain⟨m,ad,l,u,q,G,d⟩:=h.opn;have c:=O (Qb2 q d i);unfold Jc.v;rw[Jc.at_eq u d.nodup];cases k:Hn Jh.id i l with
 |none=> rw[k]at c;dsimp only[atP,Option.map_none,Option.getD_none]at c|-;clear h u q d k;apply WH func244;go_wp2_with fail;apply Zy c;rintro w1 rfl;exact WE
 |some x=> obtain⟨p,H,z,_⟩:=famAt d k;have B:=X9 z;rw[k]at c;dsimp only[atP,Zn,Option.getD_some]at c|-;clear h u q d k z;apply WH func244;go_wp2_with fail;apply Zy c;rintro w1 rfl;exact WE
theorem Qjg{w}{F:Fp}{b:Nat}{f:Jc}(h:J0 w F b f)(i:Int):ZW 215 #[ptr b,ZI i] w (.bool (f.up i)) λw'=>w=w':=by
 obtain⟨m,ad,l,u,q,G,d⟩:=h.opn;have c:=O (Qb2 q d i);unfold Jc.up;rw[Jc.at_eq u d.nodup];cases k:Hn Jh.id i l with
 |none=> rw[k]at c;dsimp only[atP,Option.map_none,Option.getD_none]at c|-;clear h u q d k;apply WH func215;go_wp2_with fail;apply Zy c;rintro w1 rfl;exact WE
 |some x=> obtain⟨p,H,z,_⟩:=famAt d k;have B:=X9 z;rw[k]at c;dsimp only[atP,Zn,Option.getD_some]at c|-;clear h u q d k z;apply WH func215;go_wp2_with fail;apply Zy c;rintro w1 rfl;exact WE
theorem Qei(w):Cl 117 #[] w λe w'=>∃b,e=.returned (ptr b)/\J0 w' (Qn Qb w w') b ⟨[],0⟩/\Qc Qb w w':=by
 have z:=@run_makeMap prog;have d:Hi (∀w',w'=(w.alloc (.map #[] 0)).alloc (.cells #[.map (some w.heap.size),ZU 0] 245)->J0 w' (Qn Qb w w') (w.heap.size+1) ⟨[],0⟩/\Qc Qb w w'):=O (by
  rintro w' rfl;have q:Qh ((w.alloc (.map #[] 0)).alloc (.cells #[.map (some w.heap.size),ZU 0] 245)) (w.heap.size+1) #[.map (some w.heap.size),ZU 0] 245:=Qh.new' _ _ (by simp);have c:Xq ((w.alloc (.map #[] 0)).alloc (.cells #[.map (some w.heap.size),ZU 0] 245)) w.heap.size []:=(Xq.new w).aB ((Zg Qb _).alloc _) (λh=>h);refine⟨⟨w.heap.size,λ_=>0,[],List.Perm.refl _,?_⟩,((Zg _ _).alloc _).alloc _⟩;refine Q7 (G:=λk=>k=w.heap.size+1) (H:=λk=>k=w.heap.size) ⟨q,rfl,λk e=>e▸q.lt⟩ (Y6 (Yn.new c (λk e=>e▸c.lt) rfl) (λk e=>e▸c.lt)) ?_ ?_ ?_ (λk u=>u.elim (λh=>h.elim) (λh=>h.2));·rintro k rfl u;omega
  .rintro k rfl;exact .inr ⟨by omega,q.lt⟩
  .rintro k rfl;exact .inr ⟨by omega,c.lt⟩)
 unfold ptr;apply WH func117;go_wp2;go_ret;exact⟨_,rfl,d.o _ (by simp)⟩
theorem Fm{w}{F:Fp}{b:Nat}{l:List Xu}(h:Jg w F b l):ZW 77 #[ptr b] w (.tuple #[ZI (Wl l),.bool (!l.isEmpty)]) λw'=>Qc Qb w w':=by obtain⟨T,m,L,I,k,⟨G,q⟩,E⟩:=h.opn;have z:=O (Dp k);have c:=O (Qis q);generalize Qrf l=n at c;generalize Wl l=i at c|-;generalize(!l.isEmpty)=B at c|-;unfold ptr Yo at*;clear h I k q E;apply WH func77;go_wp2_with fail;apply Zy z;rintro w1 rfl;go_wp2_with fail;apply ZF c (λ_ d=>d.alloc (.cells #[ZU n,ZI i] 199));intro w1 u;go_wp2;go_ret2;refine ⟨rfl,u.o⟩
theorem Qkc{w}{F:Fp}{b:Nat}{l:List Xu}(h:Yq w F b l):ZW 42 #[ptr b] w (ZU ((Hk l:Nat):Int)) λw'=>Qc Qb w w':=by
 obtain⟨p,G,u,k,z⟩:=h.ex;have B:Hi (ZW 76 #[ptr p] w (ZU ((Hk l:Nat):Int)) λw'=>Qc Qb w w'):=O (by
  cases l with
  |nil=> have q:=O (Fm k);rw[show((Hk []:Nat):Int)=9223372036854775808 from rfl];dsimp only[Wl,List.head?_nil,Option.map_none,Option.getD_none,List.isEmpty_nil,Bool.not_true]at q;clear h u k z;apply WH func76;go_wp2_with fail;apply ZQ q;intro w1 d;exact WD d
  |cons e l=>
   obtain⟨n,i,v⟩:=e;have q:=O (Fm k);have K:=O (λw'(R:Qc Qb w w')=>Qn0 (Jg.obj.aB k R (Jl.none G)) n i v (List.mem_cons_self));rw[show Hk ((n,i,v)::l)=n from rfl];dsimp only[Wl,List.head?_cons,Zn,Option.getD_some,List.isEmpty_cons,Bool.not_false]at q;clear h u k z;apply WH func76;go_wp2_with fail;apply ZQ q;intro w1 d;go_wp2_with fail;apply Z9 (K.o _ d.o) (λ_ I=>d.o.aA I);intro w2 J;exact WD J)
 have E:Hi (ZW 75 #[ptr b,.func (.func 76) #[] #[],ZU 9223372036854775808] w (ZU ((Hk l:Nat):Int)) λw'=>Qc Qb w w'):=O (by
  have U:=Jf u;generalize((Hk l:Nat):Int)=v at B|-;clear h u k z;apply WH func75;go_wp2_with fail;apply ZQ B;intro w1 d;exact WD d)
 generalize((Hk l:Nat):Int)=v at E|-;clear h u k z;apply WH func42;go_wp2_with fail;apply ZQ E;intro w1 d;exact WD d
theorem Qmi{w:World}{g c:Nat}{x:Nat}(h:w.cell? ⟨g,0,none⟩=some (ZU x)):
  ZW 260 #[.slice (some ⟨g,0,none⟩) 1 c] w (ZU x) λw'=>Qc Qb w w':=by
 have h':w.drew.cell? ⟨g,0,none⟩=some (ZU x):=h;apply WH func260;go_wp2_with fail;refine wp_loop_rounds 1 ?_;rw[rounds_succ];go_wp2;go_ret;exact⟨rfl,Zg _ _⟩
section
attribute [local go_sem ↓] Yd
theorem Qjf{w:World}{g c:Nat}{own x:Nat}(h:w.cell? ⟨g,0,none⟩=some (ZU x)):
  ZW 246 #[ZU own,.slice (some ⟨g,0,none⟩) 1 c] w (ZU ((max own x:Nat):Int)) λw'=>Qc Qb w w':=by
 have q:=O (λ(w:World)(h:w.cell? ⟨g,0,none⟩=some (ZU x))=>Qmi (c:=c) h);have u:((max own x:Nat):Int)=max (own:Int) (x:Int):=by omega
 rw[u];apply WH func246;go_wp2_with fail;apply ZD (q.o _ h);intro w1 k;exact WD k
end
end Go.Proofs.YtigcnnkagkbflaaGreat
