/- A part of the proof: no condition. -/
import Derived.Test.YtnnhmpehkbihnaaGreatPk07
namespace Go.Proofs.YtnnhmpehkbihnaaGreat
set_option linter.unusedVariables false
set_option maxRecDepth 100000
set_option maxHeartbeats 4000000
open Go.RowKit
open Go.Proofs.Tryz
section
attribute [local go_sem] Qp
attribute [local go_sem ↓] X8 Yd
def Qqv(b H:Nat)(w:World)(r:Xh)(x h1 d c q Y u n:Nat)(i:Value)(wr:World):Prop:=
 (i=.int .i64 0∧Qh wr b (Pk r x h1 d n) 297∧Qh wr H #[.int .u64 Y,.int .u64 u] 319∧Qc (fun k=>k=b) w wr)∨
 (i=.int .i64 1∧Qh wr b (Pk r x c d n) 297∧Qh wr H #[.int .u64 c,.int .u64 u] 319∧Qc (fun k=>k=b) w wr)∨
 (i=.int .i64 2∧Qh wr b (Pk r x c q n) 297∧Qh wr H #[.int .u64 c,.int .u64 q] 319∧Qc (fun k=>k=b) w wr)
def Po(p:Bool)(a o:Nat):Nat:=if p then min a o else o
theorem Qdp{p:Bool}{n:Nat}(d:p=decide ((0:Int)<(n:Int)))(a o:Nat):(decide (0<n)=true∧decide (a<o)=true∧Po p a o=a)∨(decide (0<n)=true∧decide (a<o)=false∧Po p a o=o)∨(decide (0<n)=false∧Po p a o=o):=by
 unfold Po;subst d;by_cases h:0<n
 ·have h':(0:Int)<(n:Int):=by omega
  rw[if_pos (by simpa using h)];by_cases c:a<o;·exact .inl ⟨by simpa using h,by simpa using c,by omega⟩
  ·exact .inr (.inl ⟨by simpa using h,by simpa using c,by omega⟩)
 ·rw[if_neg (by simpa using h)];exact .inr (.inr ⟨by simpa using h,rfl⟩)
theorem Qjz{w}{F:Fp}{b:Nat}{r:Xh}(h:Ve w F b r)(hn:r.l.length<4611686018427387904)(x y:Nat)(hx:x<18446744073709551616)(hy:y<18446744073709551616):
  Cl 304 #[ptr b,.int .u64 x,.int .u64 y] w fun e w'=>e=.returned (.tuple #[])∧Ve w' (Qn F w w') b (r.start x y)∧Qc F w w':=by
 have hm:=h.may;have ae:=h.ok.last;obtain⟨X,hX⟩:=Zx (max (min x Qq) (Ji r.l));obtain⟨Y,hY⟩:=Zx (min y Xw);obtain⟨p,hp⟩:∃p:Bool,p=decide ((0:Int)<(r.l.length:Int)):=⟨_,rfl⟩;have K:r.l=[]↔p=false:=by rw[hp];cases r.l<;>simp
 obtain⟨c,af⟩:=Zx (min Xw (Y+(r.c.f-r.c.r)*r.c.l));obtain⟨d,hd⟩:=Zx (X-Ji r.l);have e1:=r.start_h1 h.ok x y;have e2:=r.start_h2 h.ok x y;rw[←hX,←hd,←hY]at e1 e2;rw[←af]at e2;obtain⟨a1,ab⟩:=Zx (Hb r.h1 r.c.f d);obtain⟨q,ac⟩:=Zx (Hb r.h2 r.c.r d);rw[←ab]at e1;rw[←ac]at e2;have f1:(r.start x y).h1=Po p a1 Y:=by
  rw[e1];unfold Po;cases p;·rw[if_pos (K.2 rfl)];simp
  ·rw[if_neg (fun h=>by have:=K.1 h;cases this)];simp
 have f2:(r.start x y).h2=Po p q c:=by
  rw[e2];unfold Po;cases p;·rw[if_pos (K.2 rfl)];simp
  ·rw[if_neg (fun h=>by have:=K.1 h;cases this)];simp
 clear e1 e2 K;have ao:=Yz;have aq:=Yf;have ap:(r.c.f-r.c.r)*r.c.l≤1048576*1099511627776:=Nat.mul_le_mul (by have:=hm.hf;omega) hm.hl;have HB:=O (L7 r.c);rw[decide_eq_true h.bent]at HB;have HU:=O (Qgr r.c hm h.bent);have HP:=O (Mm Y ((r.c.f-r.c.r)*r.c.l) (by omega) (by omega));rw[show Qa6 Y ((r.c.f-r.c.r)*r.c.l)=c by rw[af];exact Nat.min_comm _ _]at HP;have A1:=O (Qgl r.c.f r.h1 d (by have:=hm.hf;omega) r.h1_cap (by omega));have A2:=O (Qgl r.c.r r.h2 d (by have:=hm.hr;omega) r.h2_cap (by omega));rw[←ab]at A1;rw[←ac]at A2;have ag:∀w',Qh w' b (Pk r X (Po p a1 Y) (Po p q c) (r.l.length+1:Int)) 297→Qc (fun k=>k=b) w w'→Ve w' (Qn F w w') b (r.start x y)∧Qc F w w':=fun w' J hc=>by
  have ai:Qc F w w':=hc.sub (fun k hk=>by rw[hk];exact h.own);refine⟨⟨h.bd.ext ai,.inl h.own,hm,h.bent,h.ok.start x y,h.rise.start h.ok x y,?_⟩,ai⟩;rw[f1,f2];have e3:Ji (r.start x y).l=X:=by rw[hX];exact Of _ _ _
  rw[e3];have e4:((r.start x y).l.length:Int)=(r.l.length+1:Int):=by simp[Xh.start,Dg]
  rw[e4];exact J
 have HF:=O ag;have B0:=O h.blk;have an:=B0.o.lt;have av:IntKind.u64.wrap ((X:Int)-(Ji r.l:Int))=(d:Int):=by rw[IntWalk.u64_in _ (by omega)];omega
 have ar:max (min (x:Int) 9223372036854775808) (Ji r.l:Int)=(X:Int):=by omega
 have au:min (y:Int) 4611686018427387904=(Y:Int):=by omega
 unfold ptr cV at*;have N1:(decide (0<r.l.length)=true∧decide (a1<Y)=true∧Po p a1 Y=a1)∨(decide (0<r.l.length)=true∧decide (a1<Y)=false∧Po p a1 Y=Y)∨(decide (0<r.l.length)=false∧Po p a1 Y=Y):=Qdp hp a1 Y;have N2:(decide (0<r.l.length)=true∧decide (q<c)=true∧Po p q c=q)∨(decide (0<r.l.length)=true∧decide (q<c)=false∧Po p q c=c)∨(decide (0<r.l.length)=false∧Po p q c=c):=Qdp hp q c;have aj:=O N1;have ak:=O N2;clear N1 N2;generalize Po p a1 Y=n1 at*;generalize Po p q c=n2 at*;generalize r.l.length=n at*;generalize r.h1=al at*;generalize r.h2=am at*;generalize Ji r.l=x0 at*;generalize(r.c.f-r.c.r)*r.c.l=ov at*;clear ag f1 f2 ab ac hm h ap af ao aq hX hY hd hp ae;obtain⟨R,a1,q,U,V,Z,a6,a7,a8⟩:=Av B0.o;go_enter func304,ntmps304;go_wp2_with fail;refine Zz (HB.o _) ?_;intro w1 c1;have C1:=O c1;have B1:=O (c1.blk B0.o (fun h=>h));clear c1 R a1 q U V Z a6 a7 a8;obtain⟨R,a1,q,U,V,Z,a6,a7,a8⟩:=Av B1.o;go_wp2_with fail;refine Zz (HU.o _) ?_;intro w2 c2;have C2:=O (C1.o.aA c2);have B2:=O (c2.blk B1.o (fun h=>h));clear c2 C1 B1 R a1 q U V Z a6 a7 a8;go_wp2_with fail;with_reducible refine Zz (HP.o _) ?_
 intro w3 c3;have C3:=O ((C2.o.aA c3).alloc (.cells #[.int .u64 Y,.int .u64 c] 319));have L3:=O (Qh.new w3 #[.int .u64 Y,.int .u64 c] 319);have B3:=O ((c3.blk B2.o (fun h=>h)).alloc (.cells #[.int .u64 Y,.int .u64 c] 319));have hH:b<w3.heap.size:=Nat.lt_of_lt_of_le an ((C2.o.aA c3).size);have aa:=(C2.o.aA c3).size;clear c3 C2 B2;obtain⟨H,ah⟩:=Zx (w3.heap.size);go_wp2_with fail;rw[←ah]at L3 hH aa⊢;obtain⟨W,hW⟩:=Zx (w3.alloc (.cells #[.int .u64 Y,.int .u64 c] 319));rw[←hW]at L3 B3 C3⊢;clear hW ah;go_quiet (fail);go_wp2;go_loopw [52] (fun i wr=>Qqv b H w r x0 al am n1 n2 Y c n i wr) (fun i _=>2-(intOf i).toNat);case atStart=>exact .inl ⟨rfl,B3.o,L3.o,C3.o.none.drewN _⟩
 case round=>
  rcases hrel with hrel|hrel|hrel
  ·obtain⟨rfl,J,hh,hc⟩:=hrel;have C4:=O hc;have B4:=O J;have L4:=O hh;clear J hh hc;obtain⟨R,z,B,U,V,Z,a6,a7,a8⟩:=Av B4.o;obtain⟨g0,g1⟩:=Q4 L4.o;have i0:∀w,(Instr.index 353 (.agg #[.pointer (some ⟨b,5,none⟩),.pointer (some ⟨b,7,none⟩)]) (.int .i64 0)).run prog w=.ok (.pointer (some ⟨b,5,none⟩)) w:=fun _=>by kernel_rfl
   go_wp2_with fail;with_reducible refine Zz (A1.o _) ?_
   intro w4 I;have C5:=O (C4.o.aA I.none);have u:=O (I.blk B4.o (fun h=>h));have E:=O (I.blk L4.o (fun h=>h));have s5:=O I.size;clear I R z B U V Z a6 a7 a8 g0 g1;obtain⟨R,z,B,U,V,Z,a6,a7,a8⟩:=Av u.o;obtain⟨g0,g1⟩:=Q4 E.o;have zb:=u.o.frozen;have zH:=E.o.frozen;have s6:=u.o.lt;rcases aj.o with⟨q1,q2,rfl⟩|⟨q1,q2,rfl⟩|⟨q1,rfl⟩
   ·go_wp2;go_roundw;case rel=>exact .inr (.inl ⟨rfl,(u.o.other _ (Nat.ne_of_gt hH)).set' 6 _ rfl,(E.o.set' 0 _ rfl).other _ (Nat.ne_of_lt hH),(C5.o.setCell _ (.inr aa)).setCell _ (.inl rfl)⟩)
    case measure=>decide
   ·go_wp2;go_roundw;case rel=>exact .inr (.inl ⟨rfl,u.o.set' 6 _ rfl,E.o.other _ (Nat.ne_of_lt hH),C5.o.setCell _ (.inl rfl)⟩)
    case measure=>decide
   ·go_wp2;go_roundw;case rel=>exact .inr (.inl ⟨rfl,u.o.set' 6 _ rfl,E.o.other _ (Nat.ne_of_lt hH),C5.o.setCell _ (.inl rfl)⟩)
    case measure=>decide
  ·obtain⟨rfl,J,hh,hc⟩:=hrel;have C4:=O hc;have B4:=O J;have L4:=O hh;clear J hh hc;obtain⟨R,z,B,U,V,Z,a6,a7,a8⟩:=Av B4.o;obtain⟨g0,g1⟩:=Q4 L4.o;have i0:∀w,(Instr.index 353 (.agg #[.pointer (some ⟨b,5,none⟩),.pointer (some ⟨b,7,none⟩)]) (.int .i64 1)).run prog w=.ok (.pointer (some ⟨b,7,none⟩)) w:=fun _=>by kernel_rfl
   go_wp2_with fail;with_reducible refine Zz (A2.o _) ?_
   intro w4 I;have C5:=O (C4.o.aA I.none);have u:=O (I.blk B4.o (fun h=>h));have E:=O (I.blk L4.o (fun h=>h));have s5:=O I.size;clear I R z B U V Z a6 a7 a8 g0 g1;obtain⟨R,z,B,U,V,Z,a6,a7,a8⟩:=Av u.o;obtain⟨g0,g1⟩:=Q4 E.o;have zb:=u.o.frozen;have zH:=E.o.frozen;have s6:=u.o.lt;rcases ak.o with⟨q1,q2,rfl⟩|⟨q1,q2,rfl⟩|⟨q1,rfl⟩
   ·go_wp2;go_roundw;case rel=>exact .inr (.inr ⟨rfl,(u.o.other _ (Nat.ne_of_gt hH)).set' 8 _ rfl,(E.o.set' 1 _ rfl).other _ (Nat.ne_of_lt hH),(C5.o.setCell _ (.inr aa)).setCell _ (.inl rfl)⟩)
    case measure=>decide
   ·go_wp2;go_roundw;case rel=>exact .inr (.inr ⟨rfl,u.o.set' 8 _ rfl,E.o.other _ (Nat.ne_of_lt hH),C5.o.setCell _ (.inl rfl)⟩)
    case measure=>decide
   ·go_wp2;go_roundw;case rel=>exact .inr (.inr ⟨rfl,u.o.set' 8 _ rfl,E.o.other _ (Nat.ne_of_lt hH),C5.o.setCell _ (.inl rfl)⟩)
    case measure=>decide
  ·obtain⟨rfl,J,hh,hc⟩:=hrel;have zb:=J.frozen;obtain⟨R,z,B,U,V,Z,a6,a7,a8⟩:=Av J;go_wp2;exact bodyPost_end (results_none rfl _ _ _) rfl ⟨rfl,HF.o _ ((J.set' 4 _ rfl).set' 3 _ rfl) ((hc.setCell _ (.inl rfl)).setCell _ (.inl rfl))⟩
end
end Go.Proofs.YtnnhmpehkbihnaaGreat
