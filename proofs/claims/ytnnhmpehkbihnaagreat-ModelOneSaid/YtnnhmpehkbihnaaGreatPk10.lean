/- A part of the proof: no condition. -/
import Derived.Test.YtnnhmpehkbihnaaGreatPk09
namespace Go.Proofs.YtnnhmpehkbihnaaGreat
set_option linter.unusedVariables false
set_option maxRecDepth 100000
set_option maxHeartbeats 4000000
open Go.RowKit
open Go.Proofs.Tryz
section
attribute [local go_sem] Qp
theorem Iq{w}{b:Nat}{x:Nd}{c:Bool}{r:Tr}(hs:Kc w b (.aD x c .nil r)):
  Cl 249 #[ptr b,ptr x.a] w fun e w'=>e=.returned (.pointer none)∧w=w':=by
 obtain⟨q,a1,u,z,B,E,k,I⟩:=Ja hs.at'.1;unfold ptr at*;have d:Tr.nil.aH=.pointer none:=rfl;rw[d]at k;clear hs d;go_enter func249,ntmps249;go_wp2;go_ret;exact⟨rfl,rfl⟩
theorem Lu{w}{b:Nat}{x R y:Nd}{c Z cy:Bool}{yl yr r l1 r1 l':Tr}(hs:Kc w b (.aD x c (.aD y cy yl yr) r))(hp:Fl (.aD x c (.aD y cy yl yr) r) (.aD R Z l1 r1))(K:∀k,k∈l'.aC→k∈l1.aC)
  (ih:∀w',Kc w' b l1→Cl 249 #[ptr b,l1.aH] w' fun e w2=>e=.returned l'.aH∧Kc w2 b l'∧Qc (fun k=>k∈l1.aC) w' w2):
  Cl 249 #[ptr b,ptr x.a] w fun e w'=>e=.returned (Gs (.aD R Z l' r1)).aH∧Kc w' b (Gs (.aD R Z l' r1))∧Qc (fun k=>k∈(Tr.aD x c (.aD y cy yl yr) r).aC) w w':=by
 have HL:=O (Kf _ hs.at'.2.1);have U:=O (Kf yl hs.at'.2.1.2.1);have hX:=hs.at'.1;have hY:=hs.at'.2.1.1;have H0:=O hs;have HP:=O hp;have af:=O hp.aC;have IH:=O ih;have E:=O K;obtain⟨a0,a1,a2,a3,a4,a5,V,a7⟩:=Ja hX;obtain⟨b0,b1,b2,b3,b4,b5,b6,b7⟩:=Ja hY;have ai:(Tr.aD y cy yl yr).aH=.pointer (some ⟨y.a,0,none⟩):=rfl;have aj:(Tr.aD y cy yl yr).red=cy:=rfl;rw[ai]at V HL;rw[aj]at HL;unfold ptr at*;clear hs hX hY hp ai aj ih K;go_enter func249,ntmps249;go_upto_region 3 with fail;go_cut [26] (fun an wz=>an=.bool (!(cy||yl.red))∧wz=w)
 case first=>
  cases hc:cy<;>cases hl:yl.red;all_goals rw[hc]at HL
  all_goals rw[hl]at U
  all_goals
   go_wp2_with fail;refine Zy HL ?_;rintro w1 rfl;go_wp2_with fail;try
    refine Zy U ?_;rintro w1 rfl;go_wp2_with fail
   go_meet;exact⟨by rw[hc,hl];rfl,rfl⟩
 case rest=>
  obtain⟨rfl,al⟩:=hcut;rw[al];clear al wc a0 a1 a2 a3 a4 a5 V a7 b0 b1 b2 b3 b4 b5 b6 b7 HL U;go_upto_if 26 with fail;go_cut [1] (fun v1 wz=>v1=.pointer (some ⟨R.a,0,none⟩)∧Kc wz b (.aD R Z l1 r1)∧Qc (fun k=>k∈(Tr.aD x c (.aD y cy yl yr) r).aC) w wz)
  case first=>
   cases J:(cy||yl.red);·have HC:=O (Tf HP.o J H0.o);unfold ptr at HC;clear J;go_wp2_with fail;refine Zy HC ?_;rintro w1⟨d,Z⟩;have I1:=O (Zt d Z);clear d Z;go_wp2_with fail;go_meet;exact⟨rfl,I1.o⟩
   ·have hh:=HP.o;cases hh with
    |A _ y z yl yr zl zr h1 h2=>simp[h1]at J
    |B _ y z u yl yr ul ur zr h1=>simp[h1]at J
    |no _ _ _ _ h=> clear h J;go_wp2_with fail;go_meet;exact⟨rfl,H0.o,Zg _ _⟩
  case rest=>
   obtain⟨rfl,d,aa⟩:=hcut;obtain⟨w1,ak⟩:=Zx wc;rw[←ak]at d aa⊢;have I1:=O d;have C1:=O aa;have hX:=d.at'.1;obtain⟨a0,a1,a2,a3,a4,a5,V,a7⟩:=Ja hX;have ac:=IH.o _ d.left;have ag:=d.nd;simp only[Tr.aC,List.nodup_cons,Zl,Zu,not_or,List.nodup_append]at ag;have am:=O (show R.a∉l1.aC by grind);obtain⟨pl,ah⟩:=l1.ptrV_any;rw[ah]at V ac;clear ak H0 HP IH ag d aa hX ah;go_wp2_with fail;refine Zz ac ?_;rintro w6⟨i6,c6⟩;have B6:=c6.blk I1.o.at'.1 am.o;clear a0 a1 a2 a3 a4 a5 V a7 ac;obtain⟨a0,a1,a2,a3,a4,a5,V,a7⟩:=Ja B6;have f6:=B6.frozen;have FX:=O (fun w7(e:w7=w6.setCell ⟨R.a,6,none⟩ l'.aH)=>I1.o.setL i6 c6 (fun _ h=>h) (fun k I=>.inl (E.o k I)) e);obtain⟨q,J⟩:=l'.ptrV_any;rw[J]at FX⊢;clear i6 c6 B6 J;go_wp2_with fail;obtain⟨w7,ab⟩:=Zx (w6.setCell ⟨R.a,6,none⟩ (.pointer q));rw[←ab];obtain⟨i7,c7⟩:=FX.o _ ab;have hb:=Ek i7;unfold ptr at hb;clear ab a0 a1 a2 a3 a4 a5 V a7 f6 FX;refine Zz hb ?_;rintro w8⟨i8,c8⟩;have ae:Qc (fun k=>k∈(Tr.aD x c (.aD y cy yl yr) r).aC) w w8:=by
    rw[af.o]at c7;refine(C1.o.aA c7).aA (c8.sub fun k I=>?_);rw[←af.o];simp only[Tr.aC,Zl,Zu]at I⊢;rcases I with I|rfl|I;·exact .inl (E.o _ I)
    ·exact .inr (.inl rfl)
    ·exact .inr (.inr I)
   have HF:=O ae;have HI:=O i8;clear i8 c8 ae i7 c7 hb;go_wp2;go_ret;exact⟨rfl,HI.o,HF.o⟩
theorem Rk{b:Nat}{t E:Tr}(d:DropFirst t E):∀{w}(hs:Kc w b t),Cl 249 #[ptr b,t.aH] w fun e w'=>e=.returned E.aH∧Kc w' b E∧Qc (fun k=>k∈t.aC) w w':=by
 induction d with
 |last x c r=> intro w hs;refine Zz (Iq hs) ?_;rintro w' rfl;exact⟨rfl,⟨hs.top,by have:=hs.nd;simp[Tr.aC],trivial⟩,Zg _ _⟩
 |stay x c l r l' J d B=>
  intro w hs;cases l with
  |nil=>simp[Tr.red,Tr.left]at J
  |aD y cy yl yr=>exact Lu hs (.no x c _ r J) (fun k q=>(Kh d).subset q) fun w' h=>B h
 |turnA x y z yl yr V I l' h1 K d B=>exact fun hs=>Lu hs (.A x y z yl yr V I h1 K) (fun k q=>(Kh d).subset q) fun w' h=>B h
 |turnB x y z u yl yr R U I l' h1 d B=>exact fun hs=>Lu hs (.B x y z u yl yr R U I h1) (fun k q=>(Kh d).subset q) fun w' h=>B h
theorem Qff{w}{b:Nat}{x x1 y:Nd}{c c1 cy:Bool}{yl yr r l1 r1 l':Tr}(n:Nat)(i:Int)(Xg:lt n i x=true)(hs:Kc w b (.aD x c (.aD y cy yl yr) r))(hp:Fl (.aD x c (.aD y cy yl yr) r) (.aD x1 c1 l1 r1))(Z:∀k,k∈l'.aC→k∈l1.aC)
  (ih:∀w',Kc w' b l1→Cl 236 #[ptr b,l1.aH,Yo n i] w' fun e w2=>e=.returned l'.aH∧Kc w2 b l'∧Qc (fun k=>k∈l1.aC) w' w2):
  Cl 236 #[ptr b,ptr x.a,Yo n i] w fun e w'=>e=.returned (Gs (.aD x1 c1 l' r1)).aH∧Kc w' b (Gs (.aD x1 c1 l' r1))∧Qc (fun k=>k∈(Tr.aD x c (.aD y cy yl yr) r).aC) w w':=by
 obtain⟨k,E⟩:=Zx (w.heap.size);have K0:=O (Qh.new w #[.int .u64 n,.int .i64 i] 204);have C0:=O ((Zg Qb w).alloc (.cells #[.int .u64 n,.int .i64 i] 204));have HS:=O (fun w'(hc:Qc Qb w w')=>hs.aB hc (fun _ _ h=>h));have d:=O (fun w=>Gu n i x w);rw[Xg]at d;have HP:=O hp;have ag:=O hp.aC;have IH:=O ih;have R:=O Z;have ak:=Jw.lt _ hs.at';have aq:=O (show∀a∈(Tr.aD x c (.aD y cy yl yr) r).aC,a≠k from fun a ha e=>by have:=ak a ha;omega);simp only[←E]at K0;have am:(Tr.aD y cy yl yr).aH=.pointer (some ⟨y.a,0,none⟩):=rfl;have an:(Tr.aD y cy yl yr).red=cy:=rfl;have ai:=O am;have aj:=O an;unfold ptr Yo at*;clear hs hp ih Xg ak Z am an;go_enter func236,ntmps236;go_wp2_with fail;rw[←E];obtain⟨W,hW⟩:=Zx (w.alloc (.cells #[.int .u64 n,.int .i64 i] 204));rw[←hW]at K0 C0⊢;clear hW E;have S0:=HS.o _ C0.o;have E1:=fun x=>Q4 (Qk (S:=Qb) K0.o (fun h=>h) x);have E2:=fun x=>Ja (Qk (S:=Qb) S0.at'.1 (fun h=>h) x);clear S0;refine Qu [] [0,1,2,3,4] [5] [] (Qz (Qb) (W)) Zq (by kernel_rfl) (fun _ _ _ _ _ h=>h) (Qd (by(repeat' (first|(with_reducible first|exact Zg _ _|assumption|refine Zh ?_ _|refine Zi ?_ _|refine Zj ?_|refine Zk ?_ _ ?_|(apply Or.inl;rfl))|(apply Or.inl;simp;done)|(apply Or.inr;simp;first|done|omega))))) ?_;simp only[pick,Zf,Ze,Zd];refine Qg ?_;iterate 5 (refine Ql (fun K U=>?_);go_simp;refine U _ ?_;clear U K)
 refine Qg ?_;intro _ ab;obtain⟨xo,I⟩:=ab;subst I;simp only[Jd];have c3:=O (Qv Qb W xo);generalize Qz Qb W xo=w3 at c3⊢;clear E1 E2;go_wp2_with fail;refine Zz (d.o _) ?_;intro w4 d4;have c4:=O (c3.o.aA d4);clear d4;go_wp2;refine⟨Qd c4.o,?_⟩;go_upto_region 2 with fail;have K4:=O (c4.o.blk K0.o (fun h=>h));have C4:=O (C0.o.aA c4.o);have S4:=O (HS.o _ C4.o);clear c3 c4 K0 C0 d HS;go_cut [30] (fun av wz=>av=.bool (!(cy||yl.red))∧wz=w4)
 case first=>
  have HL:=O (Kf _ S4.o.at'.2.1);have ah:=O (Kf yl S4.o.at'.2.1.2.1);obtain⟨a0,a1,a2,a3,a4,a5,a6,a7⟩:=Ja S4.o.at'.1;obtain⟨b0,b1,b2,b3,b4,b5,b6,b7⟩:=Ja S4.o.at'.2.1.1;rw[ai.o]at a6 HL;rw[aj.o]at HL;cases hc:cy<;>cases hl:yl.red;all_goals rw[hc]at HL
  all_goals rw[hl]at ah
  all_goals
   go_wp2_with fail;refine Zy HL ?_;rintro w1 rfl;go_wp2_with fail;try
    refine Zy ah ?_;rintro w1 rfl;go_wp2_with fail
   go_meet;exact⟨by rw[hc,hl];rfl,rfl⟩
 case rest=>
  obtain⟨rfl,ap⟩:=hcut;rw[ap];clear ap wc ai aj;go_upto_if 30 with fail;go_cut [1] (fun v1 wz=>v1=.pointer (some ⟨x1.a,0,none⟩)∧Kc wz b (.aD x1 c1 l1 r1)∧Qc (fun k=>k∈(Tr.aD x c (.aD y cy yl yr) r).aC) w4 wz)
  case first=>
   cases V:(cy||yl.red);·have HC:=O (Tf HP.o V S4.o);unfold ptr at HC;clear V;go_wp2_with fail;refine Zy HC ?_;rintro w1⟨i1,c1⟩;have I1:=O (Zt i1 c1);clear i1 c1;go_wp2_with fail;go_meet;exact⟨rfl,I1.o⟩
   ·have hh:=HP.o;cases hh with
    |A _ y z yl yr zl zr h1 h2=>simp[h1]at V
    |B _ y z u yl yr ul ur zr h1=>simp[h1]at V
    |no _ _ _ _ h=> clear h V;go_wp2_with fail;go_meet;exact⟨rfl,S4.o,Zg _ _⟩
  case rest=>
   obtain⟨rfl,i1,J⟩:=hcut;obtain⟨w1,ao⟩:=Zx wc;rw[←ao]at i1 J⊢;have K1:=O (J.blk K4.o (fun h=>aq.o _ h rfl));have I1:=O i1;have C1:=O (C4.o.none.aA J);have al:=i1.nd;simp only[Tr.aC,List.nodup_cons,Zl,Zu,not_or,List.nodup_append]at al;have au:=O (show x1.a∉l1.aC by grind);obtain⟨pl,aa⟩:=l1.ptrV_any;have ar:=O aa;have E1:=fun x=>Q4 (Qk (S:=Qb) K1.o (fun h=>h) x);have E2:=fun x=>Ja (Qk (S:=Qb) I1.o.at'.1 (fun h=>h) x);rw[aa]at E2;clear ao HP al i1 J aa K4 C4 S4;go_wp2_with fail;refine Ka [1,2,3,4,5,6] [0] [7,8,9,10] (Qz (Qb) (w1)) Zq (by kernel_rfl) (fun _ _ _ _ _ h=>h) (Qd (by(repeat' (first|(with_reducible first|exact Zg _ _|assumption|refine Zh ?_ _|refine Zi ?_ _|refine Zj ?_|refine Zk ?_ _ ?_|(apply Or.inl;rfl))|(apply Or.inl;simp;done)|(apply Or.inr;simp;first|done|omega))))) ?_;simp only[pick,Zf,Ze,Zd];iterate 6 (refine Ql (fun K U=>?_);go_simp;refine U _ ?_;clear U K)
   refine Qg ?_;iterate 1 (refine Ql (fun K U=>?_);go_simp;refine U _ ?_;clear U K)
   refine Qg ?_;intro _ ab;obtain⟨xo,I⟩:=ab;subst I;have c5:=O (Qv Qb w1 xo);generalize Qz Qb w1 xo=w5 at c5⊢;clear E1 E2;have C5:=O (C1.o.aA c5.o.none);have I5:=O (I1.o.aB c5.o (fun _ _ h=>h));have ae:=IH.o _ I5.o.left;rw[ar.o]at ae;clear IH K1 c5 C1 I1;go_wp2_with fail;refine Zz ae ?_;rintro w6⟨i6,c6⟩;have B6:=c6.blk I5.o.at'.1 au.o;obtain⟨a0,a1,a2,a3,a4,a5,a6,a7⟩:=Ja B6;have f6:=B6.frozen;have FX:=O (fun w7(e:w7=w6.setCell ⟨x1.a,6,none⟩ l'.aH)=>I5.o.setL i6 c6 (fun _ h=>h) (fun k E=>.inl (R.o k E)) e);obtain⟨q,V⟩:=l'.ptrV_any;rw[V]at FX⊢;clear i6 c6 B6 V ae;go_wp2_with fail;obtain⟨w7,ac⟩:=Zx (w6.setCell ⟨x1.a,6,none⟩ (.pointer q));rw[←ac];obtain⟨i7,c7⟩:=FX.o _ ac;have hb:=Ek i7;unfold ptr at hb;clear ac a0 a1 a2 a3 a4 a5 a6 a7 f6 FX;refine Zz hb ?_;rintro w8⟨i8,c8⟩;have af:Qc (fun k=>k∈(Tr.aD x c (.aD y cy yl yr) r).aC) w w8:=by
    rw[ag.o]at c7;refine(C5.o.aA c7).aA (c8.sub fun k E=>?_);rw[←ag.o];simp only[Tr.aC,Zl,Zu]at E⊢;rcases E with E|rfl|E;·exact .inl (R.o _ E)
    ·exact .inr (.inl rfl)
    ·exact .inr (.inr E)
   have HF:=O af;have HI:=O i8;clear i8 c8 af i7 c7 hb;go_wp2;go_ret;exact⟨rfl,HI.o,HF.o⟩
end
section
attribute [local go_sem] Qp
theorem Qg0:prog.eqGuardType prog.depth 204=false:=by kernel_rfl
theorem Qqg:prog.stoodInHeld 204=false:=by kernel_rfl
section
attribute [local go_sem] Qg0 Qqg
theorem Vw(a b c d:Int)(w):(binOp .eql 204 (.agg #[.int .u64 a,.int .i64 b]) (.agg #[.int .u64 c,.int .i64 d])).run prog w=.ok (.bool ((a==c)&&(b==d))) w:=by
 by_cases h:a=c
 ·by_cases k:b=d;·subst h k;go_simp
  ·subst h;have e:(a==a&&b==d)=false:=by simpa using k
   rw[e];go_simp;try simp[k]
 ·have e:(a==c&&b==d)=false:=by simp[h]
  rw[e];go_simp;try simp[h]
theorem Vx(a b c d:Int)(w):(binOp .neq 204 (.agg #[.int .u64 a,.int .i64 b]) (.agg #[.int .u64 c,.int .i64 d])).run prog w=.ok (.bool (!((a==c)&&(b==d)))) w:=by
 by_cases h:a=c
 ·by_cases k:b=d;·subst h k;go_simp
  ·subst h;have e:(a==a&&b==d)=false:=by simpa using k
   rw[e];go_simp;try simp[k]
 ·have e:(a==c&&b==d)=false:=by simp[h]
  rw[e];go_simp;try simp[h]
end
attribute [local go_sem ↓] Vw Vx
theorem Qhm{x:Nd}{n:Nat}{i:Int}(h:¬(x.n=n∧x.i=i)):(((x.n:Int)==(n:Int))&&(x.i==i))=false:=by
 cases c:(((x.n:Int)==(n:Int))&&(x.i==i))with
 |false=>rfl
 |true=> simp only[Zw,beq_iff_eq]at c;exact absurd ⟨by omega,c.2⟩ h
theorem Cf{x:Nd}{n:Nat}{i:Int}(h:x.n=n∧x.i=i):(((x.n:Int)==(n:Int))&&(x.i==i))=true:=by obtain⟨rfl,rfl⟩:=h;simp
theorem Kc.take{w w1 w2}{b:Nat}{x:Nd}{c:Bool}{l r:Tr}{e:Nat×Int×Nat}(hs:Kc w b (.aD x c l r))(h0:Qc Qb w w1)
  (q:w2=((w1.setCell ⟨x.a,0,none⟩ (.int .u64 e.1)).setCell ⟨x.a,1,none⟩ (.int .i64 e.2.1)).setCell ⟨x.a,2,none⟩ (.int .u64 e.2.2)):
  Kc w2 b (.aD (x.as e) c l r)∧Qc (fun k=>k∈(Tr.aD x c l r).aC) w w2:=by
 subst q;have hc:Qc (fun k=>k=x.a) w (((w1.setCell ⟨x.a,0,none⟩ (.int .u64 e.1)).setCell ⟨x.a,1,none⟩ (.int .i64 e.2.1)).setCell ⟨x.a,2,none⟩ (.int .u64 e.2.2)):=(((h0.none (F:=fun k=>k=x.a)).setCell (a:=⟨x.a,0,none⟩) _ (.inl rfl)).setCell (a:=⟨x.a,1,none⟩) _ (.inl rfl)).setCell (a:=⟨x.a,2,none⟩) _ (.inl rfl);have d:=hs.nd;simp only[Tr.aC,List.nodup_cons,Zl,Zu,not_or,List.nodup_append]at d;refine⟨⟨hs.top.aB hc (by grind),hs.nd,(((h0.blk hs.at'.1 (fun h=>h)).set' 0 _ rfl).set' 1 _ rfl).set' 2 _ rfl,Jw.aB hc l hs.at'.2.1 (by grind),Jw.aB hc r hs.at'.2.2 (by grind)⟩,hc.sub ?_⟩;rintro k rfl;simp[Tr.aC]
theorem Qk8{w}{b:Nat}{x:Nd}{c:Bool}{l:Tr}(n:Nat)(i:Int)(Xg:lt n i x=false)(hl:l.red=false)(hx:x.n=n∧x.i=i)(hs:Kc w b (.aD x c l .nil)):
  Cl 236 #[ptr b,ptr x.a,Yo n i] w fun e w'=>e=.returned (.pointer none)∧Qc Qb w w':=by
 obtain⟨k,hk⟩:=Zx (w.heap.size);have z:=O (Qh.new w #[.int .u64 n,.int .i64 i] 204);have R:=O ((Zg Qb w).alloc (.cells #[.int .u64 n,.int .i64 i] 204));have HS:=O (fun w'(hc:Qc Qb w w')=>hs.aB hc (fun _ _ h=>h));have d:=O (fun w=>Gu n i x w);rw[Xg]at d;have E:=Jw.lt _ hs.at';have aa:=O (Cf hx);have ab:=O hl;have af:=O (show∀a∈(Tr.aD x c l .nil).aC,a≠k from fun a ha e=>by have:=E a ha;omega);simp only[←hk]at z;have I:Tr.nil.aH=.pointer none:=rfl;have ac:=O I;unfold ptr Yo at*;clear hs Xg E hx hl I;go_enter func236,ntmps236;go_wp2_with fail;rw[←hk];obtain⟨W,hW⟩:=Zx (w.alloc (.cells #[.int .u64 n,.int .i64 i] 204));rw[←hW]at z R⊢;clear hW hk;have S0:=HS.o _ R.o;have Z:=fun x=>Q4 (Qk (S:=Qb) z.o (fun h=>h) x);have U:=fun x=>Ja (Qk (S:=Qb) S0.at'.1 (fun h=>h) x);clear S0;refine Qu [] [0,1,2,3,4] [5] [] (Qz (Qb) (W)) Zq (by kernel_rfl) (fun _ _ _ _ _ h=>h) (Qd (by(repeat' (first|(with_reducible first|exact Zg _ _|assumption|refine Zh ?_ _|refine Zi ?_ _|refine Zj ?_|refine Zk ?_ _ ?_|(apply Or.inl;rfl))|(apply Or.inl;simp;done)|(apply Or.inr;simp;first|done|omega))))) ?_;simp only[pick,Zf,Ze,Zd];refine Qg ?_;iterate 5 (refine Ql (fun K B=>?_);go_simp;refine B _ ?_;clear B K)
 refine Qg ?_;intro _ u;obtain⟨J,q⟩:=u;subst q;simp only[Jd];have c3:=O (Qv Qb W J);generalize Qz Qb W J=w3 at c3⊢;clear Z U;go_wp2_with fail;refine Zz (d.o _) ?_;intro w4 d4;have V:=O (c3.o.aA d4);clear d4;go_wp2;refine⟨Qd V.o,?_⟩;go_upto_region 6 with fail;have K4:=O (V.o.blk z.o (fun h=>h));have C4:=O (R.o.aA V.o);have S4:=O (HS.o _ C4.o);clear c3 V z R d;have HL:=O (Kf _ S4.o.at'.2.1);rw[ab.o]at HL;obtain⟨a0,a1,a2,a3,a4,a5,a6,a7⟩:=Ja S4.o.at'.1;go_wp2_with fail;refine Zy HL ?_;rintro w5 rfl;clear a0 a1 a2 a3 a4 a5 a6 a7;have Z:=fun x=>Q4 (Qk (S:=Qb) K4.o (fun h=>h) x);have U:=fun x=>Ja (Qk (S:=Qb) S4.o.at'.1 (fun h=>h) x);rw[ac.o]at U;have ae:=aa.o;go_wp2_with fail;refine Qu [] [0,1,2,3,4,5,6,7,8,9,10,11,12] [] [] (Qz (Qb) (w4)) Zq (by kernel_rfl) (fun _ _ _ _ _ h=>h) (Qd (by(repeat' (first|(with_reducible first|exact Zg _ _|assumption|refine Zh ?_ _|refine Zi ?_ _|refine Zj ?_|refine Zk ?_ _ ?_|(apply Or.inl;rfl))|(apply Or.inl;simp;done)|(apply Or.inr;simp;first|done|omega))))) ?_;simp only[pick,Zf,Ze,Zd];refine Qg ?_;iterate 13 (refine Ql (fun K B=>?_);go_simp;refine B _ ?_;clear B K)
 refine Qg ?_;intro _ u;obtain⟨J,q⟩:=u;subst q;simp only[Jd];have c5:=O (Qv Qb w4 J);generalize Qz Qb w4 J=w5 at c5⊢;clear Z U ae;go_wp2;go_ret;exact⟨rfl,C4.o.aA c5.o⟩
theorem Ss{w}{b:Nat}{x x1 x2 x3 z:Nd}{c c1 c2 cz:Bool}{l r l1 zl zr l2 J r':Tr}(n:Nat)(i:Int)(Xg:lt n i x=false)(hs:Kc w b (.aD x c l r))
  (ap:Bu (.aD x c l r) (.aD x1 c1 l1 (.aD z cz zl zr))) (az:Tq (.aD x1 c1 l1 (.aD z cz zl zr)) (.aD x2 c2 l2 J)) (bl:J≠ .nil) (au:∀k,k∈r'.aC→k∈J.aC)
  (hE:(¬(x2.n=n∧x2.i=i)∧x3=x2∧∀w',Kc w' b J→Cl 236 #[ptr b,J.aH,Yo n i] w' fun e w2=>e=.returned r'.aH∧Kc w2 b r'∧Qc (fun k=>k∈J.aC) w' w2)∨
   ((x2.n=n∧x2.i=i)∧x3=x2.as J.first∧∀w',Kc w' b J→Cl 249 #[ptr b,J.aH] w' fun e w2=>e=.returned r'.aH∧Kc w2 b r'∧Qc (fun k=>k∈J.aC) w' w2)):
  Cl 236 #[ptr b,ptr x.a,Yo n i] w fun e w'=>e=.returned (Gs (.aD x3 c2 l2 r')).aH∧Kc w' b (Gs (.aD x3 c2 l2 r'))∧Qc (fun k=>k∈(Tr.aD x c l r).aC) w w':=by
 obtain⟨k,R⟩:=Zx (w.heap.size);have K0:=O (Qh.new w #[.int .u64 n,.int .i64 i] 204);have C0:=O ((Zg Qb w).alloc (.cells #[.int .u64 n,.int .i64 i] 204));have HS:=O (fun w'(hc:Qc Qb w w')=>hs.aB hc (fun _ _ h=>h));have aa:=O (fun w=>Gu n i x w);rw[Xg]at aa;have bi:=Jw.lt _ hs.at';have bf:=O (show∀a∈(Tr.aD x c l r).aC,a≠k from fun a ha e=>by have:=bi a ha;omega);simp only[←R]at K0;have aw:=O ap;have ax:=O az;have ar:=O ap.aC;have ai:=O (az.aC.trans ap.aC);have HE:=O hE;have af:=O au;have bg:=O bl;unfold ptr Yo at*;clear hs Xg bi ap az hE au bl;go_enter func236,ntmps236;go_wp2_with fail;rw[←R];obtain⟨W,hW⟩:=Zx (w.alloc (.cells #[.int .u64 n,.int .i64 i] 204));rw[←hW]at K0 C0⊢;clear hW R;have S0:=HS.o _ C0.o;have E1:=fun x=>Q4 (Qk (S:=Qb) K0.o (fun h=>h) x);have E2:=fun x=>Ja (Qk (S:=Qb) S0.at'.1 (fun h=>h) x);clear S0;refine Qu [] [0,1,2,3,4] [5] [] (Qz (Qb) (W)) Zq (by kernel_rfl) (fun _ _ _ _ _ h=>h) (Qd (by(repeat' (first|(with_reducible first|exact Zg _ _|assumption|refine Zh ?_ _|refine Zi ?_ _|refine Zj ?_|refine Zk ?_ _ ?_|(apply Or.inl;rfl))|(apply Or.inl;simp;done)|(apply Or.inr;simp;first|done|omega))))) ?_;simp only[pick,Zf,Ze,Zd];refine Qg ?_;iterate 5 (refine Ql (fun K E=>?_);go_simp;refine E _ ?_;clear E K)
 refine Qg ?_;intro _ I;obtain⟨xo,d⟩:=I;subst d;simp only[Jd];have c3:=O (Qv Qb W xo);generalize Qz Qb W xo=w3 at c3⊢;clear E1 E2;go_wp2_with fail;refine Zz (aa.o _) ?_;intro w4 d4;have c4:=O (c3.o.aA d4);clear d4;go_wp2;refine⟨Qd c4.o,?_⟩;go_upto_region 6 with fail;have K4:=O (c4.o.blk K0.o (fun h=>h));have C4:=O (C0.o.aA c4.o);have S4:=O (HS.o _ C4.o);clear c3 c4 K0 C0 aa HS;have HL:=O (Kf _ S4.o.at'.2.1);obtain⟨a0,a1,a2,a3,a4,a5,a6,a7⟩:=Ja S4.o.at'.1;obtain⟨pl,bk⟩:=l.ptrV_any;rw[bk]at a6 HL;clear bk;go_wp2_with fail;refine Zy HL ?_;rintro w5 rfl;clear a0 a1 a2 a3 a4 a5 a6 a7 HL;go_upto_if 51 with fail;go_cut [1] (fun v1 wz=>v1=.pointer (some ⟨x1.a,0,none⟩)∧Kc wz b (.aD x1 c1 l1 (.aD z cz zl zr))∧Qc (fun k=>k∈(Tr.aD x c l r).aC) w4 wz)
 case first=>
  cases hq:l.red
  ·have hh:=aw.o;cases hh with
   |up _ y _ yl yr _=>simp[Tr.red]at hq
   |no _ _ _ _ h=> clear h hq;go_wp2_with fail;go_meet;exact⟨rfl,S4.o,Zg _ _⟩
  ·have HC:=O (Qh6 aw.o hq S4.o);unfold ptr at HC;clear hq;go_wp2_with fail;refine Zy HC ?_;rintro w1⟨i1,c1⟩;have I1:=O (Zt i1 c1);clear i1 c1;go_wp2_with fail;go_meet;exact⟨rfl,I1.o⟩
 case rest=>
  obtain⟨rfl,i1,U⟩:=hcut;obtain⟨w1,ao⟩:=Zx wc;rw[←ao]at i1 U⊢;have K1:=O (U.blk K4.o (fun h=>bf.o _ h rfl));have I1:=O i1;have C1:=O (C4.o.none.aA U);clear ao i1 U K4 C4 S4 aw;have E1:=fun x=>Q4 (Qk (S:=Qb) K1.o (fun h=>h) x);have E2:=fun x=>Ja (Qk (S:=Qb) I1.o.at'.1 (fun h=>h) x);have am:(Tr.aD z cz zl zr).aH=.pointer (some ⟨z.a,0,none⟩):=rfl;rw[am]at E2;clear am;go_upto_region 8 with fail;go_cut [67] (fun bz wz=>bz=.bool false∧Qc Qb w1 wz)
  case first=>
   cases ak:(((x1.n:Int)==(n:Int))&&(x1.i==i));all_goals
    refine Qu [] [0,1,2,3,4,5,6,7,8,9,10,11,12] [] [] (Qz (Qb) (w1)) Zq (by kernel_rfl) (fun _ _ _ _ _ h=>h) (Qd (by(repeat' (first|(with_reducible first|exact Zg _ _|assumption|refine Zh ?_ _|refine Zi ?_ _|refine Zj ?_|refine Zk ?_ _ ?_|(apply Or.inl;rfl))|(apply Or.inl;simp;done)|(apply Or.inr;simp;first|done|omega))))) ?_;simp only[pick,Zf,Ze,Zd];refine Qg ?_;iterate 13 (refine Ql (fun K E=>?_);go_simp;refine E _ ?_;clear E K)
    refine Qg ?_;intro _ I;obtain⟨xo,d⟩:=I;subst d;simp only[Jd];have c5:=O (Qv Qb w1 xo);generalize Qz Qb w1 xo=w5 at c5⊢;clear E1 E2 ak;go_wp2_with fail;go_meet;exact⟨rfl,c5.o⟩
  case rest=>
   obtain⟨rfl,cc⟩:=hcut;obtain⟨w5,bo⟩:=Zx wc;rw[←bo]at cc⊢;have K5:=O (cc.blk K1.o (fun h=>h));have V:=O (I1.o.aB cc (fun _ _ h=>h));have C5:=O (C1.o.aA cc.none);clear E1 E2 bo cc K1 I1 C1;have HL:=O (Kf _ V.o.at'.2.2);have av:=O (Kf zl V.o.at'.2.2.2.1);obtain⟨a0,a1,a2,a3,a4,a5,a6,a7⟩:=Ja V.o.at'.1;obtain⟨b0,b1,b2,b3,b4,b5,b6,b7⟩:=Ja V.o.at'.2.2.1;have am:(Tr.aD z cz zl zr).aH=.pointer (some ⟨z.a,0,none⟩):=rfl;have bm:(Tr.aD z cz zl zr).red=cz:=rfl;rw[am]at a7 HL;rw[bm]at HL;clear am bm;go_upto_region 10 with fail;go_cut [84] (fun bw wz=>bw=.bool (!(cz||zl.red))∧wz=w5)
   case first=>
    cases hc:cz<;>cases hl:zl.red;all_goals rw[hc]at HL
    all_goals rw[hl]at av
    all_goals
     go_wp2_with fail;refine Zy HL ?_;rintro w1 rfl;go_wp2_with fail;try
      refine Zy av ?_;rintro w1 rfl;go_wp2_with fail
     go_meet;exact⟨by rw[hc,hl];rfl,rfl⟩
   case rest=>
    obtain⟨rfl,bp⟩:=hcut;rw[bp];clear bp wc a0 a1 a2 a3 a4 a5 a6 a7 b0 b1 b2 b3 b4 b5 b6 b7 HL av;go_upto_if 84 with fail;go_cut [1] (fun v1 wz=>v1=.pointer (some ⟨x2.a,0,none⟩)∧Kc wz b (.aD x2 c2 l2 J)∧Qc (fun k=>k∈(Tr.aD x c l r).aC) w5 wz)
    case first=>
     cases hq:(cz||zl.red);·have HC:=O (Qat ax.o hq V.o);rw[ar.o]at HC;unfold ptr at HC;clear hq;go_wp2_with fail;refine Zy HC ?_;rintro w1⟨i1,c1⟩;have I1:=O (Zt i1 c1);clear i1 c1;go_wp2_with fail;go_meet;exact⟨rfl,I1.o⟩
     ·have hh:=ax.o;cases hh with
      |A _ y _ yl yr _ _ h1 h2=>simp[h2]at hq
      |B _ y _ u ul ur yr _ _ h1=>simp[h1]at hq
      |no _ _ _ _ h=> clear h hq;go_wp2_with fail;go_meet;exact⟨rfl,V.o,Zg _ _⟩
    case rest=>
     obtain⟨rfl,i1,U⟩:=hcut;obtain⟨w1,ao⟩:=Zx wc;rw[←ao]at i1 U⊢;have K1:=O (U.blk K5.o (fun h=>bf.o _ h rfl));have I1:=O i1;have C1:=O (C5.o.aA U);clear ao i1 U K5 C5 V ax ar;have E1:=fun x=>Q4 (Qk (S:=Qb) K1.o (fun h=>h) x);have E2:=fun x=>Ja (Qk (S:=Qb) I1.o.at'.1 (fun h=>h) x);obtain⟨pr,a8⟩:=J.ptrV_any;have ab:=O a8;rw[a8]at E2;clear a8;go_upto_region 12 with fail;have bu:=HE.o;rcases bu with⟨bj,rfl,ih⟩|⟨br,rfl,ih⟩
     ·have ak:=Qhm bj;have IH:=O ih;clear bj ih HE bg;refine Qu [] [0,1,2,3,4,5] [] [] (Qz (Qb) (w1)) Zq (by kernel_rfl) (fun _ _ _ _ _ h=>h) (Qd (by(repeat' (first|(with_reducible first|exact Zg _ _|assumption|refine Zh ?_ _|refine Zi ?_ _|refine Zj ?_|refine Zk ?_ _ ?_|(apply Or.inl;rfl))|(apply Or.inl;simp;done)|(apply Or.inr;simp;first|done|omega))))) ?_;simp only[pick,Zf,Ze,Zd];refine Qg ?_;iterate 6 (refine Ql (fun K E=>?_);go_simp;refine E _ ?_;clear E K)
      refine Qg ?_;intro _ I;obtain⟨xo,d⟩:=I;subst d;simp only[Jd];have Z:=O (Qv Qb w1 xo);generalize Qz Qb w1 xo=w6 at Z⊢;clear E1 E2 ak;have K6:=O (Z.o.blk K1.o (fun h=>h));have I6:=O (I1.o.aB Z.o (fun _ _ h=>h));have C6:=O (C1.o.aA Z.o.none);have E1:=fun x=>Q4 (Qk (S:=Qb) K6.o (fun h=>h) x);have E2:=fun x=>Ja (Qk (S:=Qb) I6.o.at'.1 (fun h=>h) x);rw[ab.o]at E2;clear K1 I1 C1 Z;go_wp2_with fail;refine Ka [1,2,3,4,5,6] [0] [7,8,9,10] (Qz (Qb) (w6)) Zq (by kernel_rfl) (fun _ _ _ _ _ h=>h) (Qd (by(repeat' (first|(with_reducible first|exact Zg _ _|assumption|refine Zh ?_ _|refine Zi ?_ _|refine Zj ?_|refine Zk ?_ _ ?_|(apply Or.inl;rfl))|(apply Or.inl;simp;done)|(apply Or.inr;simp;first|done|omega))))) ?_;simp only[pick,Zf,Ze,Zd];iterate 6 (refine Ql (fun K E=>?_);go_simp;refine E _ ?_;clear E K)
      refine Qg ?_;iterate 1 (refine Ql (fun K E=>?_);go_simp;refine E _ ?_;clear E K)
      refine Qg ?_;intro _ I;obtain⟨xo,d⟩:=I;subst d;have c5:=O (Qv Qb w6 xo);generalize Qz Qb w6 xo=w7 at c5⊢;clear E1 E2;have C5:=O (C6.o.aA c5.o.none);have V:=O (I6.o.aB c5.o (fun _ _ h=>h));have ae:=IH.o _ V.o.right;rw[ab.o]at ae;clear IH K6 c5 C6 I6;have ag:=V.o.nd;simp only[Tr.aC,List.nodup_cons,Zl,Zu,not_or,List.nodup_append]at ag;have ay:=O (show x3.a∉J.aC by grind);clear ag;go_wp2_with fail;refine Zz ae ?_;rintro w8⟨i6,Z⟩;have B6:=Z.blk V.o.at'.1 ay.o;obtain⟨a0,a1,a2,a3,a4,a5,a6,a7⟩:=Ja B6;have f6:=B6.frozen;have FX:=O (fun w7(e:w7=w8.setCell ⟨x3.a,7,none⟩ r'.aH)=>V.o.setR i6 Z (fun _ h=>h) (fun k R=>.inl (af.o k R)) e);obtain⟨q,hq⟩:=r'.ptrV_any;rw[hq]at FX⊢;clear i6 Z B6 hq ae;go_wp2_with fail;obtain⟨w9,ac⟩:=Zx (w8.setCell ⟨x3.a,7,none⟩ (.pointer q));rw[←ac];obtain⟨i7,c7⟩:=FX.o _ ac;have hb:=Ek i7;unfold ptr at hb;clear ac a0 a1 a2 a3 a4 a5 a6 a7 f6 FX;refine Zz hb ?_;rintro bc⟨i8,c8⟩;have ah:Qc (fun k=>k∈(Tr.aD x c l r).aC) w bc:=by
       have aj:(Tr.aD x3 c2 l2 J).aC=(Tr.aD x c l r).aC:=ai.o;rw[aj]at c7;refine(C5.o.aA c7).aA (c8.sub fun k R=>?_);rw[←aj];simp only[Tr.aC,Zl,Zu]at R⊢;rcases R with R|rfl|R;·exact .inl R
       ·exact .inr (.inl rfl)
       ·exact .inr (.inr (af.o _ R))
      have HF:=O ah;have HI:=O i8;clear i8 c8 ah i7 c7 hb;go_wp2;go_ret;exact⟨rfl,HI.o,HF.o⟩
     ·have ak:=Cf br;have IH:=O ih;clear br ih HE;refine Qu [] [0,1,2,3,4,5] [] [] (Qz (Qb) (w1)) Zq (by kernel_rfl) (fun _ _ _ _ _ h=>h) (Qd (by(repeat' (first|(with_reducible first|exact Zg _ _|assumption|refine Zh ?_ _|refine Zi ?_ _|refine Zj ?_|refine Zk ?_ _ ?_|(apply Or.inl;rfl))|(apply Or.inl;simp;done)|(apply Or.inr;simp;first|done|omega))))) ?_;simp only[pick,Zf,Ze,Zd];refine Qg ?_;iterate 6 (refine Ql (fun K E=>?_);go_simp;refine E _ ?_;clear E K)
      refine Qg ?_;intro _ I;obtain⟨xo,d⟩:=I;subst d;simp only[Jd];have Z:=O (Qv Qb w1 xo);generalize Qz Qb w1 xo=w6 at Z⊢;clear E1 E2 ak;have I6:=O (I1.o.aB Z.o (fun _ _ h=>h));have C6:=O (C1.o.aA Z.o.none);clear K1 I1 C1 Z;obtain⟨a0,a1,a2,a3,a4,a5,a6,a7⟩:=Ja I6.o.at'.1;rw[ab.o]at a7;go_wp2_with fail;clear a0 a1 a2 a3 a4 a5 a6 a7;go_loopg [7] J.size (fun g v wr=>∃s:Tr,v=s.aH∧s.size=g∧s≠ .nil∧Jw w6 s∧s.first=J.first∧wr=w6);case atStart=>exact⟨J,ab.o.symm,rfl,bg.o,I6.o.at'.2.2,rfl,rfl⟩
      case round=>
       obtain⟨s,rfl,ba,a9,an,aq,bq⟩:=hrel;rw[bq];clear bq;cases s with
       |nil=>exact absurd rfl a9
       |aD u cu ul ur=>
        obtain⟨b0,b1,b2,b3,b4,b5,b6,b7⟩:=Ja an.1;cases ul with
        |nil=>
         have be:Hi (J.first=(u.n,u.i,u.v)):=O (by rw[←aq];rfl);have bh:=O an.1;have al:Tr.nil.aH=.pointer none:=rfl;rw[al]at b6;dsimp only[Tr.aH];clear ba a9 an aq al;go_wp2_with fail;clear b0 b1 b2 b3 b4 b5 b6 b7;have E1:=fun x=>Ja (Qk (S:=Qb) bh.o (fun h=>h) x);refine Ka [0,2,3,4,5,6,7,8,9,10,11] [1] [12,13,14,15] (Qz (Qb) (w6)) Zq (by kernel_rfl) (fun _ _ _ _ _ h=>h) (Qd (by(repeat' (first|(with_reducible first|exact Zg _ _|assumption|refine Zh ?_ _|refine Zi ?_ _|refine Zj ?_|refine Zk ?_ _ ?_|(apply Or.inl;rfl))|(apply Or.inl;simp;done)|(apply Or.inr;simp;first|done|omega))))) ?_;simp only[pick,Zf,Ze,Zd];iterate 11 (refine Ql (fun K E=>?_);go_simp;refine E _ ?_;clear E K)
         refine Qg ?_;iterate 1 (refine Ql (fun K E=>?_);go_simp;refine E _ ?_;clear E K)
         refine Qg ?_;intro _ I;obtain⟨xo,d⟩:=I;subst d;have c7:=O (Qv Qb w6 xo);generalize Qz Qb w6 xo=w7 at c7⊢;clear E1;have X7:=c7.o.blk I6.o.at'.1 (fun h=>h);have f7:=X7.frozen;obtain⟨d0,d1,d2,d3,d4,d5,d6,d7⟩:=Ja X7;rw[ab.o]at d7;clear X7;go_wp2_with fail;obtain⟨w8,bb⟩:=Zx (((w7.setCell ⟨x2.a,0,none⟩ (.int .u64 u.n)).setCell ⟨x2.a,1,none⟩ (.int .i64 u.i)).setCell ⟨x2.a,2,none⟩ (.int .u64 u.v));rw[←bb];obtain⟨i8,c8⟩:=Kc.take (w2:=w8) (e:=J.first) I6.o c7.o (by rw[be.o];exact bb);rw[ai.o]at c8;have V:=O i8;have C5:=O (C6.o.aA c8);clear bb c7 f7 i8 c8 d0 d1 d2 d3 d4 d5 d6 d7 bh be C6 I6;obtain⟨a0,a1,a2,a3,a4,a5,a6,a7⟩:=Ja V.o.at'.1;rw[ab.o]at a7;dsimp only[Nd.as]at a0 a1 a2 a3 a4 a5 a6 a7;have ae:=IH.o _ V.o.right;rw[ab.o]at ae;have ag:=V.o.nd;simp only[Tr.aC,List.nodup_cons,Zl,Zu,not_or,List.nodup_append]at ag;have ay:=O (show x2.a∉J.aC by(dsimp only[Nd.as]at ag;grind));clear ag;refine Zz ae ?_;rintro bd⟨i6,Z⟩;have B6:=Z.blk V.o.at'.1 ay.o;clear a0 a1 a2 a3 a4 a5 a6 a7;obtain⟨a0,a1,a2,a3,a4,a5,a6,a7⟩:=Ja B6;dsimp only[Nd.as]at a0 a1 a2 a3 a4 a5 a6 a7;have f6:∀j,bd.frozen? ⟨x2.a,j,none⟩=false:=B6.frozen;have FX:=O (fun w7(e:w7=bd.setCell ⟨x2.a,7,none⟩ r'.aH)=>V.o.setR i6 Z (fun _ h=>h) (fun k R=>.inl (af.o k R)) e);obtain⟨q,hq⟩:=r'.ptrV_any;rw[hq]at FX⊢;clear i6 Z B6 hq ae;go_wp2_with fail;obtain⟨w9,ac⟩:=Zx (bd.setCell ⟨x2.a,7,none⟩ (.pointer q));rw[←ac];obtain⟨i7,c7⟩:=FX.o _ ac;have hb:=Ek i7;unfold ptr at hb;clear ac a0 a1 a2 a3 a4 a5 a6 a7 f6 FX;refine Zz hb ?_;rintro bc⟨i8,c8⟩;have ah:Qc (fun k=>k∈(Tr.aD x c l r).aC) w bc:=by
          have aj:(Tr.aD (x2.as J.first) c2 l2 J).aC=(Tr.aD x c l r).aC:=ai.o;rw[aj]at c7;refine(C5.o.aA c7).aA (c8.sub fun k R=>?_);rw[←aj];simp only[Tr.aC,Zl,Zu]at R⊢;rcases R with R|rfl|R;·exact .inl R
          ·exact .inr (.inl rfl)
          ·exact .inr (.inr (af.o _ R))
         have HF:=O ah;have HI:=O i8;clear i8 c8 ah i7 c7 hb;go_wp2;go_ret;exact⟨rfl,HI.o,HF.o⟩
        |aD v cv vl vr=>
         have bt:=O (show Jw w6 (.aD v cv vl vr)from an.2.1);have bs:=O (show(Tr.aD v cv vl vr).first=J.first from aq);have al:(Tr.aD v cv vl vr).aH=.pointer (some ⟨v.a,0,none⟩):=rfl;have bv:(Tr.aD v cv vl vr).size<gk:=by rw[←ba];simp[Tr.size];omega
         rw[al]at b6;dsimp only[Tr.aH];clear ba a9 an aq al;go_wp2;go_roundg (Tr.aD v cv vl vr).size;case rel=>exact⟨_,rfl,rfl,nofun,bt.o,bs.o,rfl⟩
         case measure=>exact bv
end
section
attribute [local go_sem] Qp
attribute [local go_sem ↓] Vw Vx
theorem Qpb{b:Nat}{n:Nat}{i:Int}{t U:Tr}(d:Drop n i t U):∀{w}(hs:Kc w b t),Cl 236 #[ptr b,t.aH,Yo n i] w fun e w'=>e=.returned U.aH∧Kc w' b U∧Qc (fun k=>k∈t.aC) w w':=by
 induction d with
 |stay x c l r l' h0 hd d E=>
  intro w hs;cases l with
  |nil=>simp[Tr.red,Tr.left]at hd
  |aD y cy yl yr=>exact Qff n i h0 hs (.no x c _ r hd) (fun k q=>(Hs d).subset q) fun w' h=>E h
 |turnA x y z yl yr K I l' h0 h1 B d E=>exact fun hs=>Qff n i h0 hs (.A x y z yl yr K I h1 B) (fun k q=>(Hs d).subset q) fun w' h=>E h
 |turnB x y z u yl yr V Z I l' h0 h1 d E=>exact fun hs=>Qff n i h0 hs (.B x y z u yl yr V Z I h1) (fun k q=>(Hs d).subset q) fun w' h=>E h
 |right x y c yl yr r R h0 h1 d E=> exact fun hs=>Ss n i h0 hs (.up x y c yl yr r) (.no _ _ _ _ rfl) nofun (fun k q=>(Hs d).subset q) (.inl ⟨h1,rfl,fun w' h=>E h⟩)
 |here x c l h0 h1 B=> intro w hs;refine Zz (Qk8 n i h0 h1 B hs) ?_;intro w' hc;exact⟨rfl,⟨hs.top.aB hc (fun h=>h),by have:=hs.nd;simp[Tr.aC],trivial⟩,hc.none⟩
 |passA x y z yl yr K I R h0 h1 B J d E=> exact fun hs=>Ss n i h0 hs (.no _ _ _ _ rfl) (.A x y z yl yr K I B J) nofun (fun k q=>(Hs d).subset q) (.inl ⟨h1,rfl,fun w' h=>E h⟩)
 |takeA x y z yl yr K I R h0 h1 B J d=> exact fun hs=>Ss n i h0 hs (.no _ _ _ _ rfl) (.A x y z yl yr K I B J) nofun (fun k q=>(Kh d).subset q) (.inr ⟨h1,rfl,fun w' h=>Rk d h⟩)
 |passB x y z u V Z yr K I R h0 h1 B d E=> exact fun hs=>Ss n i h0 hs (.no _ _ _ _ rfl) (.B x y z u V Z yr K I B) nofun (fun k q=>(Hs d).subset q) (.inl ⟨h1,rfl,fun w' h=>E h⟩)
 |passC x c l r R h0 h1 B J d E=>
  intro w hs;cases r with
  |nil=>simp[Tr.red,Tr.left]at J
  |aD z cz K I=>exact Ss n i h0 hs (.no _ _ _ _ h1) (.no _ _ _ _ J) nofun (fun k q=>(Hs d).subset q) (.inl ⟨B,rfl,fun w' h=>E h⟩)
 |takeC x c l r R h0 h1 B J d=>
  intro w hs;cases r with
  |nil=>simp[Tr.red,Tr.left]at J
  |aD z cz K I=>exact Ss n i h0 hs (.no _ _ _ _ h1) (.no _ _ _ _ J) nofun (fun k q=>(Kh d).subset q) (.inr ⟨B,rfl,fun w' h=>Rk d h⟩)
theorem Qtb{n:Nat}{i:Int}{x:Nd}{c:Bool}{l r:Tr}(h:x.n=n∧x.i=i):(Tr.aD x c l r).at n i=.aD x c l r:=by rw[Tr.at,if_pos h]
theorem Qtc{n:Nat}{i:Int}{x:Nd}{c:Bool}{l r:Tr}(h:¬(x.n=n∧x.i=i))(d:lt n i x=true):(Tr.aD x c l r).at n i=l.at n i:=by rw[Tr.at,if_neg h,if_pos d]
theorem Qq3{n:Nat}{i:Int}{x:Nd}{c:Bool}{l r:Tr}(h:¬(x.n=n∧x.i=i))(d:lt n i x=false):(Tr.aD x c l r).at n i=r.at n i:=by rw[Tr.at,if_neg h,if_neg (by rw[d];simp)]
theorem Qfd{w}{F:Fp}{b:Nat}{t:Tr}{l:List Xu}(hs:Mx w F b t l)(n:Nat)(i:Int):
  Cl 214 #[ptr b,Yo n i] w fun e w'=>e=.returned (t.at n i).aH∧Qc Qb w w':=by
 obtain⟨k,hk⟩:=Zx (w.heap.size);have K0:=O (Qh.new w #[.int .u64 n,.int .i64 i] 204);have C0:=O ((Zg Qb w).alloc (.cells #[.int .u64 n,.int .i64 i] 204));simp only[←hk]at K0;have HB:=O hs.top;have HT:=O hs.sub.at';generalize hR:(t.at n i).aH=R;have HR:=O hR;unfold ptr Yo at*;clear hs hR;go_enter func214,ntmps214;go_wp2_with fail;rw[←hk];obtain⟨W,hW⟩:=Zx (w.alloc (.cells #[.int .u64 n,.int .i64 i] 204));rw[←hW]at K0 C0⊢;clear hW hk;have BW:=O (C0.o.blk HB.o (fun h=>h));have TW:=O (Jw.aB C0.o t HT.o (fun a _ h=>h));have HN:=Od ⟨_,_,BW.o⟩;unfold ptr at HN;obtain⟨a0,a1,a2,a3⟩:=X9 BW.o;obtain⟨pt,aa⟩:=t.ptrV_any;have ac:=O aa;rw[aa]at a2;clear aa;refine Zz HN ?_;rintro w1 rfl;go_wp2_with fail;clear a0 a1 a2 a3 HN HB HT BW;go_loopg [5] t.size (fun g v wr=>∃s:Tr,v=s.aH∧s.size=g∧Jw W s∧s.at n i=t.at n i∧Qc Qb W wr);case atStart=>exact⟨t,ac.o.symm,rfl,TW.o,rfl,Zg _ _⟩
 case round=>
  obtain⟨s,rfl,V,I,ab,E⟩:=hrel;have KR:=O (E.blk K0.o (fun h=>h));have CR:=O E;have HF:=O ab;have E1:=fun x=>Q4 (Qk (S:=Qb) KR.o (fun h=>h) x);cases s with
  |nil=>
   dsimp only[Tr.aH];clear V I ab E;go_wp2_with fail;refine Qu [] [0,1,2,3,4,5,6,7,8,9] [] [] (Qz (Qb) (wr)) Zq (by kernel_rfl) (fun _ _ _ _ _ h=>h) (Qd (by(repeat' (first|(with_reducible first|exact Zg _ _|assumption|refine Zh ?_ _|refine Zi ?_ _|refine Zj ?_|refine Zk ?_ _ ?_|(apply Or.inl;rfl))|(apply Or.inl;simp;done)|(apply Or.inr;simp;first|done|omega))))) ?_;simp only[pick,Zf,Ze,Zd];refine Qg ?_;iterate 10 (refine Ql (fun K B=>?_);go_simp;refine B _ ?_;clear B K)
   refine Qg ?_;intro _ z;obtain⟨J,d⟩:=z;subst d;simp only[Jd];have U:=O (Qv Qb wr J);generalize Qz Qb wr J=w5 at U⊢;clear E1;go_wp2;go_ret;exact⟨by rw[←HR.o,←HF.o];rfl,(C0.o.aA CR.o).aA U.o⟩
  |aD u cu ul ur=>
   have HA:=O (Jw.aB E _ I (fun a _ h=>h));have ae:=O I.2.1;have af:=O I.2.2;have E2:=fun x=>Ja (Qk (S:=Qb) HA.o.1 (fun h=>h) x);dsimp only[Tr.aH];have gl:ul.size<gk:=by rw[←V];simp[Tr.size];omega
   have gr:ur.size<gk:=by rw[←V];simp[Tr.size];omega
   clear V I ab E;by_cases hx:u.n=n∧u.i=i
   ·have Z:=Cf hx;have HX:=O (Qtb hx (c:=cu) (l:=ul) (r:=ur));clear hx gl gr;go_wp2_with fail;refine Qu [] [0,1,2,3,4,5,6,7,8,9] [] [] (Qz (Qb) (wr)) Zq (by kernel_rfl) (fun _ _ _ _ _ h=>h) (Qd (by(repeat' (first|(with_reducible first|exact Zg _ _|assumption|refine Zh ?_ _|refine Zi ?_ _|refine Zj ?_|refine Zk ?_ _ ?_|(apply Or.inl;rfl))|(apply Or.inl;simp;done)|(apply Or.inr;simp;first|done|omega))))) ?_;simp only[pick,Zf,Ze,Zd];refine Qg ?_;iterate 10 (refine Ql (fun K B=>?_);go_simp;refine B _ ?_;clear B K)
    refine Qg ?_;intro _ z;obtain⟨J,d⟩:=z;subst d;simp only[Jd];have U:=O (Qv Qb wr J);generalize Qz Qb wr J=w5 at U⊢;clear E1 E2 Z;go_wp2;go_ret;exact⟨by rw[←HR.o,←HF.o,HX.o];rfl,(C0.o.aA CR.o).aA U.o⟩
   ·have Z:=Qhm hx;have HX:=O hx;have q:=O (fun w=>Gu n i u w);unfold Yo at q;clear hx;go_wp2_with fail;refine Qu [] [0,1,2,3,4,5,6,7,8,9] [] [] (Qz (Qb) (wr)) Zq (by kernel_rfl) (fun _ _ _ _ _ h=>h) (Qd (by(repeat' (first|(with_reducible first|exact Zg _ _|assumption|refine Zh ?_ _|refine Zi ?_ _|refine Zj ?_|refine Zk ?_ _ ?_|(apply Or.inl;rfl))|(apply Or.inl;simp;done)|(apply Or.inr;simp;first|done|omega))))) ?_;simp only[pick,Zf,Ze,Zd];refine Qg ?_;iterate 10 (refine Ql (fun K B=>?_);go_simp;refine B _ ?_;clear B K)
    refine Qg ?_;intro _ z;obtain⟨J,d⟩:=z;subst d;simp only[Jd];have U:=O (Qv Qb wr J);generalize Qz Qb wr J=w5 at U⊢;clear E1 E2 Z;have K5:=O (U.o.blk KR.o (fun h=>h));have H5:=O (U.o.blk HA.o.1 (fun h=>h));have E1:=fun x=>Q4 (Qk (S:=Qb) K5.o (fun h=>h) x);have E2:=fun x=>Ja (Qk (S:=Qb) H5.o (fun h=>h) x);go_wp2_with fail;refine Qu [] [0,1,2,3,4] [5] [] (Qz (Qb) (w5)) Zq (by kernel_rfl) (fun _ _ _ _ _ h=>h) (Qd (by(repeat' (first|(with_reducible first|exact Zg _ _|assumption|refine Zh ?_ _|refine Zi ?_ _|refine Zj ?_|refine Zk ?_ _ ?_|(apply Or.inl;rfl))|(apply Or.inl;simp;done)|(apply Or.inr;simp;first|done|omega))))) ?_;simp only[pick,Zf,Ze,Zd];refine Qg ?_;iterate 5 (refine Ql (fun K B=>?_);go_simp;refine B _ ?_;clear B K)
    refine Qg ?_;intro _ z;obtain⟨J,d⟩:=z;subst d;simp only[Jd];have c6:=O (Qv Qb w5 J);generalize Qz Qb w5 J=w6 at c6⊢;clear E1 E2;cases hl:lt n i u;all_goals
     rw[hl]at q;go_wp2_with fail;refine Zz (q.o _) ?_;intro w7 d7;have c7:=O (c6.o.aA d7);clear d7;go_wp2;refine⟨Qd c7.o,?_⟩;have C7:=O (CR.o.aA (U.o.aA c7.o));have H7:=c7.o.blk H5.o (fun h=>h);obtain⟨b0,b1,b2,b3,b4,b5,b6,b7⟩:=Ja H7;clear H7;go_wp2_with fail;clear b0 b1 b2 b3 b4 b5 b6 b7
    ·go_roundg ur.size;case rel=>exact⟨ur,rfl,rfl,af.o,by rw[←HF.o,Qq3 HX.o hl],C7.o⟩
     case measure=>exact gr
    ·go_roundg ul.size;case rel=>exact⟨ul,rfl,rfl,ae.o,by rw[←HF.o,Qtc HX.o hl],C7.o⟩
     case measure=>exact gl
def Tr.black:Tr→Tr
 | .nil=>.nil
 | .aD x _ l r=>.aD x false l r
theorem Yp.blacken{t:Tr}{m:Nat}(h:Yp t m):∃d,Yp t.black d:=by
 cases t with
 |nil=>exact⟨m,h⟩
 |aD x c l r=>
  cases c with
  |false=>exact⟨m,h⟩
  |true=>exact⟨_,h.black⟩
theorem Qgp(h:Nd)(c:Bool)(l r:Tr):∃h' c' l' K,Gs (.aD h c l r)=.aD h' c' l' K:=by obtain⟨h1,q,l1,R,e1⟩:=Qnn h c l r;obtain⟨I,u,l2,U,B⟩:=Qno h1 q l1 R;obtain⟨J,z,d,k,E⟩:=Qnp I u l2 U;refine⟨J.re d k,z,d,k,?_⟩;unfold Gs;rw[e1,B,E];rfl
theorem Qsd(n:Nat)(i:Int)(v a:Nat)(t:Tr):∃h' c' l' d,t.put n i v a=.aD h' c' l' d:=by
 cases t with
 |nil=>exact⟨_,_,_,_,rfl⟩
 |aD h c l r=>
  rw[Tr.put];split;·exact Qgp _ _ _ _
  ·exact Qgp _ _ _ _
theorem Mx.root{w w6 w'}{F:Fp}{T:Nat}{t:Tr}{l l':List Xu}{d:Nd}{J:Bool}{l1 z:Tr}{p q:Value}(h:Mx w F T t l)(B:Kc w6 T (.aD d J l1 z))
  (hT:Qh w6 T #[Dd,Vv,p,q] 254) (Z:Qc F w w6) (ha:∀a∈(Tr.aD d J l1 z).aC,F a∨w.heap.size≤a) (hf:∃m,Yp (.aD d J l1 z) m)
  (U:(Tr.aD d J l1 z).flat=l') (hr:Xd l')
  (hw:w'=((w6.setCell ⟨T,2,none⟩ (.pointer (some ⟨d.a,0,none⟩))).setCell ⟨d.a,5,none⟩ (.bool false)).setCell ⟨T,3,none⟩ (.int .i64 l'.length)):
  Vz w' (Qn F w w') T l'∧Qc F w w':=by
 subst hw;have V:=B.nd;simp only[Tr.aC,List.nodup_cons,Zl,Zu,not_or,List.nodup_append]at V;have u:T≠d.a:=by grind
 have E:F T:=h.fp T (by simp);have K:Qc (fun k=>k=T∨k=d.a) w6 (((w6.setCell ⟨T,2,none⟩ (.pointer (some ⟨d.a,0,none⟩))).setCell ⟨d.a,5,none⟩ (.bool false)).setCell ⟨T,3,none⟩ (.int .i64 l'.length)):=
  (((Zg _ w6).setCell (a:=⟨T,2,none⟩) _ (.inl (.inl rfl))).setCell (a:=⟨d.a,5,none⟩) _ (.inl (.inr rfl))).setCell (a:=⟨T,3,none⟩) _ (.inl (.inl rfl))
 have c:Qc F w (((w6.setCell ⟨T,2,none⟩ (.pointer (some ⟨d.a,0,none⟩))).setCell ⟨d.a,5,none⟩ (.bool false)).setCell ⟨T,3,none⟩ (.int .i64 l'.length)):=
  Z.trans K fun k hk=>by
   rcases hk with rfl|rfl;·exact .inl E
   ·exact ha _ (by simp[Tr.aC])
 have hX:Qh (((w6.setCell ⟨T,2,none⟩ (.pointer (some ⟨d.a,0,none⟩))).setCell ⟨d.a,5,none⟩ (.bool false)).setCell ⟨T,3,none⟩ (.int .i64 l'.length)) d.a (It d false l1.aH z.aH) 258:=
  ((B.at'.1.other _ u).set' 5 _ rfl).other _ u
 have I:Qh (((w6.setCell ⟨T,2,none⟩ (.pointer (some ⟨d.a,0,none⟩))).setCell ⟨d.a,5,none⟩ (.bool false)).setCell ⟨T,3,none⟩ (.int .i64 l'.length)) T #[Dd,Vv,.pointer (some ⟨d.a,0,none⟩),.int .i64 l'.length] 254:=
  ((hT.set' 2 _ rfl).other _ (Ne.symm u)).set' 3 _ rfl
 obtain⟨m,hm⟩:=hf;refine⟨⟨.aD d false l1 z,I,⟨⟨_,_,I⟩,B.nd,hX,Jw.aB K l1 B.at'.2.1 (by grind),Jw.aB K z B.at'.2.2 (by grind)⟩,Yp.blacken hm,rfl,U,hr,?_,h.bd.ext c⟩,c⟩;intro a R;rcases Zu.1 R with rfl|R;·exact .inl E
 ·rcases ha a R with h'|h';·exact .inl h'
  ·exact .inr ⟨h',Nat.lt_of_lt_of_le (Jw.lt _ B.at' a R) K.size⟩
theorem Qp2{w}{F:Fp}{T:Nat}{l:List Xu}(h:Vz w F T l)(hl:l.length<4611686018427387904)(n:Nat)(i:Int)(v:Nat)(B:∀e∈l,¬(e.1=n∧e.2.1=i)):
  Cl 223 #[ptr T,Yo n i,.int .u64 v] w fun e w'=>e=.returned (.int .i64 0)∧Vz w' (Qn F w w') T (Un (n,i,v) l)∧Qc F w w':=by
 obtain⟨t,h⟩:=h;have u:t.at n i=.nil:=(Ap (by rw[h.flat];exact h.ris)).2 (by rw[h.flat];exact B);have aj:=O u;obtain⟨m,hm⟩:=h.fine;have q:(Un (n,i,v) l).length=l.length+1:=(En (n,i,v) l).length_eq;have hs:IntKind.i64.wrap ((l.length:Int)+1)=((Un (n,i,v) l).length:Int):=by rw[IntWalk.i64_in _ (by omega),q];omega
 have ab:Hi (∀a,∃m,Yp (t.put n i v a) m):=O fun a=>⟨m,(Qa8 n i v a t m hm).1 h.blk⟩;have ac:Hi (∀a,(t.put n i v a).flat=Un (n,i,v) l):=O fun a=>by rw[Qa7 n i v a t (by rw[h.flat];exact h.ris),h.flat]
 have af:Hi (Xd (Un (n,i,v) l)):=O (Rt h.ris B);have H:=O h;have ag:=O (show T∉t.aC from(List.nodup_cons.1 h.sub.nd).1);obtain⟨k,z⟩:=Zx (w.heap.size);have R:=O (Qh.new w #[.int .u64 n,.int .i64 i] 204);have C0:=O ((Zg Qb w).alloc (.cells #[.int .u64 n,.int .i64 i] 204));simp only[←z]at R;obtain⟨pt,E⟩:=t.ptrV_any;have ae:=O E;have I:=O (fun w F(h:Mx w F T t l)=>Qfd h n i);simp only[u,Tr.aH]at I;have J:=O (fun w(h:Kc w T t)=>Qas n i v T t w h);rw[E]at J;unfold ptr Yo at*;clear h u hm q B E hl;go_enter func223,ntmps223;go_wp2_with fail;rw[←z];obtain⟨W,hW⟩:=Zx (w.alloc (.cells #[.int .u64 n,.int .i64 i] 204));rw[←hW]at R C0⊢;clear hW z;have R0:=O (H.o.aB C0.o (Jl.none F));have HN:=Od ⟨_,_,R0.o.top⟩;have HA:=I.o _ _ R0.o;obtain⟨k0,k1⟩:=Q4 R.o;unfold ptr at HN;refine Zz HN ?_;rintro w1 rfl;go_wp2_with fail;refine Zz HA ?_;intro w2 c2;have R2:=O (R0.o.aB c2 (Jl.none F));have K2:=O (c2.blk R.o (fun h=>h));have C2:=O (C0.o.aA c2);clear c2 HA HN k0 k1 R0 R C0;have E1:=fun x=>Q4 (Qk (S:=Qb) K2.o (fun h=>h) x);have E2:=fun x=>X9 (Qk (S:=Qb) R2.o.top (fun h=>h) x);rw[ae.o]at E2;go_wp2_with fail;refine Ka [1,2,3,4,5,6,7] [0] [8,9,10,11] (Qz (Qb) (w2)) Zq (by kernel_rfl) (fun _ _ _ _ _ h=>h) (Qd (by(repeat' (first|(with_reducible first|exact Zg _ _|assumption|refine Zh ?_ _|refine Zi ?_ _|refine Zj ?_|refine Zk ?_ _ ?_|(apply Or.inl;rfl))|(apply Or.inl;simp;done)|(apply Or.inr;simp;first|done|omega))))) ?_;simp only[pick,Zf,Ze,Zd];iterate 7 (refine Ql (fun K U=>?_);go_simp;refine U _ ?_;clear U K)
 refine Qg ?_;iterate 1 (refine Ql (fun K U=>?_);go_simp;refine U _ ?_;clear U K)
 refine Qg ?_;intro _ ai;obtain⟨xo,Z⟩:=ai;subst Z;have c3:=O (Qv Qb w2 xo);generalize Qz Qb w2 xo=w3 at c3⊢;clear E1 E2;have R3:=O (R2.o.aB c3.o (Jl.none F));have C3:=O (C2.o.aA c3.o);clear R2 K2 C2 c3;go_wp2_with fail;refine(J.o _ R3.o.sub).mono ?_;rintro e w6⟨a,ha,rfl,i6,c6⟩;obtain⟨x1,c1,l1,r1,c⟩:=Qsd n i v a t;have d:=c6.blk R3.o.top ag.o;have aa:=O (fun w' hw=>H.o.root (l':=Un (n,i,v) l) (w':=w') (c▸i6) d (C3.o.none.aA (c6.sub fun k z=>H.o.fp k (Zr _ z))) (fun k z=>(Rq n i v a t (c▸z)).elim (fun e=>.inr (by rw[e];exact Zp C3.o.size ha)) (fun h=>.inl (H.o.fp k (Zr _ h)))) (c▸ab.o a) (c▸ac.o a) af.o hw);rw[c]at i6⊢;have hX:=i6.at'.1;have V:=i6.nd;simp only[Tr.aC,List.nodup_cons,Zl,Zu,not_or,List.nodup_append]at V;have ah:T≠x1.a:=by grind
 have ak:x1.a≠T:=Ne.symm ah;obtain⟨a0,a1,a2,a3⟩:=X9 d;obtain⟨b0,b1,b2,b3,b4,b5,b6,b7⟩:=Ja hX;have f1:=d.frozen;have f2:=hX.frozen;dsimp only[Tr.aH];clear hX V i6 c6 d ha c;go_wp2;go_ret;exact⟨rfl,aa.o _ rfl⟩
end
end Go.Proofs.YtnnhmpehkbihnaaGreat
