/- A part of the proof: no condition. -/
import Derived.WalkSpells
import Derived.WalkLawsBesides
import Derived.Outline
import Derived.Test.YtigcnnkagkbflaaGreatUo02
import Derived.Deep.DrawnRows
import Derived.Deep.DeepCutAuto
namespace Go.Proofs.YtigcnnkagkbflaaGreat
set_option linter.unusedVariables false
set_option maxRecDepth 100000
set_option maxHeartbeats 4000000
open Go.RowKit
open Go.Proofs.Tryz
attribute [local go_sem] Qp
def Ca:Nat:=4611686018427387904
theorem Na:Ca=4611686018427387904:=rfl
def Qa6(a b:Nat):Nat:=min (a+b) Ca
def upN(a c:Nat):Nat:=min ((a+c-1)/c) Ca
theorem Tg(n:Nat)(w):ZW 341 #[ZU n,.bool true] w (ZU 4611686018427387904) λw'=>Qc Qb w w':=by apply WH func341;go_wp2;go_ret;exact⟨rfl,Zg _ _⟩
theorem Pd(n:Nat)(w):ZW 341 #[ZU n,.bool false] w (ZU (min n Ca:Nat)) λw'=>Qc Qb w w':=by
 by_cases h:4611686018427387904<n
 .have e:min n Ca=4611686018427387904:=by rw[Na];omega
  have h':(4611686018427387904:Int)<(n:Int):=by omega
  rw[e];clear e h;apply WH func341;go_wp2;go_ret;exact⟨rfl,Zg _ _⟩
 .have e:min n Ca=n:=by rw[Na];omega
  have h':¬(4611686018427387904:Int)<(n:Int):=by omega
  rw[e];clear e h;apply WH func341;go_wp2;go_ret;exact⟨rfl,Zg _ _⟩
theorem Mm(a b:Nat)(ha:a<18446744073709551616)(u:b<18446744073709551616)(w):ZW 337 #[ZU a,ZU b] w (ZU (Qa6 a b:Int)) λw'=>Qc Qb w w':=by
 by_cases h:a+b<18446744073709551616
 .have q:IntKind.u64.wrap ((a:Int)+(b:Int))=((a+b:Nat):Int):=by rw[IntWalk.u64_in _ (by omega)];omega
  have Xg:decide (a+b<a)=false:=by simp
  have c:=O (Pd (a+b) w);have d:Hi (Qa6 a b=min (a+b) Ca):=O rfl;rw[d.o];generalize a+b=n at q Xg c|-;generalize min n Ca=r at c|-;clear d h ha u;apply WH func337;go_wp2_with fail;apply Zy c;intro w1 k;go_wp2;go_ret;exact⟨rfl,k⟩
 .have q:IntKind.u64.wrap ((a:Int)+(b:Int))=((a+b-18446744073709551616:Nat):Int):=by rw[IntKind.wrap_u64];omega
  have Xg:decide (a+b-18446744073709551616<a)=true:=by simp;omega
  have c:=O (Tg (a+b-18446744073709551616) w);have d:Qa6 a b=4611686018427387904:=by unfold Qa6;rw[Na];omega
  rw[d];generalize a+b-18446744073709551616=n at q Xg c;clear d h ha u;apply WH func337;go_wp2_with fail;apply Zy c;intro w1 k;go_wp2;go_ret;exact⟨rfl,k⟩
theorem Qpw(n:Nat)(w):ZW 342 #[ZU n] w (ZU (min n 1:Nat)) λw'=>Qc Qb w w':=by
 match n with
 |0=> apply WH func342;go_wp2;go_ret;exact⟨rfl,Zg _ _⟩
 |1=> apply WH func342;go_wp2;go_ret;exact⟨rfl,Zg _ _⟩
 |m+2=>
  have e:min (m+2) 1=1:=by omega
  rw[e];generalize c:m+2=k;have d:¬(k:Int)<1:=by omega
  have q:(1:Int)<(k:Int):=by omega
  have u:¬(k:Int)<=1:=by omega
  clear e c;apply WH func342;go_wp2;go_ret;exact⟨rfl,Zg _ _⟩
theorem Qjy(l c:Nat)(V:l<18446744073709551616)(U:c<18446744073709551616)(R:0<c)(w):ZW 345 #[ZU 0,ZU l,ZU c] w (.tuple #[ZU ((l/c:Nat):Int),ZU ((l%c:Nat):Int)]) λw'=>Qc Qb w w':=by
 have I:((c:Int)==0)=false:=by simp;omega
 have J:decide ((c:Int)<=0)=false:=by simp;omega
 have K:¬(c:Int)=0:=by omega
 have k:Int.tdiv (l:Int) (c:Int)=((l/c:Nat):Int):=by rw[Int.tdiv_eq_ediv_of_nonneg (by omega)];rfl
 have u:Int.tmod (l:Int) (c:Int)=((l%c:Nat):Int):=by rw[Int.tmod_eq_emod_of_nonneg (by omega)];rfl
 have z:(l:Int)/(c:Int)=((l/c:Nat):Int):=rfl;have B:(l:Int)%(c:Int)=((l%c:Nat):Int):=rfl;have d:l/c<=l:=Nat.div_le_self _ _;generalize l/c=q at k z d|-;have E:IntKind.u64.wrap (q:Int)=(q:Int):=IntWalk.u64_in _ (by omega);generalize l%c=r at u B|-;clear d;apply WH func345;go_wp2;go_quiet (fail);go_wp2;go_ret2;refine ⟨rfl,?_⟩;(exact Z0)
theorem Qs2(l c:Nat)(I:l<18446744073709551616)(E:c<18446744073709551616)(B:0<c)(w):ZW 344 #[.agg #[ZU 0,ZU l],ZU c] w (.tuple #[ZU ((l/c:Nat):Int),ZU ((l%c:Nat):Int),ZI 0]) λw'=>Qc Qb w w':=by
 have d:=O (Qjy l c I E B);have u:=O ((Zg Qb w).alloc (.cells #[ZU 0,ZU l] 334));have J:((c:Int)==0)=false:=by simp;omega
 have K:decide ((c:Int)<=0)=false:=by simp;omega
 generalize l/c=q at d|-;generalize l%c=r at d|-;go_enter func344,ntmps344;go_wp2_with fail;refine Zz (d.o _) ?_;intro w1 k;have z:=O (u.o.aA k);clear k;go_wp2;refine bodyPost_ret (v:=.tuple #[ZU q,ZU r,ZI 0]) (by simp[results,Tryz.results344,go_sem]) rfl ⟨rfl,z.o⟩
theorem Qqp(n:Nat)(h l:Int)(w):ZW 344 #[.agg #[ZU h,ZU l],ZU 0] w (.tuple #[ZU 0,ZU 0,ZI 2]) λw'=>Qc Qb w w':=by go_enter func344,ntmps344;go_wp2;refine bodyPost_ret (v:=.tuple #[ZU 0,ZU 0,ZI 2]) (by simp[results,Tryz.results344,go_sem]) rfl ⟨rfl,?_⟩;(exact Z0)
theorem Qsy(a c:Nat)(h:0<c):min (a/c+min (a%c) 1) Ca=upN a c:=by
 unfold upN;congr 1;have k:=Nat.div_add_mod a c;have q:=Nat.mod_lt a h;by_cases d:a%c=0
 .rw[d];have e:a+c-1=c-1+c*(a/c):=by omega
  rw[e,Nat.add_mul_div_left _ _ h,Nat.div_eq_of_lt (show c-1<c by omega)];simp
 .have e:a+c-1=(a%c-1)+c*(a/c+1):=by rw[Nat.mul_add];omega
  rw[e,Nat.add_mul_div_left _ _ h,Nat.div_eq_of_lt (show a%c-1<c by omega)];have:min (a%c) 1=1:=by omega
  omega
theorem Qir(a c:Nat)(ha:a<18446744073709551616)(V:c<18446744073709551616)(I:0<c)(w):ZW 339 #[ZU a,ZU 1,ZU c] w (.tuple #[ZU (upN a c:Int),ZI 0]) λw'=>Qc Qb w w':=by
 have J:=O (λw=>Dw a 1 w ha (by omega));rw[Nat.mul_one,Nat.div_eq_of_lt ha,Nat.mod_eq_of_lt ha]at J;have z:=O (Qs2 a c ha V I);have B:=O (Qpw (a%c));have d:=O (Mm (a/c) (min (a%c) 1) (by have:=Nat.div_le_self a c;omega) (by omega));rw[show Qa6 (a/c) (min (a%c) 1)=upN a c from Qsy a c I]at d;generalize min (a%c) 1=m at B d;generalize a/c=q at z d;generalize a%c=r at z B;generalize upN a c=u at d|-;clear ha V I;have HO:Hi (∀w,ZW 343 #[.agg #[.func (.func 342) #[] #[]],ZU a,ZU 1,ZU c] w (.tuple #[ZU u,ZI 0]) λw'=>Qc Qb w w'):=O (by
  intro w;have Z:=O (Qh.new w #[.func (.func 342) #[] #[]] 396);have C0:=O ((Zg Qb w).alloc (.cells #[.func (.func 342) #[] #[]] 396));apply WH func343;go_wp2_with fail;apply Zz (J.o _);intro w1 k;have C1:=O (C0.o.aA k);have B1:=O (k.blk Z.o (λh=>h));clear k;go_wp2_with fail;apply Zz (z.o _);intro w2 E;have C2:=O (C1.o.aA E);have K:=(E.blk B1.o (λh=>h)).cell 0;simp at K;clear E;go_wp2_with fail;apply Z9 (B.o _) (λ_ R=>C2.o.aA R);intro w3 C3;clear K;go_wp2_with fail;apply Z9 (d.o _) (λ_ U=>C3.o.aA U);intro w4 C4;go_wp2;exact bodyPost_ret (v:=.tuple #[ZU u,ZI 0]) (by simp[results,Tryz.results343,go_sem]) rfl ⟨rfl,C4.o⟩)
 apply WH func339;go_wp2_with fail;apply Zz (HO.o _);intro w1 k;go_wp2;exact bodyPost_ret (v:=.tuple #[ZU u,ZI 0]) (by simp[results,Tryz.results339,go_sem]) rfl ⟨rfl,k⟩
def cV(c:Jy):Value:=.agg #[ZU c.f,ZU c.l,ZU c.r]
theorem X8{P:Program}(c:Array TypeId)(t:TypeId)(k:IntKind)(a b:Int)(w):(Builtin.min_ c t #[.int k a,.int k b]).run P w=.ok (.int k (min a b)) w:=by
 have e:(if b<a then b else a)=min a b:=by split<;>omega
 rw[run_min_int2,e]
theorem Yd{P:Program}(c:Array TypeId)(t:TypeId)(k:IntKind)(a b:Int)(w):(Builtin.max_ c t #[.int k a,.int k b]).run P w=.ok (.int k (max a b)) w:=by
 have e:(if a<b then b else a)=max a b:=by split<;>omega
 rw[run_max_int2,e]
theorem Yz:Xw=4611686018427387904:=rfl
theorem Yf:Qq=9223372036854775808:=rfl
theorem Rs(a b:Nat)(ha:a<18446744073709551616)(z:b<18446744073709551616)(w):ZW 340 #[ZU a,ZU b] w (ZU (min Xw (a*b):Nat)) λw'=>Qc Qb w w':=by
 have c:=O (λw=>Dw a b w ha z);have k:min Xw (a*b)=min (a*b) Ca:=Nat.min_comm _ _;rw[k];by_cases h:a*b<18446744073709551616;·rw[Nat.div_eq_of_lt h,Nat.mod_eq_of_lt h]at c;have d:=O (λw=>Pd (a*b) w);generalize a*b=n at c d|-;generalize min n Ca=r at d|-;clear h ha z k;apply WH func340;go_wp2_with fail;apply Zz (c.o _);intro w1 q;go_wp2_with fail;apply Zz (d.o _);intro w2 u;go_wp2;go_ret;exact⟨rfl,(q.alloc _).aA u⟩
 .have B:0<a*b/18446744073709551616:=Nat.div_pos (by omega) (by decide);have E:min (a*b) Ca=4611686018427387904:=by rw[Na];omega
  rw[E];generalize a*b/18446744073709551616=I at c B;generalize a*b%18446744073709551616=K at c;have d:=O (λw=>Tg K w);have R:decide ((0:Int)<(I:Int))=true:=by simp;omega
  have J:decide (0<I)=true:=by simp;omega
  clear h ha z E B k;apply WH func340;go_wp2_with fail;apply Zz (c.o _);intro w1 q;go_wp2_with fail;apply Zz (d.o _);intro w2 u;go_wp2;go_ret;exact⟨rfl,(q.alloc _).aA u⟩
theorem Qiq(a b:Nat)(ha:a<=Xw)(w):ZW 364 #[ZU a,ZU b] w (ZU (a-b:Nat)) λw'=>Qc Qb w w':=by
 rw[Yz]at ha;by_cases h:a<b
 .have e:a-b=0:=by omega
  rw[e];apply WH func364;go_wp2;go_ret;exact⟨rfl,Zg _ _⟩
 .have c:=O (λw=>Pd (a-b) w);have e:min (a-b) Ca=a-b:=by rw[Na];omega
  rw[e]at c;have k:IntKind.u64.wrap ((a:Int)-(b:Int))=((a-b:Nat):Int):=by rw[IntWalk.u64_in _ (by omega)];omega
  have h':¬(a:Int)<(b:Int):=by omega
  generalize a-b=n at c k|-;clear e ha h;apply WH func364;go_wp2_with fail;apply Zz (c.o _);intro w2 d;go_wp2;go_ret;exact⟨rfl,d⟩
theorem L7(c:Jy)(w):ZW 265 #[cV c] w (.bool (decide (c.r<c.f))) λw'=>Qc Qb w w':=by unfold cV;apply WH func265;go_wp2;go_ret;exact⟨by simp,(Zg _ _).alloc _⟩
theorem Qgr(c:Jy)(k:c.May)(h:c.r<c.f)(w):ZW 336 #[cV c] w (.tuple #[ZU ((c.f-c.r)*c.l:Nat),.bool true]) λw'=>Qc Qb w w':=by
 have z:=O (λw=>L7 c w);have q:=O (λw=>Rs (c.f-c.r) c.l (by have:=k.hf;omega) (by have:=k.hl;omega) w);rw[decide_eq_true h]at z;have J:(c.f-c.r)*c.l<=1048576*1099511627776:=Nat.mul_le_mul (by have:=k.hf;omega) k.hl;rw[Nat.min_eq_right (by rw[Yz];omega)]at q;have K:IntKind.u64.wrap ((c.f:Int)-(c.r:Int))=((c.f-c.r:Nat):Int):=by have:=k.hf;rw[IntWalk.u64_in _ (by omega)];omega
 obtain⟨f,l,r⟩:=c;unfold cV at*;dsimp only at*;generalize(f-r)*l=n at q|-;generalize f-r=d at q K;clear J k h;apply WH func336;go_wp2_with fail;apply Zz (z.o _);intro w1 u;have E:=L6 (u.blk (Qh.new w _ _) (λh=>h));have R:=E;have B:=O (((Zg Qb w).alloc _).aA u);clear u;go_wp2_with fail;apply Zz (q.o _);intro w2 I;go_wp2;go_ret2;exact⟨rfl,B.o.aA I⟩
theorem Qpx(a:Nat)(ha:a<18446744073709551616)(w):ZW 339 #[ZU a,ZU 1,ZU 0] w (.tuple #[ZU 0,ZI 2]) λw'=>Qc Qb w w':=by
 have d:=O (λw=>Dw a 1 w ha (by omega));rw[Nat.mul_one,Nat.div_eq_of_lt ha,Nat.mod_eq_of_lt ha]at d;have B:=O (λw=>Qqp 0 0 (a:Int) w);clear ha;have E:Hi (∀w,ZW 343 #[.agg #[.func (.func 342) #[] #[]],ZU a,ZU 1,ZU 0] w (.tuple #[ZU 0,ZI 2]) λw'=>Qc Qb w w'):=O (by
  intro w;have q:=O ((Zg Qb w).alloc (.cells #[.func (.func 342) #[] #[]] 396));apply WH func343;go_wp2_with fail;apply Z9 (d.o _) (λ_ c=>q.o.aA c);intro w1 u;go_wp2_with fail;apply Z9 (B.o _) (λ_ k=>u.o.aA k);intro w2 z;go_wp2;exact bodyPost_ret (v:=.tuple #[ZU 0,ZI 2]) (by simp[results,Tryz.results343,go_sem]) rfl ⟨rfl,z.o⟩)
 apply WH func339;go_wp2_with fail;apply Zz (E.o _);intro w1 c;go_wp2;exact bodyPost_ret (v:=.tuple #[ZU 0,ZI 2]) (by simp[results,Tryz.results339,go_sem]) rfl ⟨rfl,c⟩
theorem Qmr{a c:Nat}(d:0<c)(ha:a<=Xw):upN a c=Tw a c:=by
 have h:=(D9 d (a:=a) (n:=a)).2 (Nat.le_mul_of_pos_left a d);have e:(a+c-1)/c=Tw a c:=by unfold Tw;rw[show a+(c-1)=a+c-1 by omega]
 unfold upN;rw[e,Nat.min_eq_left];exact Zp h ha
theorem Qk{S:Nat->Prop}{w}{b:Nat}{cs:Array Value}{t:TypeId}(h:Qh w b cs t)(c:¬S b)(x):Qh (Qz S w x) b cs t:=(Qv S w x).blk h c
theorem Qgl(s h n:Nat)(Z:s<18446744073709551616)(hh:h<=Xw)(V:n<18446744073709551616)(w):ZW 338 #[.agg #[ZU s,ZU h],ZU n] w (ZU (Hb h s n:Nat)) λw'=>Qc Qb w w':=by
 have hc:=Yz;have u:=O (λw=>Rs s n Z V w);have d:=O (λw=>Mm h (min Xw (s*n)) (by omega) (by omega) w);rw[show Qa6 h (min Xw (s*n))=Hb h s n from Nat.min_comm _ _]at d;generalize Hb h s n=r at d|-;generalize min Xw (s*n)=m at u d;clear hc Z hh V;have B:=O (Qh.new w #[ZU s,ZU h] 338);have C:=O ((Zg Qb w).alloc (.cells #[ZU s,ZU h] 338));have E:=λx=>Q4 (Qk (S:=Qb) B.o (λh=>h) x);apply WH func338;go_wp2;refine Qu [] [0,1,2,3,4] [5,6,7] [] (Qz (Qb) (w.alloc (.cells #[ZU s,ZU h] 338))) Zq (by kernel_rfl) (λ_ _ _ _ _ h=>h) (Qd Z0) ?_;simp only[pick,Zf,Ze,Zd];refine Qg ?_;iterate 5 (refine Ql (λK U=>?_);go_simp;refine U _ ?_;clear U K)
 refine Qg ?_;intro _ q;obtain⟨xo,c⟩:=q;subst c;simp only[Jd];have z:=O (Qv Qb (w.alloc (.cells #[ZU s,ZU h] 338)) xo);generalize Qz Qb (w.alloc (.cells #[ZU s,ZU h] 338)) xo=w3 at z|-;clear E;go_wp2_with fail;apply Z9 (u.o _) (λ_ J=>z.o.aA J);intro w4 I;go_wp2;refine⟨Qd I.o,?_⟩;go_wp2_with fail;apply Z9 (d.o _) (λ_ R=>I.o.aA R);intro w5 k;go_wp2;refine⟨Qd k.o,?_⟩;go_wp2;refine⟨Qd k.o,?_⟩;go_wp2;go_ret;exact⟨rfl,C.o.aA k.o⟩
theorem As(s h y:Nat)(hs:s<18446744073709551616)(V:h<=Xw)(hy:y<18446744073709551616)(w):ZW 335 #[.agg #[ZU s,ZU h],ZU y] w (ZU (Y5 h s y:Nat)) λw'=>Qc Qb w w':=by
 have K:=Yz;have I:=Yf;unfold Y5;have B:=O (Qh.new w #[ZU s,ZU h] 338);have C:=O ((Zg Qb w).alloc (.cells #[ZU s,ZU h] 338));by_cases E:y<=h;·rw[if_pos E];have R:=Q4 B.o;clear K I;apply WH func335;exact WD C
 .rw[if_neg E];have c:IntKind.u64.wrap ((y:Int)-(h:Int))=((y-h:Nat):Int):=by rw[IntWalk.u64_in _ (by omega)];omega
  have hd:decide (y<=h)=false:=by simpa using E
  by_cases q:s=0;·subst q;rw[if_pos (.inl rfl),I];have k:=O (λw=>Qpx (y-h) (by omega) w);generalize y-h=d at c k;clear K I E hs V;have R:=Q4 B.o;apply WH func335;go_wp2_with fail;apply Zz (k.o _);intro w1 J;go_wp2;go_ret;exact⟨rfl,C.o.aA J⟩
  .have k:=O (λw=>Qir (y-h) s (by omega) hs (by omega) w);by_cases z:Xw<y
   .rw[if_pos (.inr z),I];have Z:(4611686018427387904:Int)<(y:Int):=by omega
    generalize upN (y-h) s=u at k;generalize y-h=d at c k;clear K I E V z q;have R:=Q4 B.o;apply WH func335;go_wp2_with fail;apply Zz (k.o _);intro w1 J;go_wp2;go_ret;exact⟨rfl,C.o.aA J⟩
   .rw[if_neg (by omega)];rw[Qmr (by omega) (by omega)]at k;have Z:¬(4611686018427387904:Int)<(y:Int):=by omega
    generalize Tw (y-h) s=u at k|-;generalize y-h=d at c k;clear K I E V z q;have R:=Q4 B.o;apply WH func335;go_wp2_with fail;apply Zz (k.o _);intro w1 J;go_wp2;go_ret;exact⟨rfl,C.o.aA J⟩
def Xh.h1(r:Xh):Nat:=if r.l=[]then 0 else Vk r.c.f 0 r.l
def Xh.h2(r:Xh):Nat:=if r.l=[]then 0 else Vk r.c.r ((r.c.f-r.c.r)*r.c.l) r.l
def Pk(r:Xh)(x:Nat)(c d:Nat)(n:Int):Array Value:=#[ZU r.c.f,ZU r.c.l,ZU r.c.r,ZI n,ZU x,ZU r.c.f,ZU c,ZU r.c.r,ZU d]
structure Ve(w:World)(F:Fp)(b:Nat)(r:Xh):Prop where
 bd:Bd F w
 own:F b
 may:r.c.May
 bent:r.c.r<r.c.f
 ok:Uj r.l
 rise:Ew r.l
 blk:Qh w b (Pk r (Ji r.l) r.h1 r.h2 r.l.length) 340
theorem bentP:Hf Ve where
 bd h:=h.bd
 own h:=h.own
 aB h hc hd:=⟨h.bd.later hc,h.own,h.may,h.bent,h.ok,h.rise,hc.blk h.blk (hd _ h.own)⟩
 more h hs hb:=⟨hb,hs _ h.own,h.may,h.bent,h.ok,h.rise,h.blk⟩
theorem Qdl(s o:Nat)(l:Uw):Vk s o l<=Xw:=Nat.min_le_left _ _
theorem Xh.h1_cap(r:Xh):r.h1<=Xw:=by unfold Xh.h1;split;exact Nat.zero_le _;exact Qdl _ _ _
theorem Xh.h2_cap(r:Xh):r.h2<=Xw:=by unfold Xh.h2;split;exact Nat.zero_le _;exact Qdl _ _ _
theorem Qcv{w}{F:Fp}{b:Nat}{r:Xh}(h:Ve w F b r):ZW 334 #[ptr b] w (.bool (r.l.length==0)) λw'=>w=w':=by
 unfold ptr;have c:=Av h.blk;have e:((r.l.length:Int)==0)=(r.l.length==0):=by
  cases r.l with
  |nil=>rfl
  |cons k l=>simp;omega
 rw[<-e];clear h e;generalize(r.l.length:Int)=n at*;apply WH func334;exact WE
theorem Qn5(c:Jy)(E:c.May)(z:c.r<c.f)(w):Cl 252 #[cV c] w λe w'=>∃b,e=.returned (.tuple #[ptr b,ZI 0])/\Ve w' (Qn Qb w w') b ⟨c,[]⟩/\Qc Qb w w':=by
 have K:=O (K8 c);have J:=O (L7 c);rw[decide_eq_true E]at K;rw[decide_eq_true z]at J;have d:∀(W w'),Qc Qb w W->w'=W.alloc (.cells (Pk ⟨c,[]⟩ 0 0 0 0) 340)->Ve w' (Qn Qb w w') W.heap.size ⟨c,[]⟩/\Qc Qb w w':=by rintro W w' Z rfl;have h1:=Z.size;exact⟨⟨λk hk=>hk.elim (λh=>h.elim) (λh=>h.2),.inr ⟨h1,by simp⟩,E,z,Uj.nil,.nil,Qh.new _ _ _⟩,Z.alloc _⟩
 have HF:=O d;obtain⟨f,l,r⟩:=c;unfold cV at*;dsimp only[Pk]at*;have B:=O (Qh.new w #[ZU f,ZU l,ZU r] 27);have C:=O ((Zg Qb w).alloc (.cells #[ZU f,ZU l,ZU r] 27));clear E z d;apply WH func252;go_wp2_with fail;apply Zz (K.o _);intro w1 q;have C1:=O (C.o.aA q);have I:=O (q.blk B.o (λh=>h));clear q;have R:=L6 I.o;go_wp2_with fail;apply Zz (J.o _);intro w2 u;have C2:=O (C1.o.aA u);have B2:=O (u.blk I.o (λh=>h));clear u R;have R:=L6 B2.o;go_wp2;go_ret2;exact⟨_,rfl,HF.o _ _ C2.o rfl⟩
theorem Qn4{w}{F:Fp}{b:Nat}{r:Xh}(h:Ve w F b r):Cl 350 #[ptr b] w λe w'=>∃b',e=.returned (ptr b')/\Ve w' (Qn Qb w w') b' r/\Qc Qb w w':=by
 have c:∀(w'),w'=w.alloc (.cells (Pk r (Ji r.l) r.h1 r.h2 r.l.length) 340)->Ve w' (Qn Qb w w') w.heap.size r/\Qc Qb w w':=by rintro w' rfl;exact⟨⟨λk q=>q.elim (λh=>h.elim) (λh=>h.2),.inr ⟨Zv _,by simp⟩,h.may,h.bent,h.ok,h.rise,Qh.new _ _ _⟩,(Zg _ _).alloc _⟩
 have d:=O c;have u:=Av h.blk;unfold ptr;dsimp only[Pk]at*;clear c;apply WH func350;go_wp2;go_ret;exact⟨_,rfl,d.o _ rfl⟩
theorem Qgm{w}{F:Fp}{b:Nat}{r:Xh}(h:Ve w F b r)(k:r.l=[])(y:Nat):ZW 331 #[ptr b,ZU y] w (ZU (r.reach y:Nat)) λw'=>Qc Qb w w':=by
 have c:=O (Qcv h);rw[k]at c;have e:r.reach y=if y=0 then 0 else 9223372036854775808:=by unfold Xh.reach Kn;rw[if_pos k]
 dsimp only[List.length_nil]at c;rw[e];by_cases d:y=0;·subst d;apply WH func331;go_wp2_with fail;apply Zy c;rintro w1 rfl;go_wp2;go_ret;exact⟨rfl,Zg _ _⟩
 .rw[if_neg d];have q:((y:Int)==0)=false:=by simp;omega
  clear d e;apply WH func331;go_wp2_with fail;apply Zy c;rintro w1 rfl;go_wp2;go_ret;exact⟨rfl,Zg _ _⟩
theorem Qgn{w}{F:Fp}{b:Nat}{r:Xh}(h:Ve w F b r)(U:r.l≠[])(y:Nat)(hy:y<18446744073709551616):ZW 331 #[ptr b,ZU y] w (ZU (r.reach y:Nat)) λw'=>Qc Qb w w':=by
 have HN:=O (Qcv h);have k:(r.l.length==0)=false:=by simpa using U
 rw[k]at HN;have hm:=h.may;have hx:Ji r.l<=Qq:=h.ok.last;have e:r.reach y=O6 (Ji r.l) (max (Y5 r.h1 r.c.f y) (Y5 r.h2 r.c.r y)):=by unfold Xh.h1 Xh.h2;rw[if_neg U,if_neg U];exact(Qj0 h.bent h.ok U).symm
 have H1:=O (λw=>As r.c.f r.h1 y (by have:=hm.hf;omega) r.h1_cap hy w);have H2:=O (λw=>As r.c.r r.h2 y (by have:=hm.hr;omega) r.h2_cap hy w);have E:=λx=>Av (Qk (S:=Qb) h.blk (λh=>h) x);have B:=O h.blk;have u:∀h s,Y5 h s y<=9223372036854775808:=λh s=>by
  unfold Y5;have e1:=Yz;have e2:=Yf;split;·omega
  .split;·omega
   .rename_i h1;have:=(D9 (a:=y-h) (b:=s) (n:=y) (by omega)).2 (by have:=Nat.le_mul_of_pos_left y (show 0<s by omega);omega);omega
 have k1:=u r.h1 r.c.f;have k2:=u r.h2 r.c.r;rw[e];clear e u hm h;unfold O6;generalize Y5 r.h1 r.c.f y=n1 at*;generalize Y5 r.h2 r.c.r y=n2 at*;rw[Yf]at*;have k3:max n1 n2<=9223372036854775808:=by omega
 clear k1 k2;dsimp only[Pk]at*;generalize Ji r.l=x at*;have ab:IntKind.u64.wrap ((9223372036854775808:Int)-(x:Int))=((9223372036854775808-x:Nat):Int):=by rw[IntWalk.u64_in _ (by omega)];omega
 have V:∀n,n<9223372036854775808-x->IntKind.u64.wrap ((x:Int)+(n:Int))=((x+n:Nat):Int):=λn h=>by rw[IntWalk.u64_in _ (by omega)];omega
 clear k U;have q:∀(W),Qc Qb w W->Qh W b (Pk r x r.h1 r.h2 r.l.length) 340:=λW c=>c.blk B.o (λh=>h);have TL:=O q;dsimp only[Pk]at TL;clear q;obtain⟨n,hn⟩:=Zx (max n1 n2);rw[<-hn]at k3|-;have I:=V n;obtain⟨d,Eu⟩:=Zx (9223372036854775808-x);rw[<-Eu]at ab I|-;clear V Eu;obtain⟨z,J⟩:=Zx (if d<=n then 9223372036854775808 else x+n);rw[<-J];have hq:(n1<n2/\n=n2)\/(¬n1<n2/\n=n1):=by omega
 have hr:(decide (d<=n)=true/\z=9223372036854775808)\/(decide (d<=n)=false/\IntKind.u64.wrap ((x:Int)+(n:Int))=(z:Int)):=by
  by_cases hc:d<=n;·exact .inl ⟨by simpa using hc,by rw[J,if_pos hc]⟩
  .exact .inr ⟨by simpa using hc,by rw[J,if_neg hc];exact I (by omega)⟩
 clear I hx k3 hn J;rcases hq with⟨aa,rfl⟩|⟨aa,rfl⟩<;>rcases hr with⟨hd,J⟩|⟨hd,J⟩;all_goals(try subst J)
 all_goals
  apply WH func331;go_wp2_with fail;apply Zy HN;rintro w1 rfl;go_wp2;refine ZE [] [0,1,2,3,4,6,7,8,9,10] [5,11,12,13] [] (Qb) w ?_;simp only[pick,Zf,Ze,Zd];refine Qg ?_;iterate 10 (refine Ql (λK hK=>?_);go_simp;refine hK _ ?_;clear hK K)
  refine Qg ?_;intro _ ac;obtain⟨xo,Z⟩:=ac;subst Z;simp only[Jd];have c3:=O (Qv Qb w xo);generalize Qz Qb w xo=w3 at c3|-;clear E;go_wp2_with fail;apply Z9 (H1.o _) (λ_ d4=>c3.o.aA d4);intro w4 c4;go_wp2;refine⟨Qd c4.o,?_⟩;go_wp2_with fail;apply Z9 (H2.o _) (λ_ d5=>c4.o.aA d5);intro w5 R;go_wp2;refine⟨Qd R.o,?_⟩;go_wp2;refine⟨Qd R.o,?_⟩;go_wp2;refine⟨Qd R.o,?_⟩;have a0:=Av (TL.o _ R.o);exact WD R
theorem Xh.start_h1{r:Xh}(d:Uj r.l)(x y:Nat):(r.start x y).h1=if r.l=[]then min y Xw else min (Hb r.h1 r.c.f (max (min x Qq) (Ji r.l)-Ji r.l)) (min y Xw):=by
 unfold Xh.h1 Xh.start Dg;rw[if_neg (by simp)];by_cases c:r.l=[];·rw[if_pos c,c,List.nil_append,Qdm];omega
 .rw[if_neg c,if_neg c,F9 d c (by omega)];dsimp only;omega
theorem Xh.start_h2{r:Xh}(d:Uj r.l)(x y:Nat):(r.start x y).h2=if r.l=[]then min Xw (min y Xw+(r.c.f-r.c.r)*r.c.l)else min (Hb r.h2 r.c.r (max (min x Qq) (Ji r.l)-Ji r.l)) (min Xw (min y Xw+(r.c.f-r.c.r)*r.c.l)):=by
 unfold Xh.h2 Xh.start Dg;rw[if_neg (by simp)];by_cases c:r.l=[];·rw[if_pos c,c,List.nil_append,Qdm]
 .rw[if_neg c,if_neg c,F9 d c (by omega)]
theorem Ew.start{l:Uw}(q:Uj l)(h:Ew l)(x y:Nat):Ew (Dg l x y):=by
 refine List.pairwise_append.2 ⟨h,by simp,λj c k d=>?_⟩;obtain rfl:k=_:=by simpa using d
 exact Zp (q.rise j c) (Nat.le_max_right _ _)
section
attribute [local go_sem ↓] X8 Yd
def Qqv(b H:Nat)(w:World)(r:Xh)(x z d c q Y u n:Nat)(i:Value)(wr:World):Prop:=
 (i=ZI 0/\Qh wr b (Pk r x z d n) 340/\Qh wr H #[ZU Y,ZU u] 360/\Qc (λk=>k=b) w wr)\/
 (i=ZI 1/\Qh wr b (Pk r x c d n) 340/\Qh wr H #[ZU c,ZU u] 360/\Qc (λk=>k=b) w wr)\/
 (i=ZI 2/\Qh wr b (Pk r x c q n) 340/\Qh wr H #[ZU c,ZU q] 360/\Qc (λk=>k=b) w wr)
def Po(p:Bool)(a o:Nat):Nat:=if p then min a o else o
theorem Qdp{p:Bool}{n:Nat}(d:p=decide ((0:Int)<(n:Int)))(a o:Nat):(decide (0<n)=true/\decide (a<o)=true/\Po p a o=a)\/(decide (0<n)=true/\decide (a<o)=false/\Po p a o=o)\/(decide (0<n)=false/\Po p a o=o):=by
 unfold Po;subst d;by_cases h:0<n
 .have h':(0:Int)<(n:Int):=by omega
  rw[if_pos (by simpa using h)];by_cases c:a<o;·exact .inl ⟨by simpa using h,by simpa using c,by omega⟩
  .exact .inr (.inl ⟨by simpa using h,by simpa using c,by omega⟩)
 .rw[if_neg (by simpa using h)];exact .inr (.inr ⟨by simpa using h,rfl⟩)
theorem Qjz{w}{F:Fp}{b:Nat}{r:Xh}(h:Ve w F b r)(hn:r.l.length<4611686018427387904)(x y:Nat)(hx:x<18446744073709551616)(hy:y<18446744073709551616):
  ZW 332 #[ptr b,ZU x,ZU y] w (.tuple #[]) λw'=>Ve w' (Qn F w w') b (r.start x y)/\Qc F w w':=by
 have hm:=h.may;have ae:=h.ok.last;obtain⟨X,hX⟩:=Zx (max (min x Qq) (Ji r.l));obtain⟨Y,hY⟩:=Zx (min y Xw);obtain⟨p,hp⟩:∃p:Bool,p=decide ((0:Int)<(r.l.length:Int)):=⟨_,rfl⟩;have R:r.l=[]↔p=false:=by rw[hp];cases r.l<;>simp
 obtain⟨c,af⟩:=Zx (min Xw (Y+(r.c.f-r.c.r)*r.c.l));obtain⟨d,hd⟩:=Zx (X-Ji r.l);have e1:=r.start_h1 h.ok x y;have e2:=r.start_h2 h.ok x y;rw[<-hX,<-hd,<-hY]at e1 e2;rw[<-af]at e2;obtain⟨q,ab⟩:=Zx (Hb r.h1 r.c.f d);obtain⟨u,ac⟩:=Zx (Hb r.h2 r.c.r d);rw[<-ab]at e1;rw[<-ac]at e2;have f1:(r.start x y).h1=Po p q Y:=by
  rw[e1];unfold Po;cases p;·rw[if_pos (R.2 rfl)];simp
  .rw[if_neg (λh=>by have:=R.1 h;cases this)];simp
 have f2:(r.start x y).h2=Po p u c:=by
  rw[e2];unfold Po;cases p;·rw[if_pos (R.2 rfl)];simp
  .rw[if_neg (λh=>by have:=R.1 h;cases this)];simp
 clear e1 e2 R;have ao:=Yz;have aq:=Yf;have ap:(r.c.f-r.c.r)*r.c.l<=1048576*1099511627776:=Nat.mul_le_mul (by have:=hm.hf;omega) hm.hl;have HB:=O (L7 r.c);rw[decide_eq_true h.bent]at HB;have HU:=O (Qgr r.c hm h.bent);have HP:=O (Mm Y ((r.c.f-r.c.r)*r.c.l) (by omega) (by omega));rw[show Qa6 Y ((r.c.f-r.c.r)*r.c.l)=c by rw[af];exact Nat.min_comm _ _]at HP;have A1:=O (Qgl r.c.f r.h1 d (by have:=hm.hf;omega) r.h1_cap (by omega));have A2:=O (Qgl r.c.r r.h2 d (by have:=hm.hr;omega) r.h2_cap (by omega));rw[<-ab]at A1;rw[<-ac]at A2;have ag:∀w',Qh w' b (Pk r X (Po p q Y) (Po p u c) (r.l.length+1:Int)) 340->Qc (λk=>k=b) w w'->Ve w' (Qn F w w') b (r.start x y)/\Qc F w w':=λw' K hc=>by
  have ai:Qc F w w':=hc.sub (λk hk=>by rw[hk];exact h.own);refine⟨⟨h.bd.ext ai,.inl h.own,hm,h.bent,h.ok.start x y,h.rise.start h.ok x y,?_⟩,ai⟩;rw[f1,f2];have e3:Ji (r.start x y).l=X:=by rw[hX];exact Of _ _ _
  rw[e3];have e4:((r.start x y).l.length:Int)=(r.l.length+1:Int):=by simp[Xh.start,Dg]
  rw[e4];exact K
 have HF:=O ag;have B0:=O h.blk;have an:=B0.o.lt;have av:IntKind.u64.wrap ((X:Int)-(Ji r.l:Int))=(d:Int):=by rw[IntWalk.u64_in _ (by omega)];omega
 have ar:max (min (x:Int) 9223372036854775808) (Ji r.l:Int)=(X:Int):=by omega
 have au:min (y:Int) 4611686018427387904=(Y:Int):=by omega
 unfold ptr cV at*;have N1:(decide (0<r.l.length)=true/\decide (q<Y)=true/\Po p q Y=q)\/(decide (0<r.l.length)=true/\decide (q<Y)=false/\Po p q Y=Y)\/(decide (0<r.l.length)=false/\Po p q Y=Y):=Qdp hp q Y;have N2:(decide (0<r.l.length)=true/\decide (u<c)=true/\Po p u c=u)\/(decide (0<r.l.length)=true/\decide (u<c)=false/\Po p u c=c)\/(decide (0<r.l.length)=false/\Po p u c=c):=Qdp hp u c;have aj:=O N1;have ak:=O N2;clear N1 N2;generalize Po p q Y=n1 at*;generalize Po p u c=n2 at*;generalize r.l.length=n at*;generalize r.h1=al at*;generalize r.h2=am at*;generalize Ji r.l=x0 at*;generalize(r.c.f-r.c.r)*r.c.l=ov at*;clear ag f1 f2 ab ac hm h ap af ao aq hX hY hd hp ae;have U:=Av B0.o;apply WH func332;go_wp2_with fail;apply Zz (HB.o _);intro w1 c1;have C1:=O c1;have B1:=O (c1.blk B0.o (λh=>h));clear c1 U;have U:=Av B1.o;go_wp2_with fail;apply Zz (HU.o _);intro w2 c2;have C2:=O (C1.o.aA c2);have B2:=O (c2.blk B1.o (λh=>h));clear c2 U;go_wp2_with fail;with_reducible apply Zz (HP.o _)
 intro w3 c3;have C3:=O ((C2.o.aA c3).alloc (.cells #[ZU Y,ZU c] 360));have L3:=O (Qh.new w3 #[ZU Y,ZU c] 360);have B3:=O ((c3.blk B2.o (λh=>h)).alloc (.cells #[ZU Y,ZU c] 360));have hH:b<w3.heap.size:=Nat.lt_of_lt_of_le an ((C2.o.aA c3).size);have aa:=(C2.o.aA c3).size;clear c3;obtain⟨H,ah⟩:=Zx (w3.heap.size);go_wp2_with fail;rw[<-ah]at L3 hH aa|-;obtain⟨W,hW⟩:=Zx (w3.alloc (.cells #[ZU Y,ZU c] 360));rw[<-hW]at L3 B3 C3|-;clear hW ah;go_quiet (fail);go_wp2;go_loopw [52] (λi wr=>Qqv b H w r x0 al am n1 n2 Y c n i wr) (λi _=>2-(intOf i).toNat);case atStart=>exact .inl ⟨rfl,B3.o,L3.o,C3.o.none.drewN _⟩
 case round=>
  rcases hrel with hrel|hrel|hrel
  .obtain⟨rfl,K,hh,hc⟩:=hrel;have C4:=O hc;have B4:=O K;have L4:=O hh;clear K hh hc;have U:=Av B4.o;have g0:=Q4 L4.o;have i0:∀w,(Instr.index 392 (.agg #[.pointer (some ⟨b,5,none⟩),.pointer (some ⟨b,7,none⟩)]) (ZI 0)).run prog w=.ok (.pointer (some ⟨b,5,none⟩)) w:=λ_=>by kernel_rfl
   go_wp2_with fail;with_reducible apply Zz (A1.o _)
   intro w4 J;have C5:=O (C4.o.aA J.none);have z:=O (J.blk B4.o (λh=>h));have I:=O (J.blk L4.o (λh=>h));have s5:=O J.size;clear J U g0;have U:=Av z.o;have g0:=Q4 I.o;have zb:=z.o.frozen;have zH:=I.o.frozen;have s6:=z.o.lt;rcases aj.o with⟨q1,q2,rfl⟩|⟨q1,q2,rfl⟩|⟨q1,rfl⟩
   .go_wp2;go_roundw;case rel=>exact .inr (.inl ⟨rfl,(z.o.other _ (Nat.ne_of_gt hH)).set' 6 _ rfl,(I.o.set' 0 _ rfl).other _ (Nat.ne_of_lt hH),(C5.o.setCell _ (.inr aa)).setCell _ (.inl rfl)⟩)
    case measure=>decide
   .go_wp2;go_roundw;case rel=>exact .inr (.inl ⟨rfl,z.o.set' 6 _ rfl,I.o.other _ (Nat.ne_of_lt hH),C5.o.setCell _ (.inl rfl)⟩)
    case measure=>decide
   .go_wp2;go_roundw;case rel=>exact .inr (.inl ⟨rfl,z.o.set' 6 _ rfl,I.o.other _ (Nat.ne_of_lt hH),C5.o.setCell _ (.inl rfl)⟩)
    case measure=>decide
  .obtain⟨rfl,K,hh,hc⟩:=hrel;have C4:=O hc;have B4:=O K;have L4:=O hh;clear K hh hc;have U:=Av B4.o;have g0:=Q4 L4.o;have i0:∀w,(Instr.index 392 (.agg #[.pointer (some ⟨b,5,none⟩),.pointer (some ⟨b,7,none⟩)]) (ZI 1)).run prog w=.ok (.pointer (some ⟨b,7,none⟩)) w:=λ_=>by kernel_rfl
   go_wp2_with fail;with_reducible apply Zz (A2.o _)
   intro w4 J;have C5:=O (C4.o.aA J.none);have z:=O (J.blk B4.o (λh=>h));have I:=O (J.blk L4.o (λh=>h));have s5:=O J.size;clear J U g0;have U:=Av z.o;have g0:=Q4 I.o;have zb:=z.o.frozen;have zH:=I.o.frozen;have s6:=z.o.lt;rcases ak.o with⟨q1,q2,rfl⟩|⟨q1,q2,rfl⟩|⟨q1,rfl⟩
   .go_wp2;go_roundw;case rel=>exact .inr (.inr ⟨rfl,(z.o.other _ (Nat.ne_of_gt hH)).set' 8 _ rfl,(I.o.set' 1 _ rfl).other _ (Nat.ne_of_lt hH),(C5.o.setCell _ (.inr aa)).setCell _ (.inl rfl)⟩)
    case measure=>decide
   .go_wp2;go_roundw;case rel=>exact .inr (.inr ⟨rfl,z.o.set' 8 _ rfl,I.o.other _ (Nat.ne_of_lt hH),C5.o.setCell _ (.inl rfl)⟩)
    case measure=>decide
   .go_wp2;go_roundw;case rel=>exact .inr (.inr ⟨rfl,z.o.set' 8 _ rfl,I.o.other _ (Nat.ne_of_lt hH),C5.o.setCell _ (.inl rfl)⟩)
    case measure=>decide
  .obtain⟨rfl,K,hh,hc⟩:=hrel;have zb:=K.frozen;have U:=Av K;go_wp2;refine WB rfl rfl ⟨rfl,HF.o _ ((K.set' 4 _ rfl).set' 3 _ rfl) ((hc.setCell _ (.inl rfl)).setCell _ (.inl rfl))⟩
end
section
def Dd:Value:=.func (.func 180) #[] #[]
def Vv:Value:=.func (.func 181) #[] #[]
def Yo(n:Nat)(i:Int):Value:=.agg #[ZU n,ZI i]
def Tr.aH:Tr->Value
 | .nil=>.pointer none
 | .aD x _ _ _=>ZP x.a
def It(x:Nd)(c:Bool)(p q:Value):Array Value:=#[ZU x.n,ZI x.i,ZU x.v,ZU x.sv,ZI x.si,.bool c,p,q]
def Qgc(w:World)(b:Nat):Prop:=∃(p:Value)(n:Int),Qh w b #[Dd,Vv,p,ZI n] 269
def Jw(w:World):Tr->Prop
 | .nil=>True
 | .aD x c l r=>Qh w x.a (It x c l.aH r.aH) 267/\Jw w l/\Jw w r
structure Kc(w:World)(b:Nat)(t:Tr):Prop where
 top:Qgc w b
 nd:(b::t.aC).Nodup
 at':Jw w t
theorem Jw.aB{w w'}{S:Fp}(d:Qc S w w'):∀(t:Tr),Jw w t->(∀a∈t.aC,¬S a)->Jw w' t
 | .nil,_,_=>trivial
 | .aD x c l r,⟨h1,h2,h3⟩,hS=>⟨d.blk h1 (hS x.a (by simp[Tr.aC])),Jw.aB d l h2 (λa ha=>hS a (by simp[Tr.aC,ha])),Jw.aB d r h3 (λa ha=>hS a (by simp[Tr.aC,ha]))⟩
theorem Jw.lt{w}:∀(t:Tr),Jw w t->∀a∈t.aC,a<w.heap.size
 | .nil,_,a,h=>by simp[Tr.aC]at h
 | .aD x c l r,⟨h1,h2,h3⟩,a,h=>by
  simp only[Tr.aC,Zl,Zu]at h;rcases h with h|rfl|h;·exact Jw.lt l h2 a h
  .exact h1.lt
  .exact Jw.lt r h3 a h
theorem Qgc.aB{w w'}{S:Fp}{b:Nat}(h:Qgc w b)(d:Qc S w w')(c:¬S b):Qgc w' b:=by obtain⟨p,n,h⟩:=h;exact⟨p,n,d.blk h c⟩
theorem Kc.aB{w w'}{S:Fp}{b:Nat}{t:Tr}(h:Kc w b t)(d:Qc S w w')(c:∀a∈b::t.aC,¬S a):Kc w' b t:=
 ⟨h.top.aB d (c b (List.mem_cons_self)),h.nd,Jw.aB d t h.at' λa ha=>c a (Zr _ ha)⟩
theorem Su(n:Nat)(i:Int)(v:Nat)(w):ZW 180 #[Yo n i,ZU v] w (.agg #[ZU v,ZI i]) λw'=>Qc Qb w w':=by
 unfold Yo;apply WH func180;go_wp2;refine bodyPost_ret (v:=.agg #[ZU v,ZI i]) ?_ rfl ⟨rfl,?_⟩;·simp[*,results,Tryz.results180,go_sem]
 ·(exact Z0)
section
theorem Qfm(a b c d:Int)(w):(binOp .eql 205 (.agg #[ZU a,ZI b]) (.agg #[ZU c,ZI d])).run prog w=.ok (.bool ((a==c)&&(b==d))) w:=by
 by_cases h:a=c
 .by_cases k:b=d;·subst h k;go_simp
  .subst h;have e:(a==a&&b==d)=false:=by simpa using k
   rw[e];go_simp;try simp[k]
 .have e:(a==c&&b==d)=false:=by simp[h]
  rw[e];go_simp;try simp[h]
end
attribute [local go_sem ↓] Qfm
theorem Qkt(a b:Nat×Int):(a=b/\Xn a b=a)\/(a≠b/\a.1<b.1/\Xn a b=a)\/(a≠b/\a.1=b.1/\a.2<b.2/\Xn a b=a)\/(a.1=b.1/\b.2<a.2/\Xn a b=b)\/(b.1<a.1/\Xn a b=b):=by
 obtain⟨k,q⟩:=a;obtain⟨u,z⟩:=b;unfold Xn;by_cases h:(k,q)=(u,z);·exact .inl ⟨h,if_pos (.inl h)⟩
 .by_cases d:k<u;·exact .inr (.inl ⟨h,d,if_pos (.inr (.inl d))⟩)
  .by_cases c:k=u
   .by_cases B:q<z;·exact .inr (.inr (.inl ⟨h,c,B,if_pos (.inr (.inr ⟨c,B⟩))⟩))
    .refine .inr (.inr (.inr (.inl ⟨c,?_,if_neg (by simp only[not_or];exact⟨h,d,λh=>B h.2⟩)⟩)));have:q≠z:=λe=>h (by rw[c,e]);dsimp only;omega
   .exact .inr (.inr (.inr (.inr ⟨by dsimp only;omega,if_neg (by simp only[not_or];exact⟨h,d,λh=>c h.1⟩)⟩)))
theorem Qag(a b:Nat×Int)(w):ZW 181 #[.agg #[ZU a.1,ZI a.2],.agg #[ZU b.1,ZI b.2]] w (.agg #[ZU ((Xn a b).1:Int),ZI (Xn a b).2]) λw'=>Qc Qb w w':=by
 rcases Qkt a b with⟨h,e⟩|⟨h,u,e⟩|⟨h,u,B,e⟩|⟨u,B,e⟩|⟨u,e⟩;all_goals
  rw[e];clear e;obtain⟨c,d⟩:=a;obtain⟨k,q⟩:=b;dsimp only at*
 .obtain⟨rfl,rfl⟩:c=k/\d=q:=by simpa using h
  have z:((c:Int)==(c:Int))=true:=by simp
  have I:(d==d)=true:=by simp
  clear h;generalize(c:Int)=x at*;go_enter func181,ntmps181;go_wp2;refine bodyPost_ret (v:=.agg #[ZU x,ZI d]) ?_ rfl ⟨rfl,?_⟩;·simp[*,results,Tryz.results181,go_sem]
  ·(exact Z0)
 .have z:((c:Int)==(k:Int))=false:=by simp;omega
  have E:decide ((c:Int)<(k:Int))=true:=by simp;omega
  clear h u;generalize(c:Int)=x at*;generalize(k:Int)=y at*;go_enter func181,ntmps181;go_wp2;refine bodyPost_ret (v:=.agg #[ZU x,ZI d]) ?_ rfl ⟨rfl,?_⟩;·simp[*,results,Tryz.results181,go_sem]
  ·(exact Z0)
 .subst u;have z:((c:Int)==(c:Int))=true:=by simp
  have I:(d==q)=false:=by simp;omega
  have E:decide ((c:Int)<(c:Int))=false:=by simp
  have J:decide (d<q)=true:=by simpa using B
  clear h B;generalize(c:Int)=x at*;go_enter func181,ntmps181;go_wp2;refine bodyPost_ret (v:=.agg #[ZU x,ZI d]) ?_ rfl ⟨rfl,?_⟩;·simp[*,results,Tryz.results181,go_sem]
  ·(exact Z0)
 .subst u;have z:((c:Int)==(c:Int))=true:=by simp
  have I:(d==q)=false:=by simp;omega
  have E:decide ((c:Int)<(c:Int))=false:=by simp
  have J:decide (d<q)=false:=by simp;omega
  clear B;generalize(c:Int)=x at*;go_enter func181,ntmps181;go_wp2;refine bodyPost_ret (v:=.agg #[ZU x,ZI q]) ?_ rfl ⟨rfl,?_⟩;·simp[*,results,Tryz.results181,go_sem]
  ·(exact Z0)
 .have z:((c:Int)==(k:Int))=false:=by simp;omega
  have E:decide ((c:Int)<(k:Int))=false:=by simp;omega
  clear u;generalize(c:Int)=x at*;generalize(k:Int)=y at*;go_enter func181,ntmps181;go_wp2;refine bodyPost_ret (v:=.agg #[ZU y,ZI q]) ?_ rfl ⟨rfl,?_⟩;·simp[*,results,Tryz.results181,go_sem]
  ·(exact Z0)
theorem Cx{P:Program}(w)(d:Nat)(t:TypeId)(ps q:Array TypeId)(u:Bool)(h:P.underlying t=some (.func ps q u))(k:Fn)(c e:Array Value):(Op.equalIn (d+1) t (.func k c e) .nilFunc).run P w=.ok false w:=by simp[Op.equalIn,run_underlying h]
theorem Pf{P:Program}(w)(t:TypeId)(ps q:Array TypeId)(u:Bool)(h:P.underlying t=some (.func ps q u))(k:Fn)(c d:Array Value):(binOp .eql t (.func k c d) .nilFunc).run P w=.ok (.bool false) w:=by simp only[binOp];simp[Op.equal,Op.maxDepth,Cx w 9999 t ps q u h k c d]
theorem Ds(k:Fn)(c d:Array Value)(w):(binOp .eql 241 (.func k c d) .nilFunc).run prog w=.ok (.bool false) w:=Pf w _ _ _ _ underlying241 k c d
theorem Oy(k:Fn)(c d:Array Value)(w):(binOp .eql 242 (.func k c d) .nilFunc).run prog w=.ok (.bool false) w:=Pf w _ _ _ _ underlying242 k c d
attribute [local go_sem] Ds Oy
theorem Od{w}{b:Nat}(h:Qgc w b):ZW 190 #[ptr b] w (.bool false) λw'=>w=w':=by obtain⟨p,n,h⟩:=h;have c:=X9 h;unfold ptr Dd Vv at*;clear h;apply WH func190;exact WE
theorem Kf{w}(t:Tr)(h:Jw w t):ZW 257 #[t.aH] w (.bool t.red) λw'=>w=w':=by
 cases t with
 |nil=> unfold Tr.aH;apply WH func257;exact WE
 |aD x c l r=> have d:=Ja h.1;unfold Tr.aH Tr.red;dsimp only;clear h;apply WH func257;exact WE
theorem Qu2(n:Nat)(i:Int)(x:Nd):(n<x.n/\lt n i x=true)\/(n=x.n/\i<x.i/\lt n i x=true)\/(n=x.n/\¬i<x.i/\lt n i x=false)\/(x.n<n/\lt n i x=false):=by
 unfold lt;by_cases k:n<x.n;·exact .inl ⟨k,by simp[k]⟩
 .by_cases c:n=x.n
  .by_cases d:i<x.i;·exact .inr (.inl ⟨c,d,by simp[c,d]⟩)
   .exact .inr (.inr (.inl ⟨c,d,by simp[c,d]⟩))
  .exact .inr (.inr (.inr ⟨by omega,by simp[k,c]⟩))
theorem Gu(n:Nat)(i:Int)(x:Nd)(w):ZW 235 #[Yo n i,Yo x.n x.i] w (.bool (lt n i x)) λw'=>Qc Qb w w':=by
 have H:=Qu2 n i x;generalize lt n i x=q at*;generalize x.n=m at*;generalize x.i=j at*;unfold Yo;rcases H with⟨h,rfl⟩|⟨h,c,rfl⟩|⟨h,c,rfl⟩|⟨h,rfl⟩
 .have d:decide ((n:Int)<(m:Int))=true:=by simp;omega
  clear h;generalize(n:Int)=n at*;generalize(m:Int)=m at*;apply WH func235;go_wp2;go_ret;refine⟨rfl,?_⟩;(exact Z0)
 .subst h;have d:decide ((n:Int)<(n:Int))=false:=by simp
  have k:((n:Int)==(n:Int))=true:=by simp
  have u:decide (i<j)=true:=by simpa using c
  clear c;generalize(n:Int)=n at*;apply WH func235;go_wp2;go_ret;refine⟨rfl,?_⟩;(exact Z0)
 .subst h;have d:decide ((n:Int)<(n:Int))=false:=by simp
  have k:((n:Int)==(n:Int))=true:=by simp
  have u:decide (i<j)=false:=by simpa using c
  clear c;generalize(n:Int)=n at*;apply WH func235;go_wp2;go_ret;refine⟨rfl,?_⟩;(exact Z0)
 .have d:decide ((n:Int)<(m:Int))=false:=by simp;omega
  have k:((n:Int)==(m:Int))=false:=by simp;omega
  clear h;generalize(n:Int)=n at*;generalize(m:Int)=m at*;apply WH func235;go_wp2;go_ret;refine⟨rfl,?_⟩;(exact Z0)
end
def Y4(s:Nat×Int):Array Value:=#[ZU s.1,ZI s.2]
theorem Qoz(a b:Nat×Int)(w):ZW 181 #[.agg (Y4 a),.agg (Y4 b)] w (.agg (Y4 (Xn a b))) λw'=>Qc Qb w w':=Qag a b w
theorem El{w}{b:Nat}{x:Nd}{c:Bool}{p q:Value}{n:Int}{pp:Value}(hT:Qh w b #[Dd,Vv,pp,ZI n] 269)(hX:Qh w x.a (It x c p q) 267)(l r:Tr)(hp:p=l.aH)(hq:q=r.aH)(hl:Jw w l)(hr:Jw w r):
  ZW 280 #[ptr b,ptr x.a] w (.agg (Y4 (Pr x l r))) λw'=>Qc Qb w w':=by
 have HO:=O (λw=>Su x.n x.i x.v w);have HL:=O (λw y z=>Qoz y z w);obtain⟨s,ae⟩:=Zx (w.heap.size);have S0:=O (Qh.new w #[ZU 0,ZI 0] 205);have C0:=O ((Zg Qb w).alloc (.cells #[ZU 0,ZI 0] 205));have T0:=O (hT.alloc (.cells #[ZU 0,ZI 0] 205));have X0:=O (hX.alloc (.cells #[ZU 0,ZI 0] 205));have TL:=O (λw'(h:Qc Qb w w')=>Jw.aB h l hl (λ_ _ h=>h));have TR:=O (λw'(h:Qc Qb w w')=>Jw.aB h r hr (λ_ _ h=>h));simp only[<-ae]at S0;have aq:=hT.lt;have ar:=hX.lt;have ao:=O (Jw.lt r hr);unfold ptr Yo at*;clear hl hr hT hX;apply WH func280;go_wp2;rw[<-ae];obtain⟨W,hW⟩:=Zx (w.alloc (.cells #[ZU 0,ZI 0] 205));rw[<-hW]at S0 C0 T0 X0|-;have HS:=O ae;clear hW ae;dsimp only[It,Dd,Vv]at T0 X0;have ai:=O (λ(w')(h:Qc Qb W w')=>(⟨(X9 (h.blk T0.o (λh=>h))).1,(Ja (h.blk X0.o (λh=>h))).1,(Ja (h.blk X0.o (λh=>h))).2.1,(Ja (h.blk X0.o (λh=>h))).2.2.1⟩:w'.cell? ⟨b,0,none⟩=some (.func (.func 180) #[] #[])/\w'.cell? ⟨x.a,0,none⟩=some (ZU x.n)/\w'.cell? ⟨x.a,1,none⟩=some (ZI x.i)/\w'.cell? ⟨x.a,2,none⟩=some (ZU x.v)));go_wp2;go_cut [5] (λs5 wz=>∃q,s5=ZP q/\W.heap.size<=q/\Qh wz q (Y4 (x.v,x.i)) 205/\Qc Qb W wz)
 case first=>
  go_region_held3 (λw':World=>w'.cell? ⟨b,0,none⟩=some (.func (.func 180) #[] #[])/\w'.cell? ⟨x.a,0,none⟩=some (ZU x.n)/\w'.cell? ⟨x.a,1,none⟩=some (ZI x.i)/\w'.cell? ⟨x.a,2,none⟩=some (ZU x.v)) (exact ai.o _ Z0) (first|(go_at_call 180;with_reducible refine(HO.o _).mono ?_;rintro e w2⟨rfl,d2⟩;have c2:Qc Qb W w2:=Qc.aA Z0 d2;have z2:=c2.size;(try(first|have g2:=d2.blk (Qh.new _ #[ZU 0,ZI 0] 205) (λh=>h)|have g2:=d2.blk (Qh.new _ #[ZU 0,ZI 0] 205).drew (λh=>h));have u2:=Q4 g2;have f2:=g2.frozen);clear d2));all_goals go_wp2_with fail
  all_goals go_meet
  all_goals refine⟨_,rfl,?_,?_,?_⟩
  all_goals first|exact(g2.set' 0 _ rfl).set' 1 _ rfl|exact Qh.new _ _ _|skip
  all_goals first|omega|skip
  all_goals(exact Z0)
 case rest=>
  obtain⟨B,rfl,al,af,J⟩:=hcut;obtain⟨W1,aj⟩:=Zx wc;rw[<-aj]at af J|-;clear aj;have T1:=O (J.blk T0.o (λh=>h));have X1:=O (J.blk X0.o (λh=>h));have S1:=O (J.blk S0.o (λh=>h));have C1:=O (C0.o.aA J);have Q1:=O af;have ag:s<B:=Nat.lt_of_lt_of_le S0.o.lt al;have d:=O ag;have ab:Hi (w.heap.size<B):=O (HS.o▸ag);have an:=O (show¬b=B by have:=aq;have:=ab.o;omega);have aa:=O (show¬x.a=B by have:=ar;have:=ab.o;omega);have ac:Hi (s=w.heap.size):=O (HS.o);clear af J ag al;subst hp hq;cases l with
  |nil=>
   cases r with
   |nil=>
    unfold Tr.aH at*;have R:=Ja X1.o;have y0:=Q4 Q1.o;have y2:=Q4 S1.o;have y4:=S1.o.frozen;have n1:¬s=B:=by have:=d.o;omega
    have n2:¬B=s:=by have:=d.o;omega
    go_wp2;refine bodyPost_ret (v:=.agg (Y4 ((x.v,x.i)))) ?_ rfl ⟨rfl,?_⟩;·simp[*,results,Tryz.results280,go_sem,Y4]
    .have cw:=C1.o;have ah:=ac.o;clear y0 y2 y4 n1 n2;(exact Z0)
   |aD z zc zl zr=>
    have R1:=O ((TR.o _ C1.o).1);unfold Tr.aH at*;dsimp only[Y4,It]at*;have R:=Ja X1.o;have E1:=λx=>X9 (Qk (S:=Qb) T1.o (λh=>h) x);have E2:=λx=>Ja (Qk (S:=Qb) X1.o (λh=>h) x);have E3:=λx=>Ja (Qk (S:=Qb) R1.o (λh=>h) x);have E4:=λx=>Q4 (Qk (S:=Qb) Q1.o (λh=>h) x);go_wp2;refine ZE [] [0,1,2,3,4,5,6,7,8,9,10,11] [12] [13] (Qb) W1 ?_;simp only[pick,Zf,Ze,Zd];refine Qg ?_;iterate 12 (refine Ql (λK hK=>?_);go_simp;refine hK _ ?_;clear hK K)
    refine Qg ?_;intro _ I;obtain⟨xo,E⟩:=I;subst E;simp only[Jd];have c3:=O (Qv Qb W1 xo);generalize Qz Qb W1 xo=U1 at c3|-;clear E1 E2 E3 E4 R;go_wp2_with fail;with_reducible apply Zz (HL.o _ (x.v,x.i) (z.sv,z.si))
    intro Y1 d3;have u:=O (c3.o.aA d3);have q4:=O (u.o.blk Q1.o (λh=>h));have y1:=Q4 q4.o;have y3:=q4.o.frozen;clear d3;dsimp only[Y4];go_wp2;refine⟨Qd u.o,?_⟩;have s4:=O (u.o.blk S1.o (λh=>h));have y5:=Q4 s4.o;have y7:=s4.o.frozen;have n1:¬s=B:=by have:=d.o;omega
    have n2:¬B=s:=by have:=d.o;omega
    go_wp2;refine bodyPost_ret (v:=.agg (Y4 (Xn (x.v,x.i) (z.sv,z.si)))) ?_ rfl ⟨rfl,?_⟩;·simp[*,results,Tryz.results280,go_sem,Y4]
    .have cw:=C1.o.aA u.o;have ah:=ac.o;have am:=d.o;clear y1 y3 y5 y7 n1 n2;(exact Z0)
  |aD y yc yl yr=>
   have L1:=O ((TL.o _ C1.o).1);cases r with
   |nil=>
    unfold Tr.aH at*;dsimp only[Y4,It]at*;have R:=Ja X1.o;have E1:=λx=>X9 (Qk (S:=Qb) T1.o (λh=>h) x);have E2:=λx=>Ja (Qk (S:=Qb) X1.o (λh=>h) x);have E3:=λx=>Ja (Qk (S:=Qb) L1.o (λh=>h) x);have E4:=λx=>Q4 (Qk (S:=Qb) Q1.o (λh=>h) x);go_wp2;refine ZE [] [0,1,2,3,4,5,6,7,8,9,10,11] [12] [13] (Qb) W1 ?_;simp only[pick,Zf,Ze,Zd];refine Qg ?_;iterate 12 (refine Ql (λK hK=>?_);go_simp;refine hK _ ?_;clear hK K)
    refine Qg ?_;intro _ I;obtain⟨xo,E⟩:=I;subst E;simp only[Jd];have c3:=O (Qv Qb W1 xo);generalize Qz Qb W1 xo=U1 at c3|-;clear E1 E2 E3 E4 R;go_wp2_with fail;with_reducible apply Zz (HL.o _ (y.sv,y.si) (x.v,x.i))
    intro Y1 d3;have u:=O (c3.o.aA d3);have q4:=O (u.o.blk Q1.o (λh=>h));have y1:=Q4 q4.o;have y3:=q4.o.frozen;clear d3;dsimp only[Y4];go_wp2;refine⟨Qd u.o,?_⟩;have s4:=O (u.o.blk S1.o (λh=>h));have y5:=Q4 s4.o;have y7:=s4.o.frozen;have n1:¬s=B:=by have:=d.o;omega
    have n2:¬B=s:=by have:=d.o;omega
    have R:=Ja (u.o.blk X1.o (λh=>h));have n3:¬x.a=B:=aa.o;have n4:¬B=x.a:=λh=>aa.o h.symm;go_wp2;refine bodyPost_ret (v:=.agg (Y4 (Xn (y.sv,y.si) (x.v,x.i)))) ?_ rfl ⟨rfl,?_⟩;·simp[*,results,Tryz.results280,go_sem,Y4]
    .have cw:=C1.o.aA u.o;have ah:=ac.o;have am:=d.o;clear n3 n4 R y1 y3 y5 y7 n1 n2;(exact Z0)
   |aD z zc zl zr=>
    have R1:=O ((TR.o _ C1.o).1);have ap:Hi (¬z.a=B):=O (λh=>by have:=ab.o;have:=ao.o z.a (by simp[Tr.aC]);omega);unfold Tr.aH at*;dsimp only[Y4,It]at*;have R:=Ja X1.o;have E1:=λx=>X9 (Qk (S:=Qb) T1.o (λh=>h) x);have E2:=λx=>Ja (Qk (S:=Qb) X1.o (λh=>h) x);have E3:=λx=>Ja (Qk (S:=Qb) L1.o (λh=>h) x);have E4:=λx=>Q4 (Qk (S:=Qb) Q1.o (λh=>h) x);go_wp2;refine ZE [] [0,1,2,3,4,5,6,7,8,9,10,11] [12] [13] (Qb) W1 ?_;simp only[pick,Zf,Ze,Zd];refine Qg ?_;iterate 12 (refine Ql (λK hK=>?_);go_simp;refine hK _ ?_;clear hK K)
    refine Qg ?_;intro _ I;obtain⟨xo,E⟩:=I;subst E;simp only[Jd];have c3:=O (Qv Qb W1 xo);generalize Qz Qb W1 xo=U1 at c3|-;clear E1 E2 E3 E4 R;go_wp2_with fail;with_reducible apply Zz (HL.o _ (y.sv,y.si) (x.v,x.i))
    intro Y1 d3;have u:=O (c3.o.aA d3);have q4:=O (u.o.blk Q1.o (λh=>h));have y1:=Q4 q4.o;have y3:=q4.o.frozen;clear d3;dsimp only[Y4];go_wp2;refine⟨Qd u.o,?_⟩;have s4:=O (u.o.blk S1.o (λh=>h));have y5:=Q4 s4.o;have y7:=s4.o.frozen;have n1:¬s=B:=by have:=d.o;omega
    have n2:¬B=s:=by have:=d.o;omega
    have R:=Ja (u.o.blk X1.o (λh=>h));have n3:¬x.a=B:=aa.o;have n4:¬B=x.a:=λh=>aa.o h.symm;go_wp2;clear y1 y3 y5 y7 n1 n2 n3 n4 R;have Q2:=O ((q4.o.set' 0 (ZU ((Xn (y.sv,y.si) (x.v,x.i)).1:Int)) rfl).set' 1 (ZI (Xn (y.sv,y.si) (x.v,x.i)).2) rfl);have D5:=O ((((Zg (λk=>k=B) Y1).setCell (a:=⟨B,0,none⟩) (ZU ((Xn (y.sv,y.si) (x.v,x.i)).1:Int)) (.inl rfl)).setCell (a:=⟨B,1,none⟩) (ZI (Xn (y.sv,y.si) (x.v,x.i)).2) (.inl rfl)));obtain⟨W2,ak⟩:=Zx ((Y1.setCell ⟨B,0,none⟩ (ZU ((Xn (y.sv,y.si) (x.v,x.i)).1:Int))).setCell ⟨B,1,none⟩ (ZI (Xn (y.sv,y.si) (x.v,x.i)).2));rw[<-ak]at Q2 D5|-;clear ak;have T2:=O (D5.o.blk (u.o.blk T1.o (λh=>h)) an.o);have X2:=O (D5.o.blk (u.o.blk X1.o (λh=>h)) aa.o);have R2:=O (D5.o.blk (u.o.blk R1.o (λh=>h)) ap.o);have S2:=O (D5.o.blk s4.o (by have:=d.o;omega));have C2:Hi (Qc Qb w W2):=O ((C1.o.aA u.o).trans D5.o (λk hk=>.inr (by have:=ab.o;omega)));have R:=Ja X2.o;have E1:=λx=>X9 (Qk (S:=Qb) T2.o (λh=>h) x);have E2:=λx=>Ja (Qk (S:=Qb) X2.o (λh=>h) x);have E3:=λx=>Ja (Qk (S:=Qb) R2.o (λh=>h) x);have E4:=λx=>Q4 (Qk (S:=Qb) Q2.o (λh=>h) x);go_wp2;refine ZE [] [0,1,2,3,4,5,6,7,8,9,10,11] [12] [13] (Qb) W2 ?_;simp only[pick,Zf,Ze,Zd];refine Qg ?_;iterate 12 (refine Ql (λK hK=>?_);go_simp;refine hK _ ?_;clear hK K)
    refine Qg ?_;intro _ I;obtain⟨xo,E⟩:=I;subst E;simp only[Jd];have c3:=O (Qv Qb W2 xo);generalize Qz Qb W2 xo=U2 at c3|-;clear E1 E2 E3 E4 R;go_wp2_with fail;with_reducible apply Zz (HL.o _ (Xn (y.sv,y.si) (x.v,x.i)) (z.sv,z.si))
    intro Y2 d3;have u:=O (c3.o.aA d3);have q4:=O (u.o.blk Q2.o (λh=>h));have y1:=Q4 q4.o;have y3:=q4.o.frozen;clear d3;dsimp only[Y4];go_wp2;refine⟨Qd u.o,?_⟩;have s4:=O (u.o.blk S2.o (λh=>h));have y5:=Q4 s4.o;have y7:=s4.o.frozen;have n1:¬s=B:=by have:=d.o;omega
    have n2:¬B=s:=by have:=d.o;omega
    go_wp2;refine bodyPost_ret (v:=.agg (Y4 (Xn (Xn (y.sv,y.si) (x.v,x.i)) (z.sv,z.si)))) ?_ rfl ⟨rfl,?_⟩;·simp[*,results,Tryz.results280,go_sem,Y4]
    .have cw:=C2.o.aA u.o;have ah:=ac.o;have am:=d.o;clear y1 y3 y5 y7 n1 n2;(exact Z0)
theorem Me{w}{b:Nat}{h x:Nd}{c xc:Bool}{u d r:Tr}(hs:Kc w b (.aD h c (.aD x xc u d) r)):
  ZW 269 #[ptr b,ptr h.a] w (ptr x.a) λw'=>Kc w' b (Mp (.aD h c (.aD x xc u d) r))/\Qc (λk=>k=h.a\/k=x.a) w w':=by
 have hN:(b::(Mp (.aD h c (.aD x xc u d) r)).aC).Nodup:=by rw[Ey];exact hs.nd
 have E:=hs.top;obtain⟨⟨pp,nn,hT⟩,af,hH,hA,hB⟩:=hs;obtain⟨hX,ag,ah⟩:=hA;simp only[Tr.aC,List.nodup_cons,Zl,Zu,not_or,List.nodup_append]at af;have z:h.a≠x.a:=by grind
 have an:b≠h.a:=by grind
 have ao:b≠x.a:=by grind
 have sl:∀a∈u.aC,¬(a=h.a\/a=x.a):=by grind
 have sr:∀a∈d.aC,¬(a=h.a\/a=x.a):=by grind
 have so:∀a∈r.aC,¬(a=h.a\/a=x.a):=by grind
 clear af;have KL:=O (λw'(B:Qc (λk=>k=h.a\/k=x.a) w w')=>Jw.aB B u ag sl);have KR:=O (λw'(B:Qc (λk=>k=h.a\/k=x.a) w w')=>Jw.aB B d ah sr);have KO:=O (λw'(B:Qc (λk=>k=h.a\/k=x.a) w w')=>Jw.aB B r hB so);have KT:=O (λw'(B:Qc (λk=>k=h.a\/k=x.a) w w')=>B.blk hT (λe=>e.elim an ao));have ab:=O (λw'(B:Qc (λk=>k=h.a\/k=x.a) w w')=>E.aB B (λe=>e.elim an ao));have HN:=O hN;have J:x.a≠h.a:=Ne.symm z;have F1:∀R,R=(((w.setCell ⟨h.a,6,none⟩ d.aH).setCell ⟨x.a,7,none⟩ (ZP h.a)).setCell ⟨x.a,5,none⟩ (.bool c)).setCell ⟨h.a,5,none⟩ (.bool true)->Qh R h.a (It h true d.aH r.aH) 267/\Qh R x.a (It x c u.aH (ZP h.a)) 267/\Qc (λk=>k=h.a\/k=x.a) w R:=by
  rintro R rfl;refine⟨?_,?_,?_⟩;·exact(((hH.set' 6 _ rfl).other _ J).other _ J).set' 5 _ rfl
  .exact(((hX.other _ z).set' 7 _ rfl).set' 5 _ rfl).other _ z
  .exact((((Zg _ w).setCell _ (.inl (.inl rfl))).setCell _ (.inl (.inr rfl))).setCell _ (.inl (.inr rfl))).setCell _ (.inl (.inl rfl))
 have aa:=O F1;obtain⟨a0,a1,a2,a3,a4,a5,a6,a7⟩:=Ja hH;obtain⟨b0,b1,b2,b3,b4,b5,b6,b7⟩:=Ja hX;have z1:=hH.frozen;have z2:=hX.frozen;have N1:=O z;obtain⟨pm,I⟩:∃pm,d.aH=.pointer pm:=by cases d<;>exact⟨_,rfl⟩
 have ar:=O I;dsimp only[Tr.aH]at a0 a1 a2 a3 a4 a5 a6 a7;rw[I]at aa b7;clear I;clear ag ah hB hT hH hX E hN sl sr so F1;apply WH func269;go_wp2_with fail;generalize ac:(((w.setCell ⟨h.a,6,none⟩ (.pointer pm)).setCell ⟨x.a,7,none⟩ (ZP h.a)).setCell ⟨x.a,5,none⟩ (.bool c)).setCell ⟨h.a,5,none⟩ (.bool true)=R;obtain⟨H1,X1,V⟩:=aa.o _ ac.symm;rw[<-ar.o]at H1;have T1:=KT.o _ V;clear ac a0 a1 a2 a3 a4 a5 a6 a7 b0 b1 b2 b3 b4 b5 b6 b7 z1 z2;have ai:=KR.o _ V;have al:=KO.o _ V;apply Zz (El (p:=d.aH) (q:=r.aH) T1 H1 d r rfl rfl ai al);intro w2 c2;have H2:=O (c2.blk H1 (λh=>h));have X2:=O (c2.blk X1 (λh=>h));have C2:=O (V.trans c2 (λk h=>h.elim));clear T1 H1 X1 V ai al c2;dsimp only[Y4];have FX:∀U,U=(w2.setCell ⟨h.a,3,none⟩ (ZU ((Pr h d r).1:Int))).setCell ⟨h.a,4,none⟩ (ZI (Pr h d r).2)->Qh U h.a (It (h.re d r) true d.aH r.aH) 267/\Qh U x.a (It x c u.aH (ZP h.a)) 267/\Qc (λk=>k=h.a\/k=x.a) w U:=by rintro U rfl;exact⟨(H2.o.set' 3 _ rfl).set' 4 _ rfl,(X2.o.other _ N1.o).other _ N1.o,(C2.o.setCell _ (.inl (.inl rfl))).setCell _ (.inl (.inl rfl))⟩
 have ap:=O FX;have y1:=H2.o.frozen;have a0:=Ja H2.o;clear FX z J;go_wp2_with fail;generalize ae:(w2.setCell ⟨h.a,3,none⟩ (ZU ((Pr h d r).1:Int))).setCell ⟨h.a,4,none⟩ (ZI (Pr h d r).2)=U;obtain⟨H3,X3,K⟩:=ap.o _ ae.symm;have T3:=KT.o _ K;clear ae a0 y1;have aj:=KL.o _ K;have am:=KR.o _ K;have ak:=KO.o _ K;apply Zz (El T3 X3 u (mk h true d r) rfl rfl aj ⟨H3,am,ak⟩);intro w4 c4;have H4:=O (c4.blk H3 (λh=>h));have X4:=O (c4.blk X3 (λh=>h));have C4:=O (K.trans c4 (λk h=>h.elim));clear T3 H3 X3 K aj am ak c4;dsimp only[Y4];have FY:∀W5,W5=(w4.setCell ⟨x.a,3,none⟩ (ZU ((Pr x u (mk h true d r)).1:Int))).setCell ⟨x.a,4,none⟩ (ZI (Pr x u (mk h true d r)).2)->Kc W5 b (Mp (.aD h c (.aD x xc u d) r))/\Qc (λk=>k=h.a\/k=x.a) w W5:=by rintro W5 rfl;have Z:=(C4.o.setCell (a:=⟨x.a,3,none⟩) (ZU ((Pr x u (mk h true d r)).1:Int)) (.inl (.inr rfl))).setCell (a:=⟨x.a,4,none⟩) (ZI (Pr x u (mk h true d r)).2) (.inl (.inr rfl));have X5:=(X4.o.set' 3 (ZU ((Pr x u (mk h true d r)).1:Int)) rfl).set' 4 (ZI (Pr x u (mk h true d r)).2) rfl;have H5:=(H4.o.other (a:=⟨x.a,3,none⟩) (ZU ((Pr x u (mk h true d r)).1:Int)) (Ne.symm N1.o)).other (a:=⟨x.a,4,none⟩) (ZI (Pr x u (mk h true d r)).2) (Ne.symm N1.o);have au:=KL.o _ Z;have aw:=KR.o _ Z;have av:=KO.o _ Z;exact⟨⟨ab.o _ Z,HN.o,X5,au,H5,aw,av⟩,Z⟩
 have aq:=O FY;have y1:=X4.o.frozen;have a0:=Ja X4.o;clear FY;go_wp2;go_ret;exact⟨rfl,aq.o _ rfl⟩
theorem Qdr{w}{b:Nat}{h x:Nd}{c xc:Bool}{l d u:Tr}(hs:Kc w b (.aD h c l (.aD x xc d u))):
  ZW 279 #[ptr b,ptr h.a] w (ptr x.a) λw'=>Kc w' b (Nw (.aD h c l (.aD x xc d u)))/\Qc (λk=>k=h.a\/k=x.a) w w':=by
 have hN:(b::(Nw (.aD h c l (.aD x xc d u))).aC).Nodup:=by rw[Ts];exact hs.nd
 have E:=hs.top;obtain⟨⟨pp,nn,hT⟩,af,hH,hA,hB⟩:=hs;obtain⟨hX,ag,ah⟩:=hB;simp only[Tr.aC,List.nodup_cons,Zl,Zu,not_or,List.nodup_append]at af;have z:h.a≠x.a:=by grind
 have an:b≠h.a:=by grind
 have ao:b≠x.a:=by grind
 have sl:∀a∈d.aC,¬(a=h.a\/a=x.a):=by grind
 have sr:∀a∈u.aC,¬(a=h.a\/a=x.a):=by grind
 have so:∀a∈l.aC,¬(a=h.a\/a=x.a):=by grind
 clear af;have KL:=O (λw'(B:Qc (λk=>k=h.a\/k=x.a) w w')=>Jw.aB B d ag sl);have KR:=O (λw'(B:Qc (λk=>k=h.a\/k=x.a) w w')=>Jw.aB B u ah sr);have KO:=O (λw'(B:Qc (λk=>k=h.a\/k=x.a) w w')=>Jw.aB B l hA so);have KT:=O (λw'(B:Qc (λk=>k=h.a\/k=x.a) w w')=>B.blk hT (λe=>e.elim an ao));have ab:=O (λw'(B:Qc (λk=>k=h.a\/k=x.a) w w')=>E.aB B (λe=>e.elim an ao));have HN:=O hN;have J:x.a≠h.a:=Ne.symm z;have F1:∀R,R=(((w.setCell ⟨h.a,7,none⟩ d.aH).setCell ⟨x.a,6,none⟩ (ZP h.a)).setCell ⟨x.a,5,none⟩ (.bool c)).setCell ⟨h.a,5,none⟩ (.bool true)->Qh R h.a (It h true l.aH d.aH) 267/\Qh R x.a (It x c (ZP h.a) u.aH) 267/\Qc (λk=>k=h.a\/k=x.a) w R:=by
  rintro R rfl;refine⟨?_,?_,?_⟩;·exact(((hH.set' 7 _ rfl).other _ J).other _ J).set' 5 _ rfl
  .exact(((hX.other _ z).set' 6 _ rfl).set' 5 _ rfl).other _ z
  .exact((((Zg _ w).setCell _ (.inl (.inl rfl))).setCell _ (.inl (.inr rfl))).setCell _ (.inl (.inr rfl))).setCell _ (.inl (.inl rfl))
 have aa:=O F1;obtain⟨a0,a1,a2,a3,a4,a5,a6,a7⟩:=Ja hH;obtain⟨b0,b1,b2,b3,b4,b5,b6,b7⟩:=Ja hX;have z1:=hH.frozen;have z2:=hX.frozen;have N1:=O z;obtain⟨pm,I⟩:∃pm,d.aH=.pointer pm:=by cases d<;>exact⟨_,rfl⟩
 have ar:=O I;dsimp only[Tr.aH]at a0 a1 a2 a3 a4 a5 a6 a7;rw[I]at aa b6;clear I;clear ag ah hA hT hH hX E hN sl sr so F1;apply WH func279;go_wp2_with fail;generalize ac:(((w.setCell ⟨h.a,7,none⟩ (.pointer pm)).setCell ⟨x.a,6,none⟩ (ZP h.a)).setCell ⟨x.a,5,none⟩ (.bool c)).setCell ⟨h.a,5,none⟩ (.bool true)=R;obtain⟨H1,X1,V⟩:=aa.o _ ac.symm;rw[<-ar.o]at H1;have T1:=KT.o _ V;clear ac a0 a1 a2 a3 a4 a5 a6 a7 b0 b1 b2 b3 b4 b5 b6 b7 z1 z2;have ai:=KO.o _ V;have al:=KL.o _ V;apply Zz (El (p:=l.aH) (q:=d.aH) T1 H1 l d rfl rfl ai al);intro w2 c2;have H2:=O (c2.blk H1 (λh=>h));have X2:=O (c2.blk X1 (λh=>h));have C2:=O (V.trans c2 (λk h=>h.elim));clear T1 H1 X1 V ai al c2;dsimp only[Y4];have FX:∀U,U=(w2.setCell ⟨h.a,3,none⟩ (ZU ((Pr h l d).1:Int))).setCell ⟨h.a,4,none⟩ (ZI (Pr h l d).2)->Qh U h.a (It (h.re l d) true l.aH d.aH) 267/\Qh U x.a (It x c (ZP h.a) u.aH) 267/\Qc (λk=>k=h.a\/k=x.a) w U:=by rintro U rfl;exact⟨(H2.o.set' 3 _ rfl).set' 4 _ rfl,(X2.o.other _ N1.o).other _ N1.o,(C2.o.setCell _ (.inl (.inl rfl))).setCell _ (.inl (.inl rfl))⟩
 have ap:=O FX;have y1:=H2.o.frozen;have a0:=Ja H2.o;clear FX z J;go_wp2_with fail;generalize ae:(w2.setCell ⟨h.a,3,none⟩ (ZU ((Pr h l d).1:Int))).setCell ⟨h.a,4,none⟩ (ZI (Pr h l d).2)=U;obtain⟨H3,X3,K⟩:=ap.o _ ae.symm;have T3:=KT.o _ K;clear ae a0 y1;have aj:=KL.o _ K;have am:=KR.o _ K;have ak:=KO.o _ K;apply Zz (El T3 X3 (mk h true l d) u rfl rfl ⟨H3,ak,aj⟩ am);intro w4 c4;have H4:=O (c4.blk H3 (λh=>h));have X4:=O (c4.blk X3 (λh=>h));have C4:=O (K.trans c4 (λk h=>h.elim));clear T3 H3 X3 K aj am ak c4;dsimp only[Y4];have FY:∀W5,W5=(w4.setCell ⟨x.a,3,none⟩ (ZU ((Pr x (mk h true l d) u).1:Int))).setCell ⟨x.a,4,none⟩ (ZI (Pr x (mk h true l d) u).2)->Kc W5 b (Nw (.aD h c l (.aD x xc d u)))/\Qc (λk=>k=h.a\/k=x.a) w W5:=by rintro W5 rfl;have Z:=(C4.o.setCell (a:=⟨x.a,3,none⟩) (ZU ((Pr x (mk h true l d) u).1:Int)) (.inl (.inr rfl))).setCell (a:=⟨x.a,4,none⟩) (ZI (Pr x (mk h true l d) u).2) (.inl (.inr rfl));have X5:=(X4.o.set' 3 (ZU ((Pr x (mk h true l d) u).1:Int)) rfl).set' 4 (ZI (Pr x (mk h true l d) u).2) rfl;have H5:=(H4.o.other (a:=⟨x.a,3,none⟩) (ZU ((Pr x (mk h true l d) u).1:Int)) (Ne.symm N1.o)).other (a:=⟨x.a,4,none⟩) (ZI (Pr x (mk h true l d) u).2) (Ne.symm N1.o);have au:=KL.o _ Z;have aw:=KR.o _ Z;have av:=KO.o _ Z;exact⟨⟨ab.o _ Z,HN.o,X5,⟨H5,av,au⟩,aw⟩,Z⟩
 have aq:=O FY;have y1:=X4.o.frozen;have a0:=Ja X4.o;clear FY;go_wp2;go_ret;exact⟨rfl,aq.o _ rfl⟩
end Go.Proofs.YtigcnnkagkbflaaGreat
