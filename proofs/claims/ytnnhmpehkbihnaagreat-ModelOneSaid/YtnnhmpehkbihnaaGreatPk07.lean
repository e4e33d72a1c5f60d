/- A part of the proof: no condition. -/
import Derived.Test.YtnnhmpehkbihnaaGreatPk04
import Derived.Test.YtnnhmpehkbihnaaGreatPk02
import Derived.Test.YtnnhmpehkbihnaaGreatPk06
import Derived.WalkSpells
import Derived.WalkLawsBesides
import Derived.Deep.DrawnRows
import Derived.Deep.DeepCutAuto
namespace Go.Proofs.YtnnhmpehkbihnaaGreat
set_option linter.unusedVariables false
set_option maxRecDepth 100000
set_option maxHeartbeats 4000000
open Go.RowKit
open Go.Proofs.Tryz
def Ca:Nat:=4611686018427387904
theorem Na:Ca=4611686018427387904:=rfl
def Qa6(a b:Nat):Nat:=min (a+b) Ca
def upN(a c:Nat):Nat:=min ((a+c-1)/c) Ca
theorem Tg(n:Nat)(w):Cl 313 #[.int .u64 n,.bool true] w fun e w'=>e=.returned (.int .u64 4611686018427387904)∧Qc Qb w w':=by go_enter func313,ntmps313;go_wp2;go_ret;exact⟨rfl,Zg _ _⟩
theorem Pd(n:Nat)(w):Cl 313 #[.int .u64 n,.bool false] w fun e w'=>e=.returned (.int .u64 (min n Ca:Nat))∧Qc Qb w w':=by
 by_cases h:4611686018427387904<n
 ·have e:min n Ca=4611686018427387904:=by rw[Na];omega
  have h':(4611686018427387904:Int)<(n:Int):=by omega
  rw[e];clear e h;go_enter func313,ntmps313;go_wp2;go_ret;exact⟨rfl,Zg _ _⟩
 ·have e:min n Ca=n:=by rw[Na];omega
  have h':¬(4611686018427387904:Int)<(n:Int):=by omega
  rw[e];clear e h;go_enter func313,ntmps313;go_wp2;go_ret;exact⟨rfl,Zg _ _⟩
theorem Mm(a b:Nat)(ha:a<18446744073709551616)(q:b<18446744073709551616)(w):Cl 309 #[.int .u64 a,.int .u64 b] w fun e w'=>e=.returned (.int .u64 (Qa6 a b:Int))∧Qc Qb w w':=by
 by_cases h:a+b<18446744073709551616
 ·have hs:IntKind.u64.wrap ((a:Int)+(b:Int))=((a+b:Nat):Int):=by rw[IntWalk.u64_in _ (by omega)];omega
  have Xg:decide (a+b<a)=false:=by simp
  have c:=O (Pd (a+b) w);have d:Hi (Qa6 a b=min (a+b) Ca):=O rfl;rw[d.o];generalize a+b=n at hs Xg c⊢;generalize min n Ca=r at c⊢;clear d h ha q;go_enter func309,ntmps309;go_wp2_with fail;refine Zy c ?_;intro w1 k;go_wp2;go_ret;exact⟨rfl,k⟩
 ·have hs:IntKind.u64.wrap ((a:Int)+(b:Int))=((a+b-18446744073709551616:Nat):Int):=by rw[IntKind.wrap_u64];omega
  have Xg:decide (a+b-18446744073709551616<a)=true:=by simp;omega
  have c:=O (Tg (a+b-18446744073709551616) w);have d:Qa6 a b=4611686018427387904:=by unfold Qa6;rw[Na];omega
  rw[d];generalize a+b-18446744073709551616=n at hs Xg c;clear d h ha q;go_enter func309,ntmps309;go_wp2_with fail;refine Zy c ?_;intro w1 k;go_wp2;go_ret;exact⟨rfl,k⟩
theorem Qpw(n:Nat)(w):Cl 314 #[.int .u64 n] w fun e w'=>e=.returned (.int .u64 (min n 1:Nat))∧Qc Qb w w':=by
 match n with
 |0=> go_enter func314,ntmps314;go_wp2;go_ret;exact⟨rfl,Zg _ _⟩
 |1=> go_enter func314,ntmps314;go_wp2;go_ret;exact⟨rfl,Zg _ _⟩
 |m+2=>
  have e:min (m+2) 1=1:=by omega
  rw[e];generalize c:m+2=k;have h1:¬(k:Int)<1:=by omega
  have d:(1:Int)<(k:Int):=by omega
  have q:¬(k:Int)≤1:=by omega
  clear e c;go_enter func314,ntmps314;go_wp2;go_ret;exact⟨rfl,Zg _ _⟩
theorem Qjy(l c:Nat)(hl:l<18446744073709551616)(hc:c<18446744073709551616)(h0:0<c)(w):Cl 317 #[.int .u64 0,.int .u64 l,.int .u64 c] w fun e w'=>e=.returned (.tuple #[.int .u64 ((l/c:Nat):Int),.int .u64 ((l%c:Nat):Int)])∧Qc Qb w w':=by
 have e1:((c:Int)==0)=false:=by simp;omega
 have I:decide ((c:Int)≤0)=false:=by simp;omega
 have J:¬(c:Int)=0:=by omega
 have k:Int.tdiv (l:Int) (c:Int)=((l/c:Nat):Int):=by rw[Int.tdiv_eq_ediv_of_nonneg (by omega)];rfl
 have u:Int.tmod (l:Int) (c:Int)=((l%c:Nat):Int):=by rw[Int.tmod_eq_emod_of_nonneg (by omega)];rfl
 have z:(l:Int)/(c:Int)=((l/c:Nat):Int):=rfl;have B:(l:Int)%(c:Int)=((l%c:Nat):Int):=rfl;have d:l/c≤l:=Nat.div_le_self _ _;generalize l/c=q at k z d⊢;have E:IntKind.u64.wrap (q:Int)=(q:Int):=IntWalk.u64_in _ (by omega);generalize l%c=r at u B⊢;clear d;go_enter func317,ntmps317;go_wp2;go_quiet (fail);go_wp2;refine bodyPost_ret (v:=.tuple #[.int .u64 q,.int .u64 r]) (by simp[results,Tryz.results317,go_sem]) rfl ⟨rfl,?_⟩;(repeat' (first|(with_reducible first|exact Zg _ _|assumption|refine Zh ?_ _|refine Zi ?_ _|refine Zj ?_|refine Zk ?_ _ ?_|(apply Or.inl;rfl))|(apply Or.inl;simp;done)|(apply Or.inr;simp;first|done|omega)))
theorem Qs2(l c:Nat)(hl:l<18446744073709551616)(hc:c<18446744073709551616)(h0:0<c)(w):Cl 316 #[.agg #[.int .u64 0,.int .u64 l],.int .u64 c] w fun e w'=>e=.returned (.tuple #[.int .u64 ((l/c:Nat):Int),.int .u64 ((l%c:Nat):Int),.int .i64 0])∧Qc Qb w w':=by
 have d:=O (Qjy l c hl hc h0);have u:=O ((Zg Qb w).alloc (.cells #[.int .u64 0,.int .u64 l] 291));have e1:((c:Int)==0)=false:=by simp;omega
 have B:decide ((c:Int)≤0)=false:=by simp;omega
 generalize l/c=q at d⊢;generalize l%c=r at d⊢;go_enter func316,ntmps316;go_wp2_with fail;refine Zz (d.o _) ?_;intro w1 k;have z:=O (u.o.aA k);clear k;go_wp2;refine bodyPost_ret (v:=.tuple #[.int .u64 q,.int .u64 r,.int .i64 0]) (by simp[results,Tryz.results316,go_sem]) rfl ⟨rfl,z.o⟩
theorem Qqp(n:Nat)(h l:Int)(w):Cl 316 #[.agg #[.int .u64 h,.int .u64 l],.int .u64 0] w fun e w'=>e=.returned (.tuple #[.int .u64 0,.int .u64 0,.int .i64 2])∧Qc Qb w w':=by go_enter func316,ntmps316;go_wp2;refine bodyPost_ret (v:=.tuple #[.int .u64 0,.int .u64 0,.int .i64 2]) (by simp[results,Tryz.results316,go_sem]) rfl ⟨rfl,?_⟩;(repeat' (first|(with_reducible first|exact Zg _ _|assumption|refine Zh ?_ _|refine Zi ?_ _|refine Zj ?_|refine Zk ?_ _ ?_|(apply Or.inl;rfl))|(apply Or.inl;simp;done)|(apply Or.inr;simp;first|done|omega)))
theorem Qsy(a c:Nat)(h:0<c):min (a/c+min (a%c) 1) Ca=upN a c:=by
 unfold upN;congr 1;have h1:=Nat.div_add_mod a c;have d:=Nat.mod_lt a h;by_cases h0:a%c=0
 ·rw[h0];have e:a+c-1=c-1+c*(a/c):=by omega
  rw[e,Nat.add_mul_div_left _ _ h,Nat.div_eq_of_lt (show c-1<c by omega)];simp
 ·have e:a+c-1=(a%c-1)+c*(a/c+1):=by rw[Nat.mul_add];omega
  rw[e,Nat.add_mul_div_left _ _ h,Nat.div_eq_of_lt (show a%c-1<c by omega)];have:min (a%c) 1=1:=by omega
  omega
theorem Qir(a c:Nat)(ha:a<18446744073709551616)(hc:c<18446744073709551616)(h0:0<c)(w):Cl 311 #[.int .u64 a,.int .u64 1,.int .u64 c] w fun e w'=>e=.returned (.tuple #[.int .u64 (upN a c:Int),.int .i64 0])∧Qc Qb w w':=by
 have I:=O (fun w=>Dw a 1 w ha (by omega));rw[Nat.mul_one,Nat.div_eq_of_lt ha,Nat.mod_eq_of_lt ha]at I;have z:=O (Qs2 a c ha hc h0);have B:=O (Qpw (a%c));have d:=O (Mm (a/c) (min (a%c) 1) (by have:=Nat.div_le_self a c;omega) (by omega));rw[show Qa6 (a/c) (min (a%c) 1)=upN a c from Qsy a c h0]at d;generalize min (a%c) 1=m at B d;generalize a/c=q at z d;generalize a%c=r at z B;generalize upN a c=u at d⊢;clear ha hc h0;have HO:Hi (∀w,Cl 315 #[.agg #[.func (.func 314) #[] #[]],.int .u64 a,.int .u64 1,.int .u64 c] w fun e w'=>e=.returned (.tuple #[.int .u64 u,.int .i64 0])∧Qc Qb w w'):=O (by
  intro w;have R:=O (Qh.new w #[.func (.func 314) #[] #[]] 358);have V:=O ((Zg Qb w).alloc (.cells #[.func (.func 314) #[] #[]] 358));go_enter func315,ntmps315;go_wp2_with fail;refine Zz (I.o _) ?_;intro w1 k;have Z:=O (V.o.aA k);have U:=O (k.blk R.o (fun h=>h));clear k;go_wp2_with fail;refine Zz (z.o _) ?_;intro w2 E;have C2:=O (Z.o.aA E);have b2:=(E.blk U.o (fun h=>h)).cell 0;simp at b2;clear E;go_wp2_with fail;refine Zz (B.o _) ?_;intro w3 J;have C3:=O (C2.o.aA J);clear J b2;go_wp2_with fail;refine Zz (d.o _) ?_;intro w4 K;have C4:=O (C3.o.aA K);clear K;go_wp2;exact bodyPost_ret (v:=.tuple #[.int .u64 u,.int .i64 0]) (by simp[results,Tryz.results315,go_sem]) rfl ⟨rfl,C4.o⟩)
 go_enter func311,ntmps311;go_wp2_with fail;refine Zz (HO.o _) ?_;intro w1 k;go_wp2;exact bodyPost_ret (v:=.tuple #[.int .u64 u,.int .i64 0]) (by simp[results,Tryz.results311,go_sem]) rfl ⟨rfl,k⟩
def cV(c:Jy):Value:=.agg #[.int .u64 c.f,.int .u64 c.l,.int .u64 c.r]
theorem X8{P:Program}(c:Array TypeId)(t:TypeId)(k:IntKind)(a b:Int)(w):(Builtin.min_ c t #[.int k a,.int k b]).run P w=.ok (.int k (min a b)) w:=by
 have e:(if b<a then b else a)=min a b:=by split<;>omega
 rw[run_min_int2,e]
theorem Yd{P:Program}(c:Array TypeId)(t:TypeId)(k:IntKind)(a b:Int)(w):(Builtin.max_ c t #[.int k a,.int k b]).run P w=.ok (.int k (max a b)) w:=by
 have e:(if a<b then b else a)=max a b:=by split<;>omega
 rw[run_max_int2,e]
theorem Yz:Xw=4611686018427387904:=rfl
theorem Yf:Qq=9223372036854775808:=rfl
theorem Rs(a b:Nat)(ha:a<18446744073709551616)(z:b<18446744073709551616)(w):Cl 312 #[.int .u64 a,.int .u64 b] w fun e w'=>e=.returned (.int .u64 (min Xw (a*b):Nat))∧Qc Qb w w':=by
 have c:=O (fun w=>Dw a b w ha z);have k:min Xw (a*b)=min (a*b) Ca:=Nat.min_comm _ _;rw[k];by_cases h:a*b<18446744073709551616;·rw[Nat.div_eq_of_lt h,Nat.mod_eq_of_lt h]at c;have d:=O (fun w=>Pd (a*b) w);generalize a*b=n at c d⊢;generalize min n Ca=r at d⊢;clear h ha z k;go_enter func312,ntmps312;go_wp2_with fail;refine Zz (c.o _) ?_;intro w1 q;go_wp2_with fail;refine Zz (d.o _) ?_;intro w2 u;go_wp2;go_ret;exact⟨rfl,(q.alloc _).aA u⟩
 ·have h1:0<a*b/18446744073709551616:=Nat.div_pos (by omega) (by decide);have hr:min (a*b) Ca=4611686018427387904:=by rw[Na];omega
  rw[hr];generalize a*b/18446744073709551616=B at c h1;generalize a*b%18446744073709551616=I at c;have d:=O (fun w=>Tg I w);have J:decide ((0:Int)<(B:Int))=true:=by simp;omega
  have E:decide (0<B)=true:=by simp;omega
  clear h ha z hr h1 k;go_enter func312,ntmps312;go_wp2_with fail;refine Zz (c.o _) ?_;intro w1 q;go_wp2_with fail;refine Zz (d.o _) ?_;intro w2 u;go_wp2;go_ret;exact⟨rfl,(q.alloc _).aA u⟩
theorem Qiq(a b:Nat)(ha:a≤Xw)(w):Cl 336 #[.int .u64 a,.int .u64 b] w fun e w'=>e=.returned (.int .u64 (a-b:Nat))∧Qc Qb w w':=by
 rw[Yz]at ha;by_cases h:a<b
 ·have e:a-b=0:=by omega
  rw[e];go_enter func336,ntmps336;go_wp2;go_ret;exact⟨rfl,Zg _ _⟩
 ·have c:=O (fun w=>Pd (a-b) w);have e:min (a-b) Ca=a-b:=by rw[Na];omega
  rw[e]at c;have hs:IntKind.u64.wrap ((a:Int)-(b:Int))=((a-b:Nat):Int):=by rw[IntWalk.u64_in _ (by omega)];omega
  have h':¬(a:Int)<(b:Int):=by omega
  generalize a-b=n at c hs⊢;clear e ha h;go_enter func336,ntmps336;go_wp2_with fail;refine Zz (c.o _) ?_;intro w2 d;go_wp2;go_ret;exact⟨rfl,d⟩
theorem L7(c:Jy)(w):Cl 234 #[cV c] w fun e w'=>e=.returned (.bool (decide (c.r<c.f)))∧Qc Qb w w':=by unfold cV;go_enter func234,ntmps234;go_wp2;go_ret;exact⟨by simp,(Zg _ _).alloc _⟩
theorem Qgr(c:Jy)(hc:c.May)(h:c.r<c.f)(w):Cl 308 #[cV c] w fun e w'=>e=.returned (.tuple #[.int .u64 ((c.f-c.r)*c.l:Nat),.bool true])∧Qc Qb w w':=by
 have u:=O (fun w=>L7 c w);have k:=O (fun w=>Rs (c.f-c.r) c.l (by have:=hc.hf;omega) (by have:=hc.hl;omega) w);rw[decide_eq_true h]at u;have E:(c.f-c.r)*c.l≤1048576*1099511627776:=Nat.mul_le_mul (by have:=hc.hf;omega) hc.hl;rw[Nat.min_eq_right (by rw[Yz];omega)]at k;have hs:IntKind.u64.wrap ((c.f:Int)-(c.r:Int))=((c.f-c.r:Nat):Int):=by have:=hc.hf;rw[IntWalk.u64_in _ (by omega)];omega
 obtain⟨f,l,r⟩:=c;unfold cV at*;dsimp only at*;generalize(f-r)*l=n at k⊢;generalize f-r=d at k hs;clear E hc h;go_enter func308,ntmps308;go_wp2_with fail;refine Zz (u.o _) ?_;intro w1 q;have b1:=L6 (q.blk (Qh.new w _ _) (fun h=>h));obtain⟨I,a1,J⟩:=b1;have z:=O (((Zg Qb w).alloc _).aA q);clear q;go_wp2_with fail;refine Zz (k.o _) ?_;intro w2 B;go_wp2;go_ret2;exact⟨rfl,z.o.aA B⟩
theorem Qpx(a:Nat)(ha:a<18446744073709551616)(w):Cl 311 #[.int .u64 a,.int .u64 1,.int .u64 0] w fun e w'=>e=.returned (.tuple #[.int .u64 0,.int .i64 2])∧Qc Qb w w':=by
 have d:=O (fun w=>Dw a 1 w ha (by omega));rw[Nat.mul_one,Nat.div_eq_of_lt ha,Nat.mod_eq_of_lt ha]at d;have B:=O (fun w=>Qqp 0 0 (a:Int) w);clear ha;have E:Hi (∀w,Cl 315 #[.agg #[.func (.func 314) #[] #[]],.int .u64 a,.int .u64 1,.int .u64 0] w fun e w'=>e=.returned (.tuple #[.int .u64 0,.int .i64 2])∧Qc Qb w w'):=O (by
  intro w;have q:=O ((Zg Qb w).alloc (.cells #[.func (.func 314) #[] #[]] 358));go_enter func315,ntmps315;go_wp2_with fail;refine Zz (d.o _) ?_;intro w1 c;have u:=O (q.o.aA c);clear c;go_wp2_with fail;refine Zz (B.o _) ?_;intro w2 k;have z:=O (u.o.aA k);clear k;go_wp2;exact bodyPost_ret (v:=.tuple #[.int .u64 0,.int .i64 2]) (by simp[results,Tryz.results315,go_sem]) rfl ⟨rfl,z.o⟩)
 go_enter func311,ntmps311;go_wp2_with fail;refine Zz (E.o _) ?_;intro w1 c;go_wp2;exact bodyPost_ret (v:=.tuple #[.int .u64 0,.int .i64 2]) (by simp[results,Tryz.results311,go_sem]) rfl ⟨rfl,c⟩
theorem Qmr{a c:Nat}(h0:0<c)(ha:a≤Xw):upN a c=Tw a c:=by
 have h:=(D9 h0 (a:=a) (n:=a)).2 (Nat.le_mul_of_pos_left a h0);have e:(a+c-1)/c=Tw a c:=by unfold Tw;rw[show a+(c-1)=a+c-1 by omega]
 unfold upN;rw[e,Nat.min_eq_left];exact Zp h ha
section
attribute [local go_sem] Qp
theorem Qk{S:Nat→Prop}{w}{b:Nat}{cs:Array Value}{t:TypeId}(h:Qh w b cs t)(c:¬S b)(x):Qh (Qz S w x) b cs t:=(Qv S w x).blk h c
theorem Qgl(s h n:Nat)(hs:s<18446744073709551616)(Z:h≤Xw)(hn:n<18446744073709551616)(w):Cl 310 #[.agg #[.int .u64 s,.int .u64 h],.int .u64 n] w fun e w'=>e=.returned (.int .u64 (Hb h s n:Nat))∧Qc Qb w w':=by
 have hc:=Yz;have u:=O (fun w=>Rs s n hs hn w);have d:=O (fun w=>Mm h (min Xw (s*n)) (by omega) (by omega) w);rw[show Qa6 h (min Xw (s*n))=Hb h s n from Nat.min_comm _ _]at d;generalize Hb h s n=r at d⊢;generalize min Xw (s*n)=m at u d;clear hc hs Z hn;have B:=O (Qh.new w #[.int .u64 s,.int .u64 h] 295);have C:=O ((Zg Qb w).alloc (.cells #[.int .u64 s,.int .u64 h] 295));have E:=fun x=>Q4 (Qk (S:=Qb) B.o (fun h=>h) x);go_enter func310,ntmps310;go_wp2;refine Qu [] [0,1,2,3,4] [5,6,7] [] (Qz (Qb) (w.alloc (.cells #[.int .u64 s,.int .u64 h] 295))) Zq (by kernel_rfl) (fun _ _ _ _ _ h=>h) (Qd (by(repeat' (first|(with_reducible first|exact Zg _ _|assumption|refine Zh ?_ _|refine Zi ?_ _|refine Zj ?_|refine Zk ?_ _ ?_|(apply Or.inl;rfl))|(apply Or.inl;simp;done)|(apply Or.inr;simp;first|done|omega))))) ?_;simp only[pick,Zf,Ze,Zd];refine Qg ?_;iterate 5 (refine Ql (fun K U=>?_);go_simp;refine U _ ?_;clear U K)
 refine Qg ?_;intro _ q;obtain⟨V,c⟩:=q;subst c;simp only[Jd];have z:=O (Qv Qb (w.alloc (.cells #[.int .u64 s,.int .u64 h] 295)) V);generalize Qz Qb (w.alloc (.cells #[.int .u64 s,.int .u64 h] 295)) V=w3 at z⊢;clear E;go_wp2_with fail;refine Zz (u.o _) ?_;intro w4 J;have I:=O (z.o.aA J);clear J;go_wp2;refine⟨Qd I.o,?_⟩;go_wp2_with fail;refine Zz (d.o _) ?_;intro w5 R;have k:=O (I.o.aA R);clear R;go_wp2;refine⟨Qd k.o,?_⟩;go_wp2;refine⟨Qd k.o,?_⟩;go_wp2;go_ret;exact⟨rfl,C.o.aA k.o⟩
theorem As(s h y:Nat)(hs:s<18446744073709551616)(J:h≤Xw)(U:y<18446744073709551616)(w):Cl 307 #[.agg #[.int .u64 s,.int .u64 h],.int .u64 y] w fun e w'=>e=.returned (.int .u64 (Y5 h s y:Nat))∧Qc Qb w w':=by
 have hc:=Yz;have hn:=Yf;unfold Y5;have B:=O (Qh.new w #[.int .u64 s,.int .u64 h] 295);have C:=O ((Zg Qb w).alloc (.cells #[.int .u64 s,.int .u64 h] 295));by_cases h0:y≤h;·rw[if_pos h0];obtain⟨I,a1⟩:=Q4 B.o;clear hc hn;go_enter func307,ntmps307;go_wp2;go_ret;exact⟨rfl,C.o⟩
 ·rw[if_neg h0];have c:IntKind.u64.wrap ((y:Int)-(h:Int))=((y-h:Nat):Int):=by rw[IntWalk.u64_in _ (by omega)];omega
  have R:decide (y≤h)=false:=by simpa using h0
  by_cases q:s=0;·subst q;rw[if_pos (.inl rfl),hn];have k:=O (fun w=>Qpx (y-h) (by omega) w);generalize y-h=d at c k;clear hc hn h0 hs J;obtain⟨I,a1⟩:=Q4 B.o;go_enter func307,ntmps307;go_wp2_with fail;refine Zz (k.o _) ?_;intro w1 E;go_wp2;go_ret;exact⟨rfl,C.o.aA E⟩
  ·have k:=O (fun w=>Qir (y-h) s (by omega) hs (by omega) w);by_cases z:Xw<y
   ·rw[if_pos (.inr z),hn];have K:(4611686018427387904:Int)<(y:Int):=by omega
    generalize upN (y-h) s=u at k;generalize y-h=d at c k;clear hc hn h0 J z q;obtain⟨I,a1⟩:=Q4 B.o;go_enter func307,ntmps307;go_wp2_with fail;refine Zz (k.o _) ?_;intro w1 E;go_wp2;go_ret;exact⟨rfl,C.o.aA E⟩
   ·rw[if_neg (by omega)];rw[Qmr (by omega) (by omega)]at k;have K:¬(4611686018427387904:Int)<(y:Int):=by omega
    generalize Tw (y-h) s=u at k⊢;generalize y-h=d at c k;clear hc hn h0 J z q;obtain⟨I,a1⟩:=Q4 B.o;go_enter func307,ntmps307;go_wp2_with fail;refine Zz (k.o _) ?_;intro w1 E;go_wp2;go_ret;exact⟨rfl,C.o.aA E⟩
def Xh.h1(r:Xh):Nat:=if r.l=[]then 0 else Vk r.c.f 0 r.l
def Xh.h2(r:Xh):Nat:=if r.l=[]then 0 else Vk r.c.r ((r.c.f-r.c.r)*r.c.l) r.l
def Pk(r:Xh)(x:Nat)(h1 c:Nat)(n:Int):Array Value:=#[.int .u64 r.c.f,.int .u64 r.c.l,.int .u64 r.c.r,.int .i64 n,.int .u64 x,.int .u64 r.c.f,.int .u64 h1,.int .u64 r.c.r,.int .u64 c]
structure Ve(w:World)(F:Fp)(b:Nat)(r:Xh):Prop where
 bd:Bd F w
 own:F b
 may:r.c.May
 bent:r.c.r<r.c.f
 ok:Uj r.l
 rise:Ew r.l
 blk:Qh w b (Pk r (Ji r.l) r.h1 r.h2 r.l.length) 297
theorem bentP:Hf Ve where
 bd h:=h.bd
 own h:=h.own
 aB h hc hd:=⟨h.bd.later hc,h.own,h.may,h.bent,h.ok,h.rise,hc.blk h.blk (hd _ h.own)⟩
 more h hs hb:=⟨hb,hs _ h.own,h.may,h.bent,h.ok,h.rise,h.blk⟩
theorem Qdl(s o:Nat)(l:Uw):Vk s o l≤Xw:=Nat.min_le_left _ _
theorem Xh.h1_cap(r:Xh):r.h1≤Xw:=by unfold Xh.h1;split;exact Nat.zero_le _;exact Qdl _ _ _
theorem Xh.h2_cap(r:Xh):r.h2≤Xw:=by unfold Xh.h2;split;exact Nat.zero_le _;exact Qdl _ _ _
theorem Qcv{w}{F:Fp}{b:Nat}{r:Xh}(h:Ve w F b r):Cl 306 #[ptr b] w fun e w'=>e=.returned (.bool (r.l.length==0))∧w=w':=by
 unfold ptr;obtain⟨c,a1,d,q,u,z,B,E,I⟩:=Av h.blk;have e:((r.l.length:Int)==0)=(r.l.length==0):=by
  cases r.l with
  |nil=>rfl
  |cons k l=>simp;omega
 rw[←e];clear h e;generalize(r.l.length:Int)=n at*;go_enter func306,ntmps306;go_wp2;go_ret;exact⟨rfl,rfl⟩
theorem Qn5(c:Jy)(hc:c.May)(z:c.r<c.f)(w):Cl 220 #[cV c] w fun e w'=>∃b,e=.returned (.tuple #[ptr b,.int .i64 0])∧Ve w' (Qn Qb w w') b ⟨c,[]⟩∧Qc Qb w w':=by
 have J:=O (K8 c);have I:=O (L7 c);rw[decide_eq_true hc]at J;rw[decide_eq_true z]at I;have d:∀(W w'),Qc Qb w W→w'=W.alloc (.cells (Pk ⟨c,[]⟩ 0 0 0 0) 297)→Ve w' (Qn Qb w w') W.heap.size ⟨c,[]⟩∧Qc Qb w w':=by rintro W w' hW rfl;have h1:=hW.size;exact⟨⟨fun k hk=>hk.elim (fun h=>h.elim) (fun h=>h.2),.inr ⟨h1,by simp⟩,hc,z,Uj.nil,.nil,Qh.new _ _ _⟩,hW.alloc _⟩
 have HF:=O d;obtain⟨f,l,r⟩:=c;unfold cV at*;dsimp only[Pk]at*;have B:=O (Qh.new w #[.int .u64 f,.int .u64 l,.int .u64 r] 38);have C:=O ((Zg Qb w).alloc (.cells #[.int .u64 f,.int .u64 l,.int .u64 r] 38));clear hc z d;go_enter func220,ntmps220;go_wp2_with fail;refine Zz (J.o _) ?_;intro w1 q;have V:=O (C.o.aA q);have E:=O (q.blk B.o (fun h=>h));clear q;obtain⟨K,a1,R⟩:=L6 E.o;go_wp2_with fail;refine Zz (I.o _) ?_;intro w2 u;have Z:=O (V.o.aA u);have U:=O (u.blk E.o (fun h=>h));clear u K a1 R;obtain⟨K,a1,R⟩:=L6 U.o;go_wp2;go_ret2;exact⟨_,rfl,HF.o _ _ Z.o rfl⟩
theorem Qgm{w}{F:Fp}{b:Nat}{r:Xh}(h:Ve w F b r)(hl:r.l=[])(y:Nat):Cl 303 #[ptr b,.int .u64 y] w fun e w'=>e=.returned (.int .u64 (r.reach y:Nat))∧Qc Qb w w':=by
 have c:=O (Qcv h);rw[hl]at c;have e:r.reach y=if y=0 then 0 else 9223372036854775808:=by unfold Xh.reach Kn;rw[if_pos hl]
 unfold ptr at*;dsimp only[List.length_nil]at c;rw[e];by_cases d:y=0;·subst d;go_enter func303,ntmps303;go_wp2_with fail;refine Zy c ?_;rintro w1 rfl;go_wp2;go_ret;exact⟨rfl,Zg _ _⟩
 ·rw[if_neg d];have k:((y:Int)==0)=false:=by simp;omega
  clear d e;go_enter func303,ntmps303;go_wp2_with fail;refine Zy c ?_;rintro w1 rfl;go_wp2;go_ret;exact⟨rfl,Zg _ _⟩
theorem Qgn{w}{F:Fp}{b:Nat}{r:Xh}(h:Ve w F b r)(hl:r.l≠[])(y:Nat)(hy:y<18446744073709551616):Cl 303 #[ptr b,.int .u64 y] w fun e w'=>e=.returned (.int .u64 (r.reach y:Nat))∧Qc Qb w w':=by
 have HN:=O (Qcv h);have k:(r.l.length==0)=false:=by simpa using hl
 rw[k]at HN;have hm:=h.may;have hx:Ji r.l≤Qq:=h.ok.last;have e:r.reach y=O6 (Ji r.l) (max (Y5 r.h1 r.c.f y) (Y5 r.h2 r.c.r y)):=by unfold Xh.h1 Xh.h2;rw[if_neg hl,if_neg hl];exact(Qj0 h.bent h.ok hl).symm
 have H1:=O (fun w=>As r.c.f r.h1 y (by have:=hm.hf;omega) r.h1_cap hy w);have H2:=O (fun w=>As r.c.r r.h2 y (by have:=hm.hr;omega) r.h2_cap hy w);have E:=fun x=>Av (Qk (S:=Qb) h.blk (fun h=>h) x);have B:=O h.blk;have u:∀h s,Y5 h s y≤9223372036854775808:=fun h s=>by
  unfold Y5;have e1:=Yz;have e2:=Yf;split;·omega
  ·split;·omega
   ·rename_i h1;have:=(D9 (a:=y-h) (b:=s) (n:=y) (by omega)).2 (by have:=Nat.le_mul_of_pos_left y (show 0<s by omega);omega);omega
 have k1:=u r.h1 r.c.f;have k2:=u r.h2 r.c.r;unfold ptr at*;rw[e];clear e u hm h;unfold O6;generalize Y5 r.h1 r.c.f y=Z at*;generalize Y5 r.h2 r.c.r y=n2 at*;rw[Yf]at*;have k3:max Z n2≤9223372036854775808:=by omega
 clear k1 k2;dsimp only[Pk]at*;generalize Ji r.l=x at*;have ab:IntKind.u64.wrap ((9223372036854775808:Int)-(x:Int))=((9223372036854775808-x:Nat):Int):=by rw[IntWalk.u64_in _ (by omega)];omega
 have U:∀n,n<9223372036854775808-x→IntKind.u64.wrap ((x:Int)+(n:Int))=((x+n:Nat):Int):=fun n h=>by rw[IntWalk.u64_in _ (by omega)];omega
 clear k hl;have q:∀(W),Qc Qb w W→Qh W b (Pk r x r.h1 r.h2 r.l.length) 297:=fun W c=>c.blk B.o (fun h=>h);have TL:=O q;dsimp only[Pk]at TL;clear q B;obtain⟨n,hn⟩:=Zx (max Z n2);rw[←hn]at k3⊢;have I:=U n;obtain⟨d,Eu⟩:=Zx (9223372036854775808-x);rw[←Eu]at ab I⊢;clear U Eu;obtain⟨z,J⟩:=Zx (if d≤n then 9223372036854775808 else x+n);rw[←J];have hq:(Z<n2∧n=n2)∨(¬Z<n2∧n=Z):=by omega
 have hr:(decide (d≤n)=true∧z=9223372036854775808)∨(decide (d≤n)=false∧IntKind.u64.wrap ((x:Int)+(n:Int))=(z:Int)):=by
  by_cases hc:d≤n;·exact .inl ⟨by simpa using hc,by rw[J,if_pos hc]⟩
  ·exact .inr ⟨by simpa using hc,by rw[J,if_neg hc];exact I (by omega)⟩
 clear I hx k3 hn J;rcases hq with⟨aa,rfl⟩|⟨aa,rfl⟩<;>rcases hr with⟨hd,J⟩|⟨hd,J⟩;all_goals(try subst J)
 all_goals
  go_enter func303,ntmps303;go_wp2_with fail;refine Zy HN ?_;rintro w1 rfl;go_wp2;refine Qu [] [0,1,2,3,4,6,7,8,9,10] [5,11,12,13] [] (Qz (Qb) (w)) Zq (by kernel_rfl) (fun _ _ _ _ _ h=>h) (Qd (by(repeat' (first|(with_reducible first|exact Zg _ _|assumption|refine Zh ?_ _|refine Zi ?_ _|refine Zj ?_|refine Zk ?_ _ ?_|(apply Or.inl;rfl))|(apply Or.inl;simp;done)|(apply Or.inr;simp;first|done|omega))))) ?_;simp only[pick,Zf,Ze,Zd];refine Qg ?_;iterate 10 (refine Ql (fun K hK=>?_);go_simp;refine hK _ ?_;clear hK K)
  refine Qg ?_;intro _ ac;obtain⟨xo,V⟩:=ac;subst V;simp only[Jd];have c3:=O (Qv Qb w xo);generalize Qz Qb w xo=w3 at c3⊢;clear E;go_wp2_with fail;refine Zz (H1.o _) ?_;intro w4 d4;have c4:=O (c3.o.aA d4);clear d4;go_wp2;refine⟨Qd c4.o,?_⟩;go_wp2_with fail;refine Zz (H2.o _) ?_;intro w5 d5;have R:=O (c4.o.aA d5);clear d5;go_wp2;refine⟨Qd R.o,?_⟩;go_wp2;refine⟨Qd R.o,?_⟩;go_wp2;refine⟨Qd R.o,?_⟩;obtain⟨a0,a1,a2,a3,a4,a5,a6,a7,a8⟩:=Av (TL.o _ R.o);go_wp2;go_ret;exact⟨rfl,R.o⟩
theorem Xh.start_h1{r:Xh}(ok:Uj r.l)(x y:Nat):(r.start x y).h1=if r.l=[]then min y Xw else min (Hb r.h1 r.c.f (max (min x Qq) (Ji r.l)-Ji r.l)) (min y Xw):=by
 unfold Xh.h1 Xh.start Dg;rw[if_neg (by simp)];by_cases hl:r.l=[];·rw[if_pos hl,hl,List.nil_append,Qdm];omega
 ·rw[if_neg hl,if_neg hl,F9 ok hl (by omega)];dsimp only;omega
theorem Xh.start_h2{r:Xh}(ok:Uj r.l)(x y:Nat):(r.start x y).h2=if r.l=[]then min Xw (min y Xw+(r.c.f-r.c.r)*r.c.l)else min (Hb r.h2 r.c.r (max (min x Qq) (Ji r.l)-Ji r.l)) (min Xw (min y Xw+(r.c.f-r.c.r)*r.c.l)):=by
 unfold Xh.h2 Xh.start Dg;rw[if_neg (by simp)];by_cases hl:r.l=[];·rw[if_pos hl,hl,List.nil_append,Qdm]
 ·rw[if_neg hl,if_neg hl,F9 ok hl (by omega)]
theorem Ew.start{l:Uw}(ok:Uj l)(h:Ew l)(x y:Nat):Ew (Dg l x y):=by
 refine List.pairwise_append.2 ⟨h,by simp,fun j c k d=>?_⟩;obtain rfl:k=_:=by simpa using d
 exact Zp (ok.rise j c) (Nat.le_max_right _ _)
end
section
attribute [local go_sem] Qp
def Dd:Value:=.func (.func 177) #[] #[]
def Vv:Value:=.func (.func 178) #[] #[]
def Yo(n:Nat)(i:Int):Value:=.agg #[.int .u64 n,.int .i64 i]
def Tr.aH:Tr→Value
 | .nil=>.pointer none
 | .aD x _ _ _=>.pointer (some ⟨x.a,0,none⟩)
def It(x:Nd)(c:Bool)(p q:Value):Array Value:=#[.int .u64 x.n,.int .i64 x.i,.int .u64 x.v,.int .u64 x.sv,.int .i64 x.si,.bool c,p,q]
def Qgc(w:World)(b:Nat):Prop:=∃(p:Value)(n:Int),Qh w b #[Dd,Vv,p,.int .i64 n] 254
def Jw(w:World):Tr→Prop
 | .nil=>True
 | .aD x c l r=>Qh w x.a (It x c l.aH r.aH) 258∧Jw w l∧Jw w r
structure Kc(w:World)(b:Nat)(t:Tr):Prop where
 top:Qgc w b
 nd:(b::t.aC).Nodup
 at':Jw w t
theorem Jw.aB{w w'}{S:Fp}(hc:Qc S w w'):∀(t:Tr),Jw w t→(∀a∈t.aC,¬S a)→Jw w' t
 | .nil,_,_=>trivial
 | .aD x c l r,⟨h1,h2,h3⟩,hS=>⟨hc.blk h1 (hS x.a (by simp[Tr.aC])),Jw.aB hc l h2 (fun a ha=>hS a (by simp[Tr.aC,ha])),Jw.aB hc r h3 (fun a ha=>hS a (by simp[Tr.aC,ha]))⟩
theorem Jw.lt{w}:∀(t:Tr),Jw w t→∀a∈t.aC,a<w.heap.size
 | .nil,_,a,h=>by simp[Tr.aC]at h
 | .aD x c l r,⟨h1,h2,h3⟩,a,h=>by
  simp only[Tr.aC,Zl,Zu]at h;rcases h with h|rfl|h;·exact Jw.lt l h2 a h
  ·exact h1.lt
  ·exact Jw.lt r h3 a h
theorem Qgc.aB{w w'}{S:Fp}{b:Nat}(h:Qgc w b)(hc:Qc S w w')(c:¬S b):Qgc w' b:=by obtain⟨p,n,h⟩:=h;exact⟨p,n,hc.blk h c⟩
theorem Kc.aB{w w'}{S:Fp}{b:Nat}{t:Tr}(h:Kc w b t)(hc:Qc S w w')(c:∀a∈b::t.aC,¬S a):Kc w' b t:=
 ⟨h.top.aB hc (c b (List.mem_cons_self)),h.nd,Jw.aB hc t h.at' fun a ha=>c a (Zr _ ha)⟩
theorem Su(n:Nat)(i:Int)(v:Nat)(w):Cl 177 #[Yo n i,.int .u64 v] w fun e w'=>e=.returned (.agg #[.int .u64 v,.int .i64 i])∧Qc Qb w w':=by
 unfold Yo;go_enter func177,ntmps177;go_wp2;refine bodyPost_ret (v:=.agg #[.int .u64 v,.int .i64 i]) ?_ rfl ⟨rfl,?_⟩;·simp[*,results,Tryz.results177,go_sem]
 ·(repeat' (first|(with_reducible first|exact Zg _ _|assumption|refine Zh ?_ _|refine Zi ?_ _|refine Zj ?_|refine Zk ?_ _ ?_|(apply Or.inl;rfl))|(apply Or.inl;simp;done)|(apply Or.inr;simp;first|done|omega)))
theorem Qey:prog.eqGuardType prog.depth 201=false:=by kernel_rfl
theorem Qml:prog.stoodInHeld 201=false:=by kernel_rfl
section
attribute [local go_sem] Qey Qml
theorem Qfm(a b c d:Int)(w):(binOp .eql 201 (.agg #[.int .u64 a,.int .i64 b]) (.agg #[.int .u64 c,.int .i64 d])).run prog w=.ok (.bool ((a==c)&&(b==d))) w:=by
 by_cases h:a=c
 ·by_cases k:b=d;·subst h k;go_simp
  ·subst h;have e:(a==a&&b==d)=false:=by simpa using k
   rw[e];go_simp;try simp[k]
 ·have e:(a==c&&b==d)=false:=by simp[h]
  rw[e];go_simp;try simp[h]
end
attribute [local go_sem ↓] Qfm
theorem Qkt(a b:Nat×Int):(a=b∧Xn a b=a)∨(a≠b∧a.1<b.1∧Xn a b=a)∨(a≠b∧a.1=b.1∧a.2<b.2∧Xn a b=a)∨(a.1=b.1∧b.2<a.2∧Xn a b=b)∨(b.1<a.1∧Xn a b=b):=by
 obtain⟨a1,d⟩:=a;obtain⟨b1,b2⟩:=b;unfold Xn;by_cases h:(a1,d)=(b1,b2);·exact .inl ⟨h,if_pos (.inl h)⟩
 ·by_cases h1:a1<b1;·exact .inr (.inl ⟨h,h1,if_pos (.inr (.inl h1))⟩)
  ·by_cases c:a1=b1
   ·by_cases k:d<b2;·exact .inr (.inr (.inl ⟨h,c,k,if_pos (.inr (.inr ⟨c,k⟩))⟩))
    ·refine .inr (.inr (.inr (.inl ⟨c,?_,if_neg (by simp only[not_or];exact⟨h,h1,fun h=>k h.2⟩)⟩)));have:d≠b2:=fun e=>h (by rw[c,e]);dsimp only;omega
   ·exact .inr (.inr (.inr (.inr ⟨by dsimp only;omega,if_neg (by simp only[not_or];exact⟨h,h1,fun h=>c h.1⟩)⟩)))
theorem Qag(a b:Nat×Int)(w):Cl 178 #[.agg #[.int .u64 a.1,.int .i64 a.2],.agg #[.int .u64 b.1,.int .i64 b.2]] w fun e w'=>e=.returned (.agg #[.int .u64 ((Xn a b).1:Int),.int .i64 (Xn a b).2])∧Qc Qb w w':=by
 rcases Qkt a b with⟨h,e⟩|⟨h,h1,e⟩|⟨h,h1,k,e⟩|⟨h1,k,e⟩|⟨h1,e⟩;all_goals
  rw[e];clear e;obtain⟨a1,c⟩:=a;obtain⟨b1,b2⟩:=b;dsimp only at*
 ·obtain⟨rfl,rfl⟩:a1=b1∧c=b2:=by simpa using h
  have d:((a1:Int)==(a1:Int))=true:=by simp
  have u:(c==c)=true:=by simp
  clear h;generalize(a1:Int)=x at*;go_enter func178,ntmps178;go_wp2;refine bodyPost_ret (v:=.agg #[.int .u64 x,.int .i64 c]) ?_ rfl ⟨rfl,?_⟩;·simp[*,results,Tryz.results178,go_sem]
  ·(repeat' (first|(with_reducible first|exact Zg _ _|assumption|refine Zh ?_ _|refine Zi ?_ _|refine Zj ?_|refine Zk ?_ _ ?_|(apply Or.inl;rfl))|(apply Or.inl;simp;done)|(apply Or.inr;simp;first|done|omega)))
 ·have d:((a1:Int)==(b1:Int))=false:=by simp;omega
  have q:decide ((a1:Int)<(b1:Int))=true:=by simp;omega
  clear h h1;generalize(a1:Int)=x at*;generalize(b1:Int)=y at*;go_enter func178,ntmps178;go_wp2;refine bodyPost_ret (v:=.agg #[.int .u64 x,.int .i64 c]) ?_ rfl ⟨rfl,?_⟩;·simp[*,results,Tryz.results178,go_sem]
  ·(repeat' (first|(with_reducible first|exact Zg _ _|assumption|refine Zh ?_ _|refine Zi ?_ _|refine Zj ?_|refine Zk ?_ _ ?_|(apply Or.inl;rfl))|(apply Or.inl;simp;done)|(apply Or.inr;simp;first|done|omega)))
 ·subst h1;have d:((a1:Int)==(a1:Int))=true:=by simp
  have u:(c==b2)=false:=by simp;omega
  have q:decide ((a1:Int)<(a1:Int))=false:=by simp
  have z:decide (c<b2)=true:=by simpa using k
  clear h k;generalize(a1:Int)=x at*;go_enter func178,ntmps178;go_wp2;refine bodyPost_ret (v:=.agg #[.int .u64 x,.int .i64 c]) ?_ rfl ⟨rfl,?_⟩;·simp[*,results,Tryz.results178,go_sem]
  ·(repeat' (first|(with_reducible first|exact Zg _ _|assumption|refine Zh ?_ _|refine Zi ?_ _|refine Zj ?_|refine Zk ?_ _ ?_|(apply Or.inl;rfl))|(apply Or.inl;simp;done)|(apply Or.inr;simp;first|done|omega)))
 ·subst h1;have d:((a1:Int)==(a1:Int))=true:=by simp
  have u:(c==b2)=false:=by simp;omega
  have q:decide ((a1:Int)<(a1:Int))=false:=by simp
  have z:decide (c<b2)=false:=by simp;omega
  clear k;generalize(a1:Int)=x at*;go_enter func178,ntmps178;go_wp2;refine bodyPost_ret (v:=.agg #[.int .u64 x,.int .i64 b2]) ?_ rfl ⟨rfl,?_⟩;·simp[*,results,Tryz.results178,go_sem]
  ·(repeat' (first|(with_reducible first|exact Zg _ _|assumption|refine Zh ?_ _|refine Zi ?_ _|refine Zj ?_|refine Zk ?_ _ ?_|(apply Or.inl;rfl))|(apply Or.inl;simp;done)|(apply Or.inr;simp;first|done|omega)))
 ·have d:((a1:Int)==(b1:Int))=false:=by simp;omega
  have q:decide ((a1:Int)<(b1:Int))=false:=by simp;omega
  clear h1;generalize(a1:Int)=x at*;generalize(b1:Int)=y at*;go_enter func178,ntmps178;go_wp2;refine bodyPost_ret (v:=.agg #[.int .u64 y,.int .i64 b2]) ?_ rfl ⟨rfl,?_⟩;·simp[*,results,Tryz.results178,go_sem]
  ·(repeat' (first|(with_reducible first|exact Zg _ _|assumption|refine Zh ?_ _|refine Zi ?_ _|refine Zj ?_|refine Zk ?_ _ ?_|(apply Or.inl;rfl))|(apply Or.inl;simp;done)|(apply Or.inr;simp;first|done|omega)))
theorem Cx{P:Program}(w)(d:Nat)(t:TypeId)(ps q:Array TypeId)(u:Bool)(h:P.underlying t=some (.func ps q u))(k:Fn)(c e:Array Value):(Op.equalIn (d+1) t (.func k c e) .nilFunc).run P w=.ok false w:=by simp[Op.equalIn,run_underlying h]
theorem Pf{P:Program}(w)(t:TypeId)(ps q:Array TypeId)(u:Bool)(h:P.underlying t=some (.func ps q u))(k:Fn)(c d:Array Value):(binOp .eql t (.func k c d) .nilFunc).run P w=.ok (.bool false) w:=by simp only[binOp];simp[Op.equal,Op.maxDepth,Cx w 9999 t ps q u h k c d]
theorem Ds(k:Fn)(c d:Array Value)(w):(binOp .eql 232 (.func k c d) .nilFunc).run prog w=.ok (.bool false) w:=Pf w _ _ _ _ underlying232 k c d
theorem Oy(k:Fn)(c d:Array Value)(w):(binOp .eql 233 (.func k c d) .nilFunc).run prog w=.ok (.bool false) w:=Pf w _ _ _ _ underlying233 k c d
attribute [local go_sem] Ds Oy
theorem Od{w}{b:Nat}(h:Qgc w b):Cl 209 #[ptr b] w fun e w'=>e=.returned (.bool false)∧w=w':=by obtain⟨p,n,h⟩:=h;obtain⟨c,a1,d,k⟩:=X9 h;unfold ptr Dd Vv at*;clear h;go_enter func209,ntmps209;go_wp2;go_ret;exact⟨rfl,rfl⟩
theorem Kf{w}(t:Tr)(h:Jw w t):Cl 235 #[t.aH] w fun e w'=>e=.returned (.bool t.red)∧w=w':=by
 cases t with
 |nil=> unfold Tr.aH;go_enter func235,ntmps235;go_wp2;go_ret;exact⟨rfl,rfl⟩
 |aD x c l r=> obtain⟨d,a1,k,q,u,z,B,E⟩:=Ja h.1;unfold Tr.aH Tr.red;dsimp only;clear h;go_enter func235,ntmps235;go_wp2;go_ret;exact⟨rfl,rfl⟩
theorem Qu2(n:Nat)(i:Int)(x:Nd):(n<x.n∧lt n i x=true)∨(n=x.n∧i<x.i∧lt n i x=true)∨(n=x.n∧¬i<x.i∧lt n i x=false)∨(x.n<n∧lt n i x=false):=by
 unfold lt;by_cases h1:n<x.n;·exact .inl ⟨h1,by simp[h1]⟩
 ·by_cases c:n=x.n
  ·by_cases d:i<x.i;·exact .inr (.inl ⟨c,d,by simp[c,d]⟩)
   ·exact .inr (.inr (.inl ⟨c,d,by simp[c,d]⟩))
  ·exact .inr (.inr (.inr ⟨by omega,by simp[h1,c]⟩))
theorem Gu(n:Nat)(i:Int)(x:Nd)(w):Cl 229 #[Yo n i,Yo x.n x.i] w fun e w'=>e=.returned (.bool (lt n i x))∧Qc Qb w w':=by
 have H:=Qu2 n i x;generalize lt n i x=q at*;generalize x.n=m at*;generalize x.i=j at*;unfold Yo;rcases H with⟨h,rfl⟩|⟨h,c,rfl⟩|⟨h,c,rfl⟩|⟨h,rfl⟩
 ·have d:decide ((n:Int)<(m:Int))=true:=by simp;omega
  clear h;generalize(n:Int)=n at*;generalize(m:Int)=m at*;go_enter func229,ntmps229;go_wp2;go_ret;refine⟨rfl,?_⟩;(repeat' (first|(with_reducible first|exact Zg _ _|assumption|refine Zh ?_ _|refine Zi ?_ _|refine Zj ?_|refine Zk ?_ _ ?_|(apply Or.inl;rfl))|(apply Or.inl;simp;done)|(apply Or.inr;simp;first|done|omega)))
 ·subst h;have d:decide ((n:Int)<(n:Int))=false:=by simp
  have k:((n:Int)==(n:Int))=true:=by simp
  have u:decide (i<j)=true:=by simpa using c
  clear c;generalize(n:Int)=n at*;go_enter func229,ntmps229;go_wp2;go_ret;refine⟨rfl,?_⟩;(repeat' (first|(with_reducible first|exact Zg _ _|assumption|refine Zh ?_ _|refine Zi ?_ _|refine Zj ?_|refine Zk ?_ _ ?_|(apply Or.inl;rfl))|(apply Or.inl;simp;done)|(apply Or.inr;simp;first|done|omega)))
 ·subst h;have d:decide ((n:Int)<(n:Int))=false:=by simp
  have k:((n:Int)==(n:Int))=true:=by simp
  have u:decide (i<j)=false:=by simpa using c
  clear c;generalize(n:Int)=n at*;go_enter func229,ntmps229;go_wp2;go_ret;refine⟨rfl,?_⟩;(repeat' (first|(with_reducible first|exact Zg _ _|assumption|refine Zh ?_ _|refine Zi ?_ _|refine Zj ?_|refine Zk ?_ _ ?_|(apply Or.inl;rfl))|(apply Or.inl;simp;done)|(apply Or.inr;simp;first|done|omega)))
 ·have d:decide ((n:Int)<(m:Int))=false:=by simp;omega
  have k:((n:Int)==(m:Int))=false:=by simp;omega
  clear h;generalize(n:Int)=n at*;generalize(m:Int)=m at*;go_enter func229,ntmps229;go_wp2;go_ret;refine⟨rfl,?_⟩;(repeat' (first|(with_reducible first|exact Zg _ _|assumption|refine Zh ?_ _|refine Zi ?_ _|refine Zj ?_|refine Zk ?_ _ ?_|(apply Or.inl;rfl))|(apply Or.inl;simp;done)|(apply Or.inr;simp;first|done|omega)))
end
section
attribute [local go_sem] Qp
def Y4(s:Nat×Int):Array Value:=#[.int .u64 s.1,.int .i64 s.2]
theorem Qoz(a b:Nat×Int)(w):Cl 178 #[.agg (Y4 a),.agg (Y4 b)] w fun e w'=>e=.returned (.agg (Y4 (Xn a b)))∧Qc Qb w w':=Qag a b w
theorem El{w}{b:Nat}{x:Nd}{c:Bool}{p q:Value}{n:Int}{pp:Value}(hT:Qh w b #[Dd,Vv,pp,.int .i64 n] 254)(hX:Qh w x.a (It x c p q) 258)(l r:Tr)(hp:p=l.aH)(hq:q=r.aH)(hl:Jw w l)(hr:Jw w r):
  Cl 260 #[ptr b,ptr x.a] w fun e w'=>e=.returned (.agg (Y4 (Pr x l r)))∧Qc Qb w w':=by
 have HO:=O (fun w=>Su x.n x.i x.v w);have HL:=O (fun w y z=>Qoz y z w);obtain⟨s,ae⟩:=Zx (w.heap.size);have S0:=O (Qh.new w #[.int .u64 0,.int .i64 0] 201);have C0:=O ((Zg Qb w).alloc (.cells #[.int .u64 0,.int .i64 0] 201));have T0:=O (hT.alloc (.cells #[.int .u64 0,.int .i64 0] 201));have X0:=O (hX.alloc (.cells #[.int .u64 0,.int .i64 0] 201));have TL:=O (fun w'(h:Qc Qb w w')=>Jw.aB h l hl (fun _ _ h=>h));have TR:=O (fun w'(h:Qc Qb w w')=>Jw.aB h r hr (fun _ _ h=>h));simp only[←ae]at S0;have ao:=hT.lt;have ap:=hX.lt;have am:=O (Jw.lt r hr);unfold ptr Yo at*;clear hl hr hT hX;go_enter func260,ntmps260;go_wp2;rw[←ae];obtain⟨W,hW⟩:=Zx (w.alloc (.cells #[.int .u64 0,.int .i64 0] 201));rw[←hW]at S0 C0 T0 X0⊢;have HS:=O ae;clear hW ae;dsimp only[It,Dd,Vv]at T0 X0;have af:=O (fun(w')(h:Qc Qb W w')=>(⟨(X9 (h.blk T0.o (fun h=>h))).1,(Ja (h.blk X0.o (fun h=>h))).1,(Ja (h.blk X0.o (fun h=>h))).2.1,(Ja (h.blk X0.o (fun h=>h))).2.2.1⟩:w'.cell? ⟨b,0,none⟩=some (.func (.func 177) #[] #[])∧w'.cell? ⟨x.a,0,none⟩=some (.int .u64 x.n)∧w'.cell? ⟨x.a,1,none⟩=some (.int .i64 x.i)∧w'.cell? ⟨x.a,2,none⟩=some (.int .u64 x.v)));go_wp2;go_cut [5] (fun s5 wz=>∃q,s5=.pointer (some ⟨q,0,none⟩)∧W.heap.size≤q∧Qh wz q (Y4 (x.v,x.i)) 201∧Qc Qb W wz)
 case first=>
  go_region_held3 (fun w':World=>w'.cell? ⟨b,0,none⟩=some (.func (.func 177) #[] #[])∧w'.cell? ⟨x.a,0,none⟩=some (.int .u64 x.n)∧w'.cell? ⟨x.a,1,none⟩=some (.int .i64 x.i)∧w'.cell? ⟨x.a,2,none⟩=some (.int .u64 x.v)) (exact af.o _ (by(repeat' (first|(with_reducible first|exact Zg _ _|assumption|refine Zh ?_ _|refine Zi ?_ _|refine Zj ?_|refine Zk ?_ _ ?_|(apply Or.inl;rfl))|(apply Or.inl;simp;done)|(apply Or.inr;simp;first|done|omega))))) (first|(go_at_call 177;with_reducible refine(HO.o _).mono ?_;rintro e w2⟨rfl,d2⟩;have c2:Qc Qb W w2:=Qc.aA (by(repeat' (first|(with_reducible first|exact Zg _ _|assumption|refine Zh ?_ _|refine Zi ?_ _|refine Zj ?_|refine Zk ?_ _ ?_|(apply Or.inl;rfl))|(apply Or.inl;simp;done)|(apply Or.inr;simp;first|done|omega)))) d2;have z2:=c2.size;(try(first|have g2:=d2.blk (Qh.new _ #[.int .u64 0,.int .i64 0] 201) (fun h=>h)|have g2:=d2.blk (Qh.new _ #[.int .u64 0,.int .i64 0] 201).drew (fun h=>h));obtain⟨u2,v2⟩:=Q4 g2;have f2:=g2.frozen);clear d2));all_goals go_wp2_with fail
  all_goals go_meet
  all_goals refine⟨_,rfl,?_,?_,?_⟩
  all_goals first|exact(g2.set' 0 _ rfl).set' 1 _ rfl|exact Qh.new _ _ _|skip
  all_goals first|omega|skip
  all_goals(repeat' (first|(with_reducible first|exact Zg _ _|assumption|refine Zh ?_ _|refine Zi ?_ _|refine Zj ?_|refine Zk ?_ _ ?_|(apply Or.inl;rfl))|(apply Or.inl;simp;done)|(apply Or.inr;simp;first|done|omega)))
 case rest=>
  obtain⟨B,rfl,aj,ag,J⟩:=hcut;obtain⟨W1,hW1⟩:=Zx wc;rw[←hW1]at ag J⊢;clear hW1 af HO;have T1:=O (J.blk T0.o (fun h=>h));have X1:=O (J.blk X0.o (fun h=>h));have S1:=O (J.blk S0.o (fun h=>h));have C1:=O (C0.o.aA J);have Q1:=O ag;have ah:s<B:=Nat.lt_of_lt_of_le S0.o.lt aj;have d:=O ah;have ab:=O (show w.heap.size<B from HS.o▸ah);have al:=O (show¬b=B by have:=ao;have:=ab.o;omega);have aa:=O (show¬x.a=B by have:=ap;have:=ab.o;omega);have ac:=O (show s=w.heap.size from HS.o);clear ag J ah aj T0 X0 S0 C0 HS;subst hp hq;cases l with
  |nil=>
   cases r with
   |nil=>
    unfold Tr.aH at*;obtain⟨V,a1,Z,a3,a4,a5,a6,a7⟩:=Ja X1.o;obtain⟨y0,y1⟩:=Q4 Q1.o;obtain⟨y2,y3⟩:=Q4 S1.o;have y4:=S1.o.frozen;have n1:¬s=B:=by have:=d.o;omega
    have n2:¬B=s:=by have:=d.o;omega
    go_wp2;refine bodyPost_ret (v:=.agg (Y4 ((x.v,x.i)))) ?_ rfl ⟨rfl,?_⟩;·simp[*,results,Tryz.results260,go_sem,Y4]
    ·have cw:=C1.o;have ai:=ac.o;clear y0 y1 y2 y3 y4 n1 n2;(repeat' (first|(with_reducible first|exact Zg _ _|assumption|refine Zh ?_ _|refine Zi ?_ _|refine Zj ?_|refine Zk ?_ _ ?_|(apply Or.inl;rfl))|(apply Or.inl;simp;done)|(apply Or.inr;simp;first|done|omega)))
   |aD z zc zl zr=>
    have R1:=O ((TR.o _ C1.o).1);unfold Tr.aH at*;dsimp only[Y4,It]at*;obtain⟨V,a1,Z,a3,a4,a5,a6,a7⟩:=Ja X1.o;have E1:=fun x=>X9 (Qk (S:=Qb) T1.o (fun h=>h) x);have E2:=fun x=>Ja (Qk (S:=Qb) X1.o (fun h=>h) x);have E3:=fun x=>Ja (Qk (S:=Qb) R1.o (fun h=>h) x);have E4:=fun x=>Q4 (Qk (S:=Qb) Q1.o (fun h=>h) x);go_wp2;refine Qu [] [0,1,2,3,4,5,6,7,8,9,10,11] [12] [13] (Qz (Qb) (W1)) Zq (by kernel_rfl) (fun _ _ _ _ _ h=>h) (Qd (by(repeat' (first|(with_reducible first|exact Zg _ _|assumption|refine Zh ?_ _|refine Zi ?_ _|refine Zj ?_|refine Zk ?_ _ ?_|(apply Or.inl;rfl))|(apply Or.inl;simp;done)|(apply Or.inr;simp;first|done|omega))))) ?_;simp only[pick,Zf,Ze,Zd];refine Qg ?_;iterate 12 (refine Ql (fun K hK=>?_);go_simp;refine hK _ ?_;clear hK K)
    refine Qg ?_;intro _ I;obtain⟨xo,E⟩:=I;subst E;simp only[Jd];have c3:=O (Qv Qb W1 xo);generalize Qz Qb W1 xo=U1 at c3⊢;clear E1 E2 E3 E4 V a1 Z a3 a4 a5 a6 a7;go_wp2_with fail;with_reducible refine Zz (HL.o _ (x.v,x.i) (z.sv,z.si)) ?_
    intro Y1 d3;have u:=O (c3.o.aA d3);have R:=O (u.o.blk Q1.o (fun h=>h));obtain⟨y1,y2⟩:=Q4 R.o;have y3:=R.o.frozen;clear d3;dsimp only[Y4];go_wp2;refine⟨Qd u.o,?_⟩;have U:=O (u.o.blk S1.o (fun h=>h));obtain⟨y5,y6⟩:=Q4 U.o;have y7:=U.o.frozen;have n1:¬s=B:=by have:=d.o;omega
    have n2:¬B=s:=by have:=d.o;omega
    go_wp2;refine bodyPost_ret (v:=.agg (Y4 (Xn (x.v,x.i) (z.sv,z.si)))) ?_ rfl ⟨rfl,?_⟩;·simp[*,results,Tryz.results260,go_sem,Y4]
    ·have cw:=C1.o.aA u.o;have ai:=ac.o;have ak:=d.o;clear y1 y2 y3 y5 y6 y7 n1 n2;(repeat' (first|(with_reducible first|exact Zg _ _|assumption|refine Zh ?_ _|refine Zi ?_ _|refine Zj ?_|refine Zk ?_ _ ?_|(apply Or.inl;rfl))|(apply Or.inl;simp;done)|(apply Or.inr;simp;first|done|omega)))
  |aD y yc yl yr=>
   have L1:=O ((TL.o _ C1.o).1);cases r with
   |nil=>
    unfold Tr.aH at*;dsimp only[Y4,It]at*;obtain⟨V,a1,Z,a3,a4,a5,a6,a7⟩:=Ja X1.o;have E1:=fun x=>X9 (Qk (S:=Qb) T1.o (fun h=>h) x);have E2:=fun x=>Ja (Qk (S:=Qb) X1.o (fun h=>h) x);have E3:=fun x=>Ja (Qk (S:=Qb) L1.o (fun h=>h) x);have E4:=fun x=>Q4 (Qk (S:=Qb) Q1.o (fun h=>h) x);go_wp2;refine Qu [] [0,1,2,3,4,5,6,7,8,9,10,11] [12] [13] (Qz (Qb) (W1)) Zq (by kernel_rfl) (fun _ _ _ _ _ h=>h) (Qd (by(repeat' (first|(with_reducible first|exact Zg _ _|assumption|refine Zh ?_ _|refine Zi ?_ _|refine Zj ?_|refine Zk ?_ _ ?_|(apply Or.inl;rfl))|(apply Or.inl;simp;done)|(apply Or.inr;simp;first|done|omega))))) ?_;simp only[pick,Zf,Ze,Zd];refine Qg ?_;iterate 12 (refine Ql (fun K hK=>?_);go_simp;refine hK _ ?_;clear hK K)
    refine Qg ?_;intro _ I;obtain⟨xo,E⟩:=I;subst E;simp only[Jd];have c3:=O (Qv Qb W1 xo);generalize Qz Qb W1 xo=U1 at c3⊢;clear E1 E2 E3 E4 V a1 Z a3 a4 a5 a6 a7;go_wp2_with fail;with_reducible refine Zz (HL.o _ (y.sv,y.si) (x.v,x.i)) ?_
    intro Y1 d3;have u:=O (c3.o.aA d3);have R:=O (u.o.blk Q1.o (fun h=>h));obtain⟨y1,y2⟩:=Q4 R.o;have y3:=R.o.frozen;clear d3;dsimp only[Y4];go_wp2;refine⟨Qd u.o,?_⟩;have U:=O (u.o.blk S1.o (fun h=>h));obtain⟨y5,y6⟩:=Q4 U.o;have y7:=U.o.frozen;have n1:¬s=B:=by have:=d.o;omega
    have n2:¬B=s:=by have:=d.o;omega
    obtain⟨V,a1,Z,a3,a4,a5,a6,a7⟩:=Ja (u.o.blk X1.o (fun h=>h));have n3:¬x.a=B:=aa.o;have n4:¬B=x.a:=fun h=>aa.o h.symm;go_wp2;refine bodyPost_ret (v:=.agg (Y4 (Xn (y.sv,y.si) (x.v,x.i)))) ?_ rfl ⟨rfl,?_⟩;·simp[*,results,Tryz.results260,go_sem,Y4]
    ·have cw:=C1.o.aA u.o;have ai:=ac.o;have ak:=d.o;clear n3 n4 V a1 Z a3 a4 a5 a6 a7 y1 y2 y3 y5 y6 y7 n1 n2;(repeat' (first|(with_reducible first|exact Zg _ _|assumption|refine Zh ?_ _|refine Zi ?_ _|refine Zj ?_|refine Zk ?_ _ ?_|(apply Or.inl;rfl))|(apply Or.inl;simp;done)|(apply Or.inr;simp;first|done|omega)))
   |aD z zc zl zr=>
    have R1:=O ((TR.o _ C1.o).1);have an:=O (show¬z.a=B from fun h=>by have:=ab.o;have:=am.o z.a (by simp[Tr.aC]);omega);unfold Tr.aH at*;dsimp only[Y4,It]at*;obtain⟨V,a1,Z,a3,a4,a5,a6,a7⟩:=Ja X1.o;have E1:=fun x=>X9 (Qk (S:=Qb) T1.o (fun h=>h) x);have E2:=fun x=>Ja (Qk (S:=Qb) X1.o (fun h=>h) x);have E3:=fun x=>Ja (Qk (S:=Qb) L1.o (fun h=>h) x);have E4:=fun x=>Q4 (Qk (S:=Qb) Q1.o (fun h=>h) x);go_wp2;refine Qu [] [0,1,2,3,4,5,6,7,8,9,10,11] [12] [13] (Qz (Qb) (W1)) Zq (by kernel_rfl) (fun _ _ _ _ _ h=>h) (Qd (by(repeat' (first|(with_reducible first|exact Zg _ _|assumption|refine Zh ?_ _|refine Zi ?_ _|refine Zj ?_|refine Zk ?_ _ ?_|(apply Or.inl;rfl))|(apply Or.inl;simp;done)|(apply Or.inr;simp;first|done|omega))))) ?_;simp only[pick,Zf,Ze,Zd];refine Qg ?_;iterate 12 (refine Ql (fun K hK=>?_);go_simp;refine hK _ ?_;clear hK K)
    refine Qg ?_;intro _ I;obtain⟨xo,E⟩:=I;subst E;simp only[Jd];have c3:=O (Qv Qb W1 xo);generalize Qz Qb W1 xo=U1 at c3⊢;clear E1 E2 E3 E4 V a1 Z a3 a4 a5 a6 a7;go_wp2_with fail;with_reducible refine Zz (HL.o _ (y.sv,y.si) (x.v,x.i)) ?_
    intro Y1 d3;have u:=O (c3.o.aA d3);have R:=O (u.o.blk Q1.o (fun h=>h));obtain⟨y1,y2⟩:=Q4 R.o;have y3:=R.o.frozen;clear d3;dsimp only[Y4];go_wp2;refine⟨Qd u.o,?_⟩;have U:=O (u.o.blk S1.o (fun h=>h));obtain⟨y5,y6⟩:=Q4 U.o;have y7:=U.o.frozen;have n1:¬s=B:=by have:=d.o;omega
    have n2:¬B=s:=by have:=d.o;omega
    obtain⟨V,a1,Z,a3,a4,a5,a6,a7⟩:=Ja (u.o.blk X1.o (fun h=>h));have n3:¬x.a=B:=aa.o;have n4:¬B=x.a:=fun h=>aa.o h.symm;go_wp2;clear y1 y2 y3 y5 y6 y7 n1 n2 n3 n4 V a1 Z a3 a4 a5 a6 a7;have Q2:=O ((R.o.set' 0 (.int .u64 ((Xn (y.sv,y.si) (x.v,x.i)).1:Int)) rfl).set' 1 (.int .i64 (Xn (y.sv,y.si) (x.v,x.i)).2) rfl);have D5:=O ((((Zg (fun k=>k=B) Y1).setCell (a:=⟨B,0,none⟩) (.int .u64 ((Xn (y.sv,y.si) (x.v,x.i)).1:Int)) (.inl rfl)).setCell (a:=⟨B,1,none⟩) (.int .i64 (Xn (y.sv,y.si) (x.v,x.i)).2) (.inl rfl)));obtain⟨W2,hW2⟩:=Zx ((Y1.setCell ⟨B,0,none⟩ (.int .u64 ((Xn (y.sv,y.si) (x.v,x.i)).1:Int))).setCell ⟨B,1,none⟩ (.int .i64 (Xn (y.sv,y.si) (x.v,x.i)).2));rw[←hW2]at Q2 D5⊢;clear hW2;have T2:=O (D5.o.blk (u.o.blk T1.o (fun h=>h)) al.o);have X2:=O (D5.o.blk (u.o.blk X1.o (fun h=>h)) aa.o);have R2:=O (D5.o.blk (u.o.blk R1.o (fun h=>h)) an.o);have S2:=O (D5.o.blk U.o (by have:=d.o;omega));have C2:=O (show Qc Qb w W2 from(C1.o.aA u.o).trans D5.o (fun k hk=>.inr (by have:=ab.o;omega)));clear D5 c3 u R U;obtain⟨V,a1,Z,a3,a4,a5,a6,a7⟩:=Ja X2.o;have E1:=fun x=>X9 (Qk (S:=Qb) T2.o (fun h=>h) x);have E2:=fun x=>Ja (Qk (S:=Qb) X2.o (fun h=>h) x);have E3:=fun x=>Ja (Qk (S:=Qb) R2.o (fun h=>h) x);have E4:=fun x=>Q4 (Qk (S:=Qb) Q2.o (fun h=>h) x);go_wp2;refine Qu [] [0,1,2,3,4,5,6,7,8,9,10,11] [12] [13] (Qz (Qb) (W2)) Zq (by kernel_rfl) (fun _ _ _ _ _ h=>h) (Qd (by(repeat' (first|(with_reducible first|exact Zg _ _|assumption|refine Zh ?_ _|refine Zi ?_ _|refine Zj ?_|refine Zk ?_ _ ?_|(apply Or.inl;rfl))|(apply Or.inl;simp;done)|(apply Or.inr;simp;first|done|omega))))) ?_;simp only[pick,Zf,Ze,Zd];refine Qg ?_;iterate 12 (refine Ql (fun K hK=>?_);go_simp;refine hK _ ?_;clear hK K)
    refine Qg ?_;intro _ I;obtain⟨xo,E⟩:=I;subst E;simp only[Jd];have c3:=O (Qv Qb W2 xo);generalize Qz Qb W2 xo=U2 at c3⊢;clear E1 E2 E3 E4 V a1 Z a3 a4 a5 a6 a7;go_wp2_with fail;with_reducible refine Zz (HL.o _ (Xn (y.sv,y.si) (x.v,x.i)) (z.sv,z.si)) ?_
    intro Y2 d3;have u:=O (c3.o.aA d3);have R:=O (u.o.blk Q2.o (fun h=>h));obtain⟨y1,y2⟩:=Q4 R.o;have y3:=R.o.frozen;clear d3;dsimp only[Y4];go_wp2;refine⟨Qd u.o,?_⟩;have U:=O (u.o.blk S2.o (fun h=>h));obtain⟨y5,y6⟩:=Q4 U.o;have y7:=U.o.frozen;have n1:¬s=B:=by have:=d.o;omega
    have n2:¬B=s:=by have:=d.o;omega
    go_wp2;refine bodyPost_ret (v:=.agg (Y4 (Xn (Xn (y.sv,y.si) (x.v,x.i)) (z.sv,z.si)))) ?_ rfl ⟨rfl,?_⟩;·simp[*,results,Tryz.results260,go_sem,Y4]
    ·have cw:=C2.o.aA u.o;have ai:=ac.o;have ak:=d.o;clear y1 y2 y3 y5 y6 y7 n1 n2;(repeat' (first|(with_reducible first|exact Zg _ _|assumption|refine Zh ?_ _|refine Zi ?_ _|refine Zj ?_|refine Zk ?_ _ ?_|(apply Or.inl;rfl))|(apply Or.inl;simp;done)|(apply Or.inr;simp;first|done|omega)))
end
end Go.Proofs.YtnnhmpehkbihnaaGreat
