/- A part of the proof: no condition. -/
import Derived.Test.YtnnhmpehkbihnaaGreatPp01
import Derived.Laws.Externs
import Derived.Deep.RegionHeld3
import Derived.Maps.Own
import Derived.Maps.RangeRun
namespace Go.Proofs.YtnnhmpehkbihnaaGreat
set_option linter.unusedVariables false
set_option maxRecDepth 100000
set_option maxHeartbeats 4000000
open Go.RowKit
open Go.Proofs.Tryz
def Qcv:Nat:=4611686018427387904
theorem Qbr:Qcv=4611686018427387904:=rfl
def Qfe(a b:Nat):Nat:=min (a+b) Qcv
def upN(a c:Nat):Nat:=min ((a+c-1)/c) Qcv
theorem Qam(n:Nat)(w:World):Cl 313 #[.int .u64 (n:Int),.bool true] w fun e w'=>e=.returned (.int .u64 4611686018427387904)∧Qc Qb w w':=by go_enter func313,ntmps313;go_wp2;go_ret;exact⟨rfl,Qc.refl _ _⟩
theorem Gl(n:Nat)(w:World):Cl 313 #[.int .u64 (n:Int),.bool false] w fun e w'=>e=.returned (.int .u64 (min n Qcv:Nat))∧Qc Qb w w':=by
 by_cases h:4611686018427387904<n
 ·have e:min n Qcv=4611686018427387904:=by rw[Qbr];omega
  have h':(4611686018427387904:Int)<(n:Int):=by omega
  rw[e];clear e h;go_enter func313,ntmps313;go_wp2;go_ret;exact⟨rfl,Qc.refl _ _⟩
 ·have e:min n Qcv=n:=by rw[Qbr];omega
  have h':¬(4611686018427387904:Int)<(n:Int):=by omega
  rw[e];clear e h;go_enter func313,ntmps313;go_wp2;go_ret;exact⟨rfl,Qc.refl _ _⟩
theorem Qax(a b:Nat)(ha:a<18446744073709551616)(q:b<18446744073709551616)(w:World):Cl 309 #[.int .u64 (a:Int),.int .u64 (b:Int)] w fun e w'=>e=.returned (.int .u64 (Qfe a b:Int))∧Qc Qb w w':=by
 by_cases h:a+b<18446744073709551616
 ·have hs:IntKind.u64.wrap ((a:Int)+(b:Int))=((a+b:Nat):Int):=by rw[IntWalk.u64_in _ (by omega)];omega
  have Jl:decide (a+b<a)=false:=by simp
  have c:=O (Gl (a+b) w);have d:Hid (Qfe a b=min (a+b) Qcv):=O rfl;rw[d.out];generalize a+b=n at hs Jl c⊢;generalize min n Qcv=r at c⊢;clear d h ha q;go_enter func309,ntmps309;go_wp2_with fail;refine c.out.mono ?_;rintro e w1⟨rfl,k⟩;go_wp2;go_ret;exact⟨rfl,k⟩
 ·have hs:IntKind.u64.wrap ((a:Int)+(b:Int))=((a+b-18446744073709551616:Nat):Int):=by rw[IntKind.wrap_u64];omega
  have Jl:decide (a+b-18446744073709551616<a)=true:=by simp;omega
  have c:=O (Qam (a+b-18446744073709551616) w);have d:Qfe a b=4611686018427387904:=by unfold Qfe;rw[Qbr];omega
  rw[d];generalize a+b-18446744073709551616=n at hs Jl c;clear d h ha q;go_enter func309,ntmps309;go_wp2_with fail;refine c.out.mono ?_;rintro e w1⟨rfl,k⟩;go_wp2;go_ret;exact⟨rfl,k⟩
theorem Qsu(n:Nat)(w:World):Cl 314 #[.int .u64 (n:Int)] w fun e w'=>e=.returned (.int .u64 (min n 1:Nat))∧Qc Qb w w':=by
 match n with
 |0=> go_enter func314,ntmps314;go_wp2;go_ret;exact⟨rfl,Qc.refl _ _⟩
 |1=> go_enter func314,ntmps314;go_wp2;go_ret;exact⟨rfl,Qc.refl _ _⟩
 |m+2=>
  have e:min (m+2) 1=1:=by omega
  rw[e];generalize c:m+2=k;have h1:¬(k:Int)<1:=by omega
  have q:(1:Int)<(k:Int):=by omega
  have d:¬(k:Int)≤1:=by omega
  clear e c;go_enter func314,ntmps314;go_wp2;go_ret;exact⟨rfl,Qc.refl _ _⟩
theorem Qo8(l c:Nat)(hl:l<18446744073709551616)(hc:c<18446744073709551616)(h0:0<c)(w:World):Cl 317 #[.int .u64 0,.int .u64 (l:Int),.int .u64 (c:Int)] w fun e w'=>e=.returned (.tuple #[.int .u64 ((l/c:Nat):Int),.int .u64 ((l%c:Nat):Int)])∧Qc Qb w w':=by
 have e1:((c:Int)==0)=false:=by simp;omega
 have J:decide ((c:Int)≤0)=false:=by simp;omega
 have E:¬(c:Int)=0:=by omega
 have k:Int.tdiv (l:Int) (c:Int)=((l/c:Nat):Int):=by rw[Int.tdiv_eq_ediv_of_nonneg (by omega)];rfl
 have B:Int.tmod (l:Int) (c:Int)=((l%c:Nat):Int):=by rw[Int.tmod_eq_emod_of_nonneg (by omega)];rfl
 have u:(l:Int)/(c:Int)=((l/c:Nat):Int):=rfl;have z:(l:Int)%(c:Int)=((l%c:Nat):Int):=rfl;have d:l/c≤l:=Nat.div_le_self _ _;generalize l/c=q at k u d⊢;have I:IntKind.u64.wrap (q:Int)=(q:Int):=IntWalk.u64_in _ (by omega);generalize l%c=r at B z⊢;clear d;go_enter func317,ntmps317;go_wp2;go_quiet (fail);go_wp2;refine bodyPost_ret (v:=.tuple #[.int .u64 (q:Int),.int .u64 (r:Int)]) (by simp[results,Tryz.results317,go_sem]) rfl ⟨rfl,?_⟩;(repeat' (first|(with_reducible first|exact Zg _ _|assumption|refine Zh ?_ _|refine Zi ?_ _|refine Zj ?_ |refine Zk ?_ _ ?_ |(apply Or.inl;rfl))|(apply Or.inl;simp;done)|(apply Or.inr;simp;first|done|omega)))
theorem Qvf(l c:Nat)(hl:l<18446744073709551616)(hc:c<18446744073709551616)(h0:0<c)(w:World):Cl 316 #[.agg #[.int .u64 0,.int .u64 (l:Int)],.int .u64 (c:Int)] w fun e w'=>e=.returned (.tuple #[.int .u64 ((l/c:Nat):Int),.int .u64 ((l%c:Nat):Int),.int .i64 0])∧Qc Qb w w':=by
 have d:=O (Qo8 l c hl hc h0);have u:=O ((Qc.refl Qb w).alloc (.cells #[.int .u64 0,.int .u64 (l:Int)] 291));have e1:((c:Int)==0)=false:=by simp;omega
 have B:decide ((c:Int)≤0)=false:=by simp;omega
 generalize l/c=q at d⊢;generalize l%c=r at d⊢;go_enter func316,ntmps316;go_wp2_with fail;refine(d.out _).mono ?_;rintro e w1⟨rfl,k⟩;have z:=O (u.out.trans' k);clear k;go_wp2;refine bodyPost_ret (v:=.tuple #[.int .u64 (q:Int),.int .u64 (r:Int),.int .i64 0]) (by simp[results,Tryz.results316,go_sem]) rfl ⟨rfl,z.out⟩
theorem Qsv(n:Nat)(h l:Int)(w:World):Cl 316 #[.agg #[.int .u64 h,.int .u64 l],.int .u64 0] w fun e w'=>e=.returned (.tuple #[.int .u64 0,.int .u64 0,.int .i64 2])∧Qc Qb w w':=by go_enter func316,ntmps316;go_wp2;refine bodyPost_ret (v:=.tuple #[.int .u64 0,.int .u64 0,.int .i64 2]) (by simp[results,Tryz.results316,go_sem]) rfl ⟨rfl,?_⟩;(repeat' (first|(with_reducible first|exact Zg _ _|assumption|refine Zh ?_ _|refine Zi ?_ _|refine Zj ?_ |refine Zk ?_ _ ?_ |(apply Or.inl;rfl))|(apply Or.inl;simp;done)|(apply Or.inr;simp;first|done|omega)))
theorem Qvg(a c:Nat)(h:0<c):min (a/c+min (a%c) 1) Qcv=upN a c:=by
 unfold upN;congr 1;have h1:=Nat.div_add_mod a c;have d:=Nat.mod_lt a h;by_cases h0:a%c=0
 ·rw[h0];have e:a+c-1=c-1+c*(a/c):=by omega
  rw[e,Nat.add_mul_div_left _ _ h,Nat.div_eq_of_lt (show c-1<c by omega)];simp
 ·have e:a+c-1=(a%c-1)+c*(a/c+1):=by rw[Nat.mul_add];omega
  rw[e,Nat.add_mul_div_left _ _ h,Nat.div_eq_of_lt (show a%c-1<c by omega)];have:min (a%c) 1=1:=by omega
  omega
theorem Qlz(a c:Nat)(ha:a<18446744073709551616)(hc:c<18446744073709551616)(h0:0<c)(w:World):Cl 311 #[.int .u64 (a:Int),.int .u64 1,.int .u64 (c:Int)] w fun e w'=>e=.returned (.tuple #[.int .u64 (upN a c:Int),.int .i64 0])∧Qc Qb w w':=by
 have I:=O (fun w=>Uz a 1 w ha (by omega));rw[Nat.mul_one,Nat.div_eq_of_lt ha,Nat.mod_eq_of_lt ha]at I;have B:=O (Qvf a c ha hc h0);have E:=O (Qsu (a%c));have k:=O (Qax (a/c) (min (a%c) 1) (by have:=Nat.div_le_self a c;omega) (by omega));rw[show Qfe (a/c) (min (a%c) 1)=upN a c from Qvg a c h0]at k;generalize min (a%c) 1=m at E k;generalize a/c=q at B k;generalize a%c=r at B E;generalize upN a c=u at k⊢;clear ha hc h0;have U:Hid (∀w,Cl 315 #[.agg #[.func (.func 314) #[] #[]],.int .u64 (a:Int),.int .u64 1,.int .u64 (c:Int)] w fun e w'=>e=.returned (.tuple #[.int .u64 (u:Int),.int .i64 0])∧Qc Qb w w'):=O (by
  intro w;have R:=O (Qh.new w #[.func (.func 314) #[] #[]] 358);have C0:=O ((Qc.refl Qb w).alloc (.cells #[.func (.func 314) #[] #[]] 358));go_enter func315,ntmps315;go_wp2_with fail;refine(I.out _).mono ?_;rintro e w1⟨rfl,d⟩;have C1:=O (C0.out.trans' d);have B1:=O (d.blk R.out (fun h=>h));clear d;go_wp2_with fail;refine(B.out _).mono ?_;rintro e w2⟨rfl,z⟩;have Z:=O (C1.out.trans' z);have b2:=(z.blk B1.out (fun h=>h)).cell 0;simp at b2;clear z;go_wp2_with fail;refine(E.out _).mono ?_;rintro e w3⟨rfl,K⟩;have V:=O (Z.out.trans' K);clear K b2;go_wp2_with fail;refine(k.out _).mono ?_;rintro e w4⟨rfl,J⟩;have C4:=O (V.out.trans' J);clear J;go_wp2;exact bodyPost_ret (v:=.tuple #[.int .u64 (u:Int),.int .i64 0]) (by simp[results,Tryz.results315,go_sem]) rfl ⟨rfl,C4.out⟩)
 go_enter func311,ntmps311;go_wp2_with fail;refine(U.out _).mono ?_;rintro e w1⟨rfl,d⟩;go_wp2;exact bodyPost_ret (v:=.tuple #[.int .u64 (u:Int),.int .i64 0]) (by simp[results,Tryz.results311,go_sem]) rfl ⟨rfl,d⟩
theorem Qir(x y c s d:Int)(u:0≤x)(q:0≤y)(k:0≤c)(hc:c≤1)(hs:(x+y+c)%18446744073709551616=s)(z:(x+y+c)/18446744073709551616=d)(w:World):
  (callFunc 264 #[.int .u64 x,.int .u64 y,.int .u64 c]).run prog w=.ok (.value (.tuple #[.int .u64 s,.int .u64 d])) w:=by
 rw[run_callFunc_extern func264 (by kernel_rfl) (by kernel_rfl) (by kernel_rfl) (e:=add64Entry) (by kernel_rfl),run_add64 x y c u q k hc,hs,z];rfl
theorem Ql0(h1 l1 c l2 s d h:Int)(w:World)(b1:0≤h1)(b2:0≤l1)(k:0≤c)(z:0≤l2)(B:0≤d)(q:d≤1)
  (hs:(l1+l2+0)%18446744073709551616=s)(E:(l1+l2+0)/18446744073709551616=d)(u:(h1+c+d)%18446744073709551616=h)(h0:(h1+c+d)/18446744073709551616=0):
  Cl 256 #[.agg #[.int .u64 h1,.int .u64 l1],.agg #[.int .u64 c,.int .u64 l2]] w fun e w'=>e=.returned (.tuple #[.agg #[.int .u64 h,.int .u64 s],.int .i64 0])∧Qc Qb w w':=by
 have I:=O (fun w=>Qir l1 l2 0 s d b2 z (by omega) (by omega) hs E w);have J:=O (fun w=>Qir h1 c d h 0 b1 k B q u h0 w);clear b1 b2 k z B q hs E u h0;go_enter func256,ntmps256;go_wp2_with (first|simp only[I.out]|simp only[J.out]);refine bodyPost_ret (v:=.tuple #[.agg #[.int .u64 h,.int .u64 s],.int .i64 0]) (by simp[results,Tryz.results256,go_sem]) rfl ⟨rfl,?_⟩;(repeat' (first|(with_reducible first|exact Zg _ _|assumption|refine Zh ?_ _|refine Zi ?_ _|refine Zj ?_ |refine Zk ?_ _ ?_ |(apply Or.inl;rfl))|(apply Or.inl;simp;done)|(apply Or.inr;simp;first|done|omega)))
theorem Qcw(m n:Nat)(w:World)(h:m+n<340282366920938463463374607431768211456):
  Cl 256 #[.agg #[.int .u64 ((m/18446744073709551616:Nat):Int),.int .u64 ((m%18446744073709551616:Nat):Int)],.agg #[.int .u64 ((n/18446744073709551616:Nat):Int),.int .u64 ((n%18446744073709551616:Nat):Int)]] w
   fun e w'=>e=.returned (.tuple #[.agg #[.int .u64 (((m+n)/18446744073709551616:Nat):Int),.int .u64 (((m+n)%18446744073709551616:Nat):Int)],.int .i64 0])∧Qc Qb w w':=
 Ql0 _ _ _ _ _ ((((m%18446744073709551616)+(n%18446744073709551616))/18446744073709551616:Nat):Int) _ w (by omega) (by omega) (by omega) (by omega) (by omega) (by omega) (by omega) (by omega) (by omega) (by omega)
section
theorem Qkd:prog.eqGuardType prog.depth 291=false:=by kernel_rfl
theorem Qo9:prog.stoodInHeld 291=false:=by kernel_rfl
theorem wrap64(n:Int)(h0:0≤n)(h1:n<18446744073709551616):IntKind.u64.wrap n=n:=by
 have:IntKind.u64.wrap n=n%18446744073709551616:=by simp[IntKind.wrap,IntKind.bits,IntKind.signed]
 rw[this];omega
attribute [local go_sem] Qkd Qo9
end
structure Z6 where
 f:Nat
 l:Nat
 r:Nat
def Z6.cells(c:Z6):List Value:=[.int .u64 (c.f:Int),.int .u64 (c.l:Int),.int .u64 (c.r:Int)]
theorem Z6.cells_length(c:Z6):c.cells.length=3:=rfl
def Z6.zero:Z6:=⟨0,0,0⟩
structure Xm where
 id:Int
 par:Int
 leaf:Bool
 real:Z6
 share:Z6
 upper:Z6
 pk:Int
 bt:Int
section
structure Z6.May(c:Z6):Prop where
 hf:c.f≤1048576
 hr:c.r≤1048576
 hl:c.l≤1099511627776
 h0:c.l=0→c.f=0
 h1:c.l≠0→c.f≠c.r
instance(c:Z6):Decidable c.May:=
 if h:c.f≤1048576∧c.r≤1048576∧c.l≤1099511627776∧(c.l=0→c.f=0)∧(c.l≠0→c.f≠c.r)then .isTrue ⟨h.1,h.2.1,h.2.2.1,h.2.2.2.1,h.2.2.2.2⟩else .isFalse fun⟨a,b,c,d,e⟩=>h ⟨a,b,c,d,e⟩
theorem Qh8:prog.eqGuardType prog.depth 38=false:=by kernel_rfl
theorem Ql1:prog.stoodInHeld 38=false:=by kernel_rfl
attribute [local go_sem] Qh8 Ql1
theorem Dt{c:Z6}(h:¬c.May):decide c.May=false:=by simpa using h
theorem Lp{c:Z6}(h:c.May):decide c.May=true:=by simpa using h
theorem Y0(c:Z6)(w:World):
  Cl 187 #[.agg #[.int .u64 (c.f:Int),.int .u64 (c.l:Int),.int .u64 (c.r:Int)]] w fun e w'=>e=.returned (.bool (decide c.May))∧Qc Qb w w':=by
 obtain⟨f,l,r⟩:=c;dsimp only;by_cases h1:f≤1048576
 ·have B:decide ((1048576:Int)<(f:Int))=false:=by simp;omega
  by_cases k:r≤1048576
  ·have I:decide ((1048576:Int)<(r:Int))=false:=by simp;omega
   by_cases q:l≤1099511627776
   ·have E:decide ((1099511627776:Int)<(l:Int))=false:=by simp;omega
    by_cases u:l=0
    ·subst u;by_cases d:f=0;·subst d;rw[Lp (c:=⟨0,0,r⟩) ⟨h1,k,q,fun _=>rfl,fun h=>(h rfl).elim⟩];go_enter func187,ntmps187;go_wp2;go_ret;refine⟨rfl,?_⟩;(repeat' (first|(with_reducible first|exact Zg _ _|assumption|refine Zh ?_ _|refine Zi ?_ _|refine Zj ?_ |refine Zk ?_ _ ?_ |(apply Or.inl;rfl))|(apply Or.inl;simp;done)|(apply Or.inr;simp;first|done|omega)))
     ·have z:((f:Int)==0)=false:=by simp;omega
      rw[Dt (c:=⟨f,0,r⟩) (fun h=>d (h.h0 rfl))];go_enter func187,ntmps187;go_wp2;go_ret;refine⟨rfl,?_⟩;(repeat' (first|(with_reducible first|exact Zg _ _|assumption|refine Zh ?_ _|refine Zi ?_ _|refine Zj ?_ |refine Zk ?_ _ ?_ |(apply Or.inl;rfl))|(apply Or.inl;simp;done)|(apply Or.inr;simp;first|done|omega)))
    ·have J:((l:Int)==0)=false:=by simp;omega
     by_cases d:f=r
     ·subst d;have z:((f:Int) !=(f:Int))=false:=by simp
      rw[Dt (c:=⟨f,l,f⟩) (fun h=>h.h1 u rfl)];go_enter func187,ntmps187;go_wp2;go_ret;refine⟨rfl,?_⟩;(repeat' (first|(with_reducible first|exact Zg _ _|assumption|refine Zh ?_ _|refine Zi ?_ _|refine Zj ?_ |refine Zk ?_ _ ?_ |(apply Or.inl;rfl))|(apply Or.inl;simp;done)|(apply Or.inr;simp;first|done|omega)))
     ·have z:((f:Int) !=(r:Int))=true:=by simp;omega
      rw[Lp (c:=⟨f,l,r⟩) ⟨h1,k,q,fun h=>(u h).elim,fun _=>d⟩];go_enter func187,ntmps187;go_wp2;go_ret;refine⟨rfl,?_⟩;(repeat' (first|(with_reducible first|exact Zg _ _|assumption|refine Zh ?_ _|refine Zi ?_ _|refine Zj ?_ |refine Zk ?_ _ ?_ |(apply Or.inl;rfl))|(apply Or.inl;simp;done)|(apply Or.inr;simp;first|done|omega)))
   ·have E:decide ((1099511627776:Int)<(l:Int))=true:=by simp;omega
    rw[Dt (c:=⟨f,l,r⟩) (fun h=>q h.hl)];go_enter func187,ntmps187;go_wp2;go_ret;refine⟨rfl,?_⟩;(repeat' (first|(with_reducible first|exact Zg _ _|assumption|refine Zh ?_ _|refine Zi ?_ _|refine Zj ?_ |refine Zk ?_ _ ?_ |(apply Or.inl;rfl))|(apply Or.inl;simp;done)|(apply Or.inr;simp;first|done|omega)))
  ·have I:decide ((1048576:Int)<(r:Int))=true:=by simp;omega
   rw[Dt (c:=⟨f,l,r⟩) (fun h=>k h.hr)];go_enter func187,ntmps187;go_wp2;go_ret;refine⟨rfl,?_⟩;(repeat' (first|(with_reducible first|exact Zg _ _|assumption|refine Zh ?_ _|refine Zi ?_ _|refine Zj ?_ |refine Zk ?_ _ ?_ |(apply Or.inl;rfl))|(apply Or.inl;simp;done)|(apply Or.inr;simp;first|done|omega)))
 ·have B:decide ((1048576:Int)<(f:Int))=true:=by simp;omega
  rw[Dt (c:=⟨f,l,r⟩) (fun h=>h1 h.hf)];go_enter func187,ntmps187;go_wp2;go_ret;refine⟨rfl,?_⟩;(repeat' (first|(with_reducible first|exact Zg _ _|assumption|refine Zh ?_ _|refine Zi ?_ _|refine Zj ?_ |refine Zk ?_ _ ?_ |(apply Or.inl;rfl))|(apply Or.inl;simp;done)|(apply Or.inr;simp;first|done|omega)))
def Z6.none(c:Z6):Bool:=c.f==0&&(c.l==0&&c.r==0)
theorem Yz(c:Z6)(w:World):
  Cl 128 #[.agg #[.int .u64 (c.f:Int),.int .u64 (c.l:Int),.int .u64 (c.r:Int)]] w fun e w'=>e=.returned (.bool c.none)∧Qc Qb w w':=by
 obtain⟨f,l,r⟩:=c;have e1:Z6.none ⟨f,l,r⟩=((f:Int)==0&&((l:Int)==0&&(r:Int)==0)):=by
  unfold Z6.none;have g:∀n:Nat,((n:Int)==0)=(n==0):=fun n=>by
   cases n with
   |zero=>rfl
   |succ n=>simp;omega
  rw[g,g,g]
 rw[e1];dsimp only;by_cases h1:f=0
 ·subst h1;by_cases q:l=0
  ·subst q;by_cases u:r=0;·subst u;go_enter func128,ntmps128;go_wp2;go_ret;refine⟨rfl,?_⟩;(repeat' (first|(with_reducible first|exact Zg _ _|assumption|refine Zh ?_ _|refine Zi ?_ _|refine Zj ?_ |refine Zk ?_ _ ?_ |(apply Or.inl;rfl))|(apply Or.inl;simp;done)|(apply Or.inr;simp;first|done|omega)))
   ·have k:((r:Int)==0)=false:=by simp;omega
    rw[k];go_enter func128,ntmps128;go_wp2;go_ret;refine⟨rfl,?_⟩;(repeat' (first|(with_reducible first|exact Zg _ _|assumption|refine Zh ?_ _|refine Zi ?_ _|refine Zj ?_ |refine Zk ?_ _ ?_ |(apply Or.inl;rfl))|(apply Or.inl;simp;done)|(apply Or.inr;simp;first|done|omega)))
  ·have z:((l:Int)==0)=false:=by simp;omega
   rw[z];go_enter func128,ntmps128;go_wp2;go_ret;refine⟨rfl,?_⟩;(repeat' (first|(with_reducible first|exact Zg _ _|assumption|refine Zh ?_ _|refine Zi ?_ _|refine Zj ?_ |refine Zk ?_ _ ?_ |(apply Or.inl;rfl))|(apply Or.inl;simp;done)|(apply Or.inr;simp;first|done|omega)))
 ·have d:((f:Int)==0)=false:=by simp;omega
  rw[d];go_enter func128,ntmps128;go_wp2;go_ret;refine⟨rfl,?_⟩;(repeat' (first|(with_reducible first|exact Zg _ _|assumption|refine Zh ?_ _|refine Zi ?_ _|refine Zj ?_ |refine Zk ?_ _ ?_ |(apply Or.inl;rfl))|(apply Or.inl;simp;done)|(apply Or.inr;simp;first|done|omega)))
end
def Z6.at(c:Z6)(t:Nat):Nat:=c.f*min t c.l+c.r*(t-min t c.l)
theorem Z6.at_le(c:Z6)(h:c.May)(t:Nat)(ht:t<18446744073709551616):c.f*min t c.l≤1152921504606846976∧c.r*(t-min t c.l)<19342813113834066795298816:=by have h1:=h.hf;have k:=h.hr;have d:=h.hl;refine⟨Nat.le_trans (Nat.mul_le_mul h1 (Nat.le_trans (Nat.min_le_right _ _) d)) (by decide),?_⟩;exact Nat.lt_of_le_of_lt (Nat.mul_le_mul k (show t-min t c.l≤18446744073709551615 by omega)) (by decide)
theorem Qc.same{w w':World}(hc:Qc Qb w w'){ad:Addr}{u:Value}(h:w.cell? ad=some u):w'.cell? ad=some u:=(hc.cell (Qkb h) (fun h=>h)).trans h
def Z6.leAt(a b:Z6)(t:Nat):Bool:=decide (a.at t≤b.at t)
theorem Qy4(m n:Nat):decide ((0:Int)<Qep m n)=!decide (m≤n):=by
 unfold Qep;split;·simp;omega
 ·split;·simp;omega
  ·simp;omega
abbrev Jz:Nat:=4611686018427387904
abbrev Qx:Nat:=9223372036854775808
def Qay(a b:Nat):Nat:=(a+(b-1))/b
theorem Oc{a b n:Nat}(c:0<b):Qay a b≤n↔a≤b*n:=by unfold Qay;rw[Nat.div_le_iff_le_mul_add_pred c];omega
def Z6.reach(c:Z6)(y:Nat):Option Nat:=
 if y=0 then some 0 else if y≤c.f*c.l then some (Qay y c.f)else if c.r=0 then Option.none else some (c.l+Qay (y-c.f*c.l) c.r)
theorem Z6.reach_le(c:Z6)(y t:Nat):(∃n,c.reach y=some n∧n≤t)↔y≤c.at t:=by
 have k:c.at t=c.f*min t c.l+c.r*(t-min t c.l):=rfl;unfold Z6.reach;by_cases h0:y=0;·simp[h0]
 ·rw[if_neg h0];by_cases h1:y≤c.f*c.l
  ·rw[if_pos h1];have hf:0<c.f:=Nat.pos_of_ne_zero fun h=>by rw[h]at h1;simp at h1;exact h0 h1
   simp only[Option.some.injEq,exists_eq_left'];rw[Oc hf];rw[k];by_cases ht:t≤c.l;·rw[Nat.min_eq_left ht,Nat.sub_self,Nat.mul_zero,Nat.add_zero]
   ·have d:c.l≤t:=by omega
    rw[Nat.min_eq_right d];have:=Nat.mul_le_mul_left c.f d;constructor;·intro _;omega
    ·intro _;omega
  ·rw[if_neg h1];by_cases hr:c.r=0;·rw[if_pos hr];simp only[reduceCtorEq,false_and,exists_false,false_iff];rw[k,hr,Nat.zero_mul,Nat.add_zero];have:=Nat.mul_le_mul_left c.f (Nat.min_le_right t c.l);omega
   ·rw[if_neg hr];have q:0<c.r:=Nat.pos_of_ne_zero hr;simp only[Option.some.injEq,exists_eq_left'];rw[k];by_cases ht:t≤c.l
    ·rw[Nat.min_eq_left ht,Nat.sub_self,Nat.mul_zero,Nat.add_zero];have u:=Nat.mul_le_mul_left c.f ht;have z:0<Qay (y-c.f*c.l) c.r:=by
      rcases Nat.eq_zero_or_pos (Qay (y-c.f*c.l) c.r)with h|h;·have:=(Oc q (a:=y-c.f*c.l) (n:=0)).1 (by omega);omega
      ·exact h
     omega
    ·have d:c.l≤t:=by omega
     rw[Nat.min_eq_right d];have:=Oc q (a:=y-c.f*c.l) (n:=t-c.l);omega
abbrev V9:=List (Nat×Nat)
def Zp(l:V9):Nat:=match l.getLast? with
 |none=>0
 |some k=>k.1
def Un(l:V9)(x y:Nat):V9:=l++[(max (min x Qx) (Zp l),min y Jz)]
theorem Hn(l:V9)(x y:Nat):Zp (Un l x y)=max (min x Qx) (Zp l):=by simp[Zp,Un]
structure Vv(l:V9):Prop where
 rise:∀k∈l,k.1≤Zp l
 last:Zp l≤Qx
 cap:∀k∈l,k.2≤Jz
theorem Vv.nil:Vv []:=⟨nofun,Nat.zero_le _,nofun⟩
theorem Vv.start{l:V9}(h:Vv l)(x y:Nat):Vv (Un l x y):=by
 refine⟨fun k c=>?_,?_,fun k c=>?_⟩
 ·rw[Hn];rcases List.mem_append.1 c with c|c;·exact Nat.le_trans (h.rise k c) (Nat.le_max_right _ _)
  ·obtain rfl:k=_:=by simpa using c
   exact Nat.le_refl _
 ·rw[Hn];have:=h.last;omega
 ·rcases List.mem_append.1 c with c|c;·exact h.cap k c
  ·obtain rfl:k=_:=by simpa using c
   exact Nat.min_le_right _ _
def Z8(f:Nat×Nat→Nat):V9→Nat
 |[]=>0
 |[k]=>f k
 |k::l=>min (f k) (Z8 f l)
theorem Hc{f:Nat×Nat→Nat}{y:Nat}:∀{l:V9},l≠[]→(y≤Z8 f l↔∀k∈l,y≤f k)
 |[k],_=>by simp[Z8]
 |k::j::l,_=>by
  have c:=Hc (f:=f) (y:=y) (l:=j::l) nofun;rw[Z8,Nat.le_min,c];·simp
  ·exact nofun
def Kw(c:Z6)(t:Nat)(k:Nat×Nat):Nat:=k.2+c.at (t-k.1)
def rAt(c:Z6)(l:V9)(t:Nat):Nat:=if l=[]then 0 else min Jz (Z8 (Kw c (max t (Zp l))) l)
def Lr(c:Z6)(y:Nat)(k:Nat×Nat):Nat:=match c.reach (y-k.2)with
 |none=>Qx
 |some n=>k.1+n
def Yo(c:Z6)(l:V9)(y:Nat):Nat:=
 if l=[]then(if y=0 then 0 else Qx)else if Jz<y then Qx else min Qx (l.foldl (fun n k=>max n (Lr c y k)) (Zp l))
theorem Vn{f:Nat×Nat→Nat}{t:Nat}:∀(l:V9)(n:Nat),l.foldl (fun n k=>max n (f k)) n≤t↔n≤t∧∀k∈l,f k≤t
 |[],n=>by simp
 |k::l,n=>by rw[List.foldl_cons,Vn l];simp only[List.mem_cons,forall_eq_or_imp,Nat.max_le,and_assoc]
theorem Qbs{c:Z6}{y t:Nat}{k:Nat×Nat}(ht:t<Qx)(d:k.1≤t):Lr c y k≤t↔y≤Kw c t k:=by
 unfold Lr Kw;have:=c.reach_le (y-k.2) (t-k.1);cases h:c.reach (y-k.2)with
 |none=>
  rw[h]at this;simp only[reduceCtorEq,false_and,exists_false,false_iff]at this;constructor;·intro h';dsimp only at h';omega
  ·intro h';omega
 |some n=> rw[h]at this;simp only[Option.some.injEq,exists_eq_left']at this;dsimp only;omega
theorem Qis{c:Z6}{l:V9}{y t:Nat}(h:Vv l)(hl:l≠[])(ht:t<Qx)(h1:Zp l≤t):Yo c l y≤t↔y≤rAt c l t:=by
 unfold Yo rAt;rw[if_neg hl,if_neg hl,Nat.max_eq_left h1,Nat.le_min,Hc hl];by_cases q:Jz<y
 ·rw[if_pos q];constructor;·intro h';omega
  ·intro h';omega
 ·rw[if_neg q];have:min Qx (l.foldl (fun n k=>max n (Lr c y k)) (Zp l))≤t↔l.foldl (fun n k=>max n (Lr c y k)) (Zp l)≤t:=by omega
  rw[this,Vn];constructor;·intro⟨_,h'⟩;exact⟨by omega,fun k d=>(Qbs ht (Nat.le_trans (h.rise k d) h1)).1 (h' k d)⟩
  ·intro⟨_,h'⟩;exact⟨h1,fun k d=>(Qbs ht (Nat.le_trans (h.rise k d) h1)).2 (h' k d)⟩
theorem Qke(c:Z6)(l:V9)(y:Nat):Yo c l y≤Qx:=by
 unfold Yo;split;·split<;>simp[Qx]
 ·split;·exact Nat.le_refl _
  ·exact Nat.min_le_left _ _
theorem Ql2{c:Z6}{l:V9}{y:Nat}(h:Vv l):Zp l≤Yo c l y:=by
 unfold Yo;have d:=h.last;split;·rename_i hl;subst hl;exact Nat.zero_le _
 ·split;·exact d
  ·rw[Nat.le_min];exact⟨d,((Vn l (Zp l)).1 (Nat.le_refl _)).1⟩
theorem Y3(f:Nat×Nat→Nat)(k j:Nat×Nat)(l:V9):Z8 f (k::j::l)=min (f k) (Z8 f (j::l)):=rfl
theorem Qd1{f:Nat×Nat→Nat}(d:Nat):∀{l:V9},l≠[]→Z8 (fun k=>f k+d) l=Z8 f l+d
 |[k],_=>rfl
 |k::j::l,_=>by have c:=Qd1 (f:=f) d (l:=j::l) nofun;rw[Y3,c,Y3];omega
theorem Qbt{f:Nat×Nat→Nat}(k:Nat×Nat):∀{l:V9},l≠[]→Z8 f (l++[k])=min (Z8 f l) (f k)
 |[j],_=>rfl
 |j::i::l,_=>by have c:=Qbt (f:=f) k (l:=i::l) nofun;rw[List.cons_append]at c;rw[List.cons_append,List.cons_append,Y3,c,Y3];omega
theorem Dl{f g:Nat×Nat→Nat}:∀{l:V9},(∀k∈l,f k=g k)→Z8 f l=Z8 g l
 |[],_=>rfl
 |[k],h=>h k (by simp)
 |k::j::l,h=>by rw[Y3,Y3,h k (by simp),Dl (l:=j::l) (fun i hi=>h i (by simp[hi]))]
theorem Qd2{f g:Nat×Nat→Nat}:∀{l:V9},l≠[]→Z8 (fun k=>min (f k) (g k)) l=min (Z8 f l) (Z8 g l)
 |[k],_=>rfl
 |k::j::l,_=>by have c:=Qd2 (f:=f) (g:=g) (l:=j::l) nofun;rw[Y3,c,Y3,Y3];omega
def Y9(s o:Nat)(l:V9):Nat:=min Jz (Z8 (fun k=>k.2+o+s*(Zp l-k.1)) l)
def Kp(h s n:Nat):Nat:=min Jz (h+min Jz (s*n))
theorem Qpa(l:V9)(k:Nat×Nat):Zp (l++[k])=k.1:=by simp[Zp]
theorem Qff{s o t:Nat}{l:V9}(h:Vv l)(hl:l≠[])(ht:Zp l≤t):Z8 (fun k=>k.2+o+s*(t-k.1)) l=Z8 (fun k=>k.2+o+s*(Zp l-k.1)) l+s*(t-Zp l):=by
 rw[←Qd1 _ hl];refine Dl fun k c=>?_;have:=h.rise k c;have e:t-k.1=(Zp l-k.1)+(t-Zp l):=by omega
 rw[e,Nat.mul_add];omega
theorem Qd3{s o x y:Nat}{l:V9}(h:Vv l)(hl:l≠[])(c:Zp l≤x):
  Y9 s o (l++[(x,y)])=min (Kp (Y9 s o l) s (x-Zp l)) (min Jz (y+o)):=by
 unfold Y9 Kp;rw[Qpa,Qbt _ hl,Qff h hl c];simp only[Nat.sub_self,Nat.mul_zero,Nat.add_zero];omega
theorem Qit(s o x y:Nat):Y9 s o [(x,y)]=min Jz (y+o):=by simp[Y9,Z8,Zp]
theorem Qiu{s o t:Nat}{l:V9}(h:Vv l)(hl:l≠[])(ht:Zp l≤t):Kp (Y9 s o l) s (t-Zp l)=min Jz (Z8 (fun k=>k.2+o+s*(t-k.1)) l):=by unfold Y9 Kp;rw[Qff h hl ht];omega
theorem Z6.at_bent{c:Z6}(h:c.r<c.f)(t:Nat):c.at t=min (c.f*t) ((c.f-c.r)*c.l+c.r*t):=by
 have q:c.at t=c.f*min t c.l+c.r*(t-min t c.l):=rfl;obtain⟨d,u⟩:∃d,c.f=c.r+d:=⟨c.f-c.r,by omega⟩;rw[q,u,Nat.add_sub_cancel_left];by_cases ht:t≤c.l;·rw[Nat.min_eq_left ht,Nat.sub_self,Nat.mul_zero,Nat.add_zero];have:=Nat.mul_le_mul_left d ht;rw[Nat.add_mul];omega
 ·have k:c.l≤t:=by omega
  rw[Nat.min_eq_right k];have:=Nat.mul_le_mul_left d k;have e:c.r*t=c.r*c.l+c.r*(t-c.l):=by rw[←Nat.mul_add];congr 1;omega
  rw[Nat.add_mul,Nat.add_mul];omega
theorem Qxq{c:Z6}{l:V9}{t:Nat}(hc:c.r<c.f)(h:Vv l)(hl:l≠[])(ht:Zp l≤t):
  rAt c l t=min (Kp (Y9 c.f 0 l) c.f (t-Zp l)) (Kp (Y9 c.r ((c.f-c.r)*c.l) l) c.r (t-Zp l)):=by
 rw[Qiu h hl ht,Qiu h hl ht];unfold rAt;rw[if_neg hl,Nat.max_eq_left ht];have e:Z8 (Kw c t) l=min (Z8 (fun k=>k.2+0+c.f*(t-k.1)) l) (Z8 (fun k=>k.2+(c.f-c.r)*c.l+c.r*(t-k.1)) l):=by rw[←Qd2 hl];refine Dl fun k d=>?_;unfold Kw;rw[Z6.at_bent hc];omega
 rw[e];omega
def Xx(h s y:Nat):Nat:=if y≤h then 0 else if s=0∨Jz<y then Qx else Qay (y-h) s
theorem Qd4{h s y n:Nat}(hn:n<Qx):Xx h s y≤n↔y≤h∨y≤Kp h s n:=by
 unfold Xx Kp;by_cases h0:y≤h;·simp[h0]
 ·rw[if_neg h0];by_cases h1:s=0∨Jz<y
  ·rw[if_pos h1];constructor;·intro h';omega
   ·intro h';rcases h1 with rfl|h1;·simp at h';omega
    ·omega
  ·rw[if_neg h1,Oc (by omega)];omega
theorem Qiv{c:Z6}{l:V9}{y R:Nat}(h:Vv l)(hl:l≠[])(h1:Zp l≤R)(u:R≤Qx)(d:∀t,Zp l≤t→t<Qx→(R≤t↔y≤rAt c l t)):R=Yo c l y:=by
 have q:=Qke c l y;have k:=Ql2 (c:=c) (y:=y) h;refine Nat.le_antisymm ?_ ?_
 ·by_cases hn:Yo c l y=Qx;·omega
  ·exact(d _ k (by omega)).2 ((Qis h hl (by omega) k).1 (Nat.le_refl _))
 ·by_cases hn:R=Qx;·omega
  ·exact(Qis h hl (by omega) h1).2 ((d R h1 (by omega)).1 (Nat.le_refl _))
def Uo(x n:Nat):Nat:=if Qx-x≤n then Qx else x+n
theorem Qpb{c:Z6}{l:V9}{y:Nat}(hc:c.r<c.f)(h:Vv l)(hl:l≠[]):
  Uo (Zp l) (max (Xx (Y9 c.f 0 l) c.f y) (Xx (Y9 c.r ((c.f-c.r)*c.l) l) c.r y))=Yo c l y:=by
 have d:=h.last;refine Qiv h hl ?_ ?_ fun t h1 B=>?_;·unfold Uo;split<;>omega
 ·unfold Uo;split<;>omega
 ·rw[Qxq hc h hl h1,Nat.le_min];have q:Y9 c.f 0 l≤Kp (Y9 c.f 0 l) c.f (t-Zp l):=by unfold Kp Y9;omega
  have z:Y9 c.r ((c.f-c.r)*c.l) l≤Kp (Y9 c.r ((c.f-c.r)*c.l) l) c.r (t-Zp l):=by unfold Kp Y9;omega
  have e1:=Qd4 (h:=Y9 c.f 0 l) (s:=c.f) (y:=y) (n:=t-Zp l) (by omega);have u:=Qd4 (h:=Y9 c.r ((c.f-c.r)*c.l) l) (s:=c.r) (y:=y) (n:=t-Zp l) (by omega);have k:Uo (Zp l) (max (Xx (Y9 c.f 0 l) c.f y) (Xx (Y9 c.r ((c.f-c.r)*c.l) l) c.r y))≤t↔Xx (Y9 c.f 0 l) c.f y≤t-Zp l∧Xx (Y9 c.r ((c.f-c.r)*c.l) l) c.r y≤t-Zp l:=by generalize Xx (Y9 c.f 0 l) c.f y=a;generalize Xx (Y9 c.r ((c.f-c.r)*c.l) l) c.r y=b;unfold Uo;split<;>omega
  rw[k,e1,u];omega
def Vo(c:Z6)(t:Nat)(k:Nat×Nat):Nat:=k.2+c.r*(t-k.1)
theorem Z6.at_sag{c:Z6}(h:c.f≤c.r)(t:Nat):c.at t+(c.r-c.f)*min t c.l=c.r*t:=by have k:c.at t=c.f*min t c.l+c.r*(t-min t c.l):=rfl;obtain⟨d,z⟩:∃d,c.r=c.f+d:=⟨c.r-c.f,by omega⟩;rw[k,z,Nat.add_sub_cancel_left];have u:=Nat.min_le_left t c.l;generalize min t c.l=m at u;obtain⟨q,rfl⟩:∃q,t=m+q:=⟨t-m,by omega⟩;rw[Nat.add_sub_cancel_left,Nat.mul_add,Nat.add_mul,Nat.add_mul];omega
def Dom(c:Z6)(x:Nat)(j k:Nat×Nat):Prop:=∀t,x≤t→Kw c t j≤Kw c t k∧Vo c t j≤Vo c t k
theorem Dom.refl(c:Z6)(x:Nat)(k:Nat×Nat):Dom c x k k:=fun t _=>⟨Nat.le_refl _,Nat.le_refl _⟩
theorem Dom.trans{c:Z6}{x:Nat}{i j k:Nat×Nat}(h:Dom c x i j)(h':Dom c x j k):Dom c x i k:=fun t ht=>⟨Nat.le_trans (h t ht).1 (h' t ht).1,Nat.le_trans (h t ht).2 (h' t ht).2⟩
theorem Dom.later{c:Z6}{x x':Nat}{j k:Nat×Nat}(h:Dom c x j k)(d:x≤x'):Dom c x' j k:=fun t ht=>h t (Nat.le_trans d ht)
theorem Du{c:Z6}(h:c.f≤c.r)(t:Nat)(k:Nat×Nat):Kw c t k+(c.r-c.f)*min (t-k.1) c.l=Vo c t k:=by have:=Z6.at_sag h (t-k.1);unfold Kw Vo;omega
theorem Qxr{c:Z6}(h:c.f≤c.r){x:Nat}{j k:Nat×Nat}(d:j.1≤k.1)(U:k.1≤x)(I:Kw c x k≤Kw c x j):Dom c x k j:=by
 intro t ht;have e1:=Du h x j;have z:=Du h x k;have u:=Du h t j;have R:=Du h t k;have l1:Vo c t j=Vo c x j+c.r*(t-x):=by
  unfold Vo;have:t-j.1=(x-j.1)+(t-x):=by omega
  rw[this,Nat.mul_add];omega
 have l2:Vo c t k=Vo c x k+c.r*(t-x):=by
  unfold Vo;have:t-k.1=(x-k.1)+(t-x):=by omega
  rw[this,Nat.mul_add];omega
 have K:(c.r-c.f)*min (t-j.1) c.l+(c.r-c.f)*min (x-k.1) c.l≤(c.r-c.f)*min (x-j.1) c.l+(c.r-c.f)*min (t-k.1) c.l:=by rw[←Nat.mul_add,←Nat.mul_add];refine Nat.mul_le_mul_left _ ?_;omega
 have q:(c.r-c.f)*min (x-k.1) c.l≤(c.r-c.f)*min (x-j.1) c.l:=Nat.mul_le_mul_left _ (by omega);generalize(c.r-c.f)*min (t-j.1) c.l=a1 at*;generalize(c.r-c.f)*min (x-k.1) c.l=E at*;generalize(c.r-c.f)*min (x-j.1) c.l=B at*;generalize(c.r-c.f)*min (t-k.1) c.l=J at*;omega
theorem Qvh{c:Z6}(h:c.f≤c.r){x:Nat}{j k:Nat×Nat}(d:j.1≤k.1)(E:k.1≤x)(u:Vo c x j≤Vo c x k):Dom c x j k:=by
 intro t ht;have q:=Du h t j;have B:=Du h t k;have l1:Vo c t j=Vo c x j+c.r*(t-x):=by
  unfold Vo;have:t-j.1=(x-j.1)+(t-x):=by omega
  rw[this,Nat.mul_add];omega
 have l2:Vo c t k=Vo c x k+c.r*(t-x):=by
  unfold Vo;have:t-k.1=(x-k.1)+(t-x):=by omega
  rw[this,Nat.mul_add];omega
 have z:(c.r-c.f)*min (t-k.1) c.l≤(c.r-c.f)*min (t-j.1) c.l:=Nat.mul_le_mul_left _ (by omega);omega
def Hd(c:Z6)(x:Nat)(k:Nat×Nat):Nat→V9→V9
 |0,out=>out
 |n+1,out=>match out.getLast? with
  |none=>out
  |some j=>if Kw c x k≤Kw c x j then Hd c x k n out.dropLast else out
def Ha(c:Z6)(x:Nat)(out:V9)(k:Nat×Nat):V9:=
 let o:=Hd c x k out.length out
 match o.getLast? with
 |none=>o++[k]
 |some j=>if Vo c x j≤Vo c x k then o else o++[k]
def Qfg(c:Z6)(x:Nat)(l:V9):V9:=l.foldl (Ha c x) []
def Xj(c:Z6)(x:Nat)(out l:V9):Prop:=out.Sublist l∧∀k∈l,∃j∈out,Dom c x j k
theorem getLast?_mem{l:V9}{k:Nat×Nat}(h:l.getLast? =some k):l=l.dropLast++[k]:=by obtain⟨c,rfl⟩:=List.getLast?_eq_some_iff.1 h;simp
theorem Qan{c:Z6}(hc:c.f≤c.r){x:Nat}{k:Nat×Nat}(q:k.1≤x):∀(n:Nat)(out:V9),(∀j∈out,j.1≤k.1)→
  (Hd c x k n out).Sublist out∧∀j∈out,(∃i∈Hd c x k n out,Dom c x i j)∨Dom c x k j
 |0,out,_=>⟨List.Sublist.refl _,fun j d=>.inl ⟨j,d,Dom.refl c x j⟩⟩
 |n+1,out,h=>by
  rw[Hd];cases hl:out.getLast? with
  |none=>exact⟨List.Sublist.refl _,fun j d=>.inl ⟨j,d,Dom.refl c x j⟩⟩
  |some j=>
   dsimp only;have e:=getLast?_mem hl;split
   ·rename_i u;have hs:out.dropLast.Sublist out:=List.dropLast_sublist out;obtain⟨h1,z⟩:=Qan hc q n out.dropLast (fun i hi=>h i (hs.subset hi));refine⟨h1.trans hs,fun i hi=>?_⟩;rw[e]at hi;rcases List.mem_append.1 hi with hi|hi;·exact z i hi
    ·obtain rfl:i=j:=by simpa using hi
     exact .inr (Qxr hc (h i (by rw[e];simp)) q u)
   ·exact⟨List.Sublist.refl _,fun j d=>.inl ⟨j,d,Dom.refl c x j⟩⟩
theorem Qfh{c:Z6}(hc:c.f≤c.r){x:Nat}{k:Nat×Nat}(K:k.1≤x){out l:V9}(hs:Xj c x out l)(hl:∀j∈l,j.1≤k.1):Xj c x (Ha c x out k) (l++[k]):=by
 obtain⟨h1,J⟩:=Qan hc K out.length out (fun j z=>hl j (hs.1.subset z));unfold Ha;dsimp only;have E:Xj c x (Hd c x k out.length out++[k]) (l++[k]):=by
  refine⟨(h1.trans hs.1).append (List.Sublist.refl _),fun i hi=>?_⟩;rcases List.mem_append.1 hi with hi|hi
  ·obtain⟨j,z,d⟩:=hs.2 i hi;rcases J j z with⟨q,I,u⟩|u;·exact⟨q,by simp[I],u.trans d⟩
   ·exact⟨k,by simp,u.trans d⟩
  ·obtain rfl:i=k:=by simpa using hi
   exact⟨i,by simp,Dom.refl c x i⟩
 cases R:(Hd c x k out.length out).getLast? with
 |none=>exact E
 |some j=>
  dsimp only;split
  ·rename_i U;have z:j∈Hd c x k out.length out:=List.mem_of_getLast? R;have B:Dom c x j k:=Qvh hc (hl j (hs.1.subset (h1.subset z))) K U;refine⟨(h1.trans hs.1).trans (List.sublist_append_left _ _),fun i hi=>?_⟩;rcases List.mem_append.1 hi with hi|hi
   ·obtain⟨q,I,d⟩:=hs.2 i hi;rcases J q I with⟨p,V,u⟩|u;·exact⟨p,V,u.trans d⟩
    ·exact⟨j,z,B.trans (u.trans d)⟩
   ·obtain rfl:i=k:=by simpa using hi
    exact⟨j,z,B⟩
  ·exact E
abbrev Gm(l:V9):Prop:=l.Pairwise fun j k=>j.1≤k.1
theorem Qao{c:Z6}(hc:c.f≤c.r){x:Nat}:∀(b a out:V9),Gm (a++b)→(∀k∈b,k.1≤x)→Xj c x out a→Xj c x (b.foldl (Ha c x) out) (a++b)
 |[],a,out,_,_,h=>by simpa using h
 |k::b,a,out,hr,hx,h=>by rw[List.foldl_cons];have q:Xj c x (Ha c x out k) (a++[k]):=Qfh hc (hx k (by simp)) h fun j d=>(List.pairwise_append.1 hr).2.2 j d k (by simp);have:=Qao hc b (a++[k]) (Ha c x out k) (by simpa using hr) (fun i hi=>hx i (by simp[hi])) q;simpa using this
theorem Xj.trans{c:Z6}{x:Nat}{a b d:V9}(h:Xj c x a b)(h':Xj c x b d):Xj c x a d:=
 ⟨h.1.trans h'.1,fun k q=>by obtain⟨j,z,u⟩:=h'.2 k q;obtain⟨i,hi,B⟩:=h.2 j z;exact⟨i,hi,B.trans u⟩⟩
theorem Xj.later{c:Z6}{x x':Nat}{a b:V9}(h:Xj c x a b)(u:x≤x'):Xj c x' a b:=⟨h.1,fun k q=>by obtain⟨j,z,d⟩:=h.2 k q;exact⟨j,z,d.later u⟩⟩
theorem Xj.snoc{c:Z6}{x:Nat}{a b:V9}(h:Xj c x a b)(k:Nat×Nat):Xj c x (a++[k]) (b++[k]):=by
 refine⟨h.1.append (List.Sublist.refl _),fun i hi=>?_⟩;rcases List.mem_append.1 hi with hi|hi;·obtain⟨j,q,d⟩:=h.2 i hi;exact⟨j,by simp[q],d⟩
 ·obtain rfl:i=k:=by simpa using hi
  exact⟨i,by simp,Dom.refl c x i⟩
theorem Qsw{c:Z6}(hc:c.f≤c.r){K l:V9}(hs:Xj c (Zp l) K l)(hr:Gm l)(hl:∀k∈l,k.1≤Zp l)(x y:Nat):
  Xj c (Zp (Un l x y)) (Qfg c (Zp (Un l x y)) (K++[(max (min x Qx) (Zp l),min y Jz)])) (Un l x y):=by
 rw[Hn];show Xj c _ _ (l++[(max (min x Qx) (Zp l),min y Jz)]);have u:Zp l≤max (min x Qx) (Zp l):=Nat.le_max_right _ _;generalize max (min x Qx) (Zp l)=x' at u;have h1:Xj c x' (K++[(x',min y Jz)]) (l++[(x',min y Jz)]):=(hs.later u).snoc _;have q:Gm (K++[(x',min y Jz)]):=by
  refine List.pairwise_append.2 ⟨hr.sublist hs.1,by simp,fun j z k d=>?_⟩;obtain rfl:k=_:=by simpa using d
  exact Nat.le_trans (hl j (hs.1.subset z)) u
 have B:=Qao hc (x:=x') (K++[(x',min y Jz)]) [] [] (by simpa using q) (fun k d=>by
  rcases List.mem_append.1 d with d|d;·exact Nat.le_trans (hl k (hs.1.subset d)) u
  ·obtain rfl:k=_:=by simpa using d
   exact Nat.le_refl _) ⟨List.Sublist.refl _,fun k d=>by cases d⟩
 exact Xj.trans (by simpa[Qfg]using B) h1
theorem Ow{f:Nat×Nat→Nat}{a b:V9}(hs:a.Sublist b)(c:b≠[])(h:∀k∈b,∃j∈a,f j≤f k):a≠[]∧Z8 f a=Z8 f b:=by
 have ha:a≠[]:=by
  rintro rfl;cases b with
  |nil=>exact c rfl
  |cons k b=>obtain⟨j,q,_⟩:=h k (by simp);cases q
 refine⟨ha,Nat.le_antisymm ?_ ?_⟩;·refine(Hc c).2 fun k d=>?_;obtain⟨j,q,u⟩:=h k d;exact Nat.le_trans ((Hc ha).1 (Nat.le_refl _) j q) u
 ·exact(Hc ha).2 fun k d=>(Hc c).1 (Nat.le_refl _) k (hs.subset d)
theorem Qpc{c:Z6}{x t:Nat}{a b:V9}(hs:Xj c x a b)(q:b≠[])(ht:x≤t):Z8 (Kw c t) a=Z8 (Kw c t) b:=
 (Ow hs.1 q fun k u=>by obtain⟨j,z,d⟩:=hs.2 k u;exact⟨j,z,(d t ht).1⟩).2
theorem Ql3{c:Z6}{x t:Nat}{a b:V9}(hs:Xj c x a b)(q:b≠[])(ht:x≤t):Z8 (Vo c t) a=Z8 (Vo c t) b:=
 (Ow hs.1 q fun k u=>by obtain⟨j,z,d⟩:=hs.2 k u;exact⟨j,z,(d t ht).2⟩).2
def Dv(c:Z6)(x:Nat)(K:V9)(y:Nat):Nat:=if Jz<y then Qx else min Qx (K.foldl (fun n k=>max n (Lr c y k)) x)
theorem Qpd{c c':Z6}{K l:V9}{y:Nat}(h:Vv l)(hl:l≠[])(hs:K.Sublist l)(z:∀t,Zp l≤t→Z8 (Kw c' t) K=Z8 (Kw c' t) l)(B:K≠[]):Dv c' (Zp l) K y=Yo c' l y:=by
 refine Qiv h hl ?_ ?_ fun t h1 q=>?_
 ·unfold Dv;have:=h.last;split;·exact this
  ·rw[Nat.le_min];exact⟨this,((Vn K (Zp l)).1 (Nat.le_refl _)).1⟩
 ·unfold Dv;split;·exact Nat.le_refl _
  ·exact Nat.min_le_left _ _
 ·have e:rAt c' l t=min Jz (Z8 (Kw c' t) K):=by unfold rAt;rw[if_neg hl,Nat.max_eq_left h1,z t h1]
  rw[e,Nat.le_min,Hc B];unfold Dv;by_cases u:Jz<y
  ·rw[if_pos u];constructor;·intro h';omega
   ·intro h';omega
  ·rw[if_neg u];have:min Qx (K.foldl (fun n k=>max n (Lr c' y k)) (Zp l))≤t↔K.foldl (fun n k=>max n (Lr c' y k)) (Zp l)≤t:=by omega
   rw[this,Vn];constructor;·intro⟨_,h'⟩;exact⟨by omega,fun k d=>(Qbs q (Nat.le_trans (h.rise k (hs.subset d)) h1)).1 (h' k d)⟩
   ·intro⟨_,h'⟩;exact⟨h1,fun k d=>(Qbs q (Nat.le_trans (h.rise k (hs.subset d)) h1)).2 (h' k d)⟩
structure Jo where
 c:Z6
 l:V9
def Jo.new(c:Z6):Jo:=⟨c,[]⟩
def Jo.start(r:Jo)(x y:Nat):Jo:=⟨r.c,Un r.l x y⟩
def Jo.at(r:Jo)(t:Nat):Nat:=rAt r.c r.l t
def Jo.reach(r:Jo)(y:Nat):Nat:=Yo r.c r.l y
def Jo.elig(r:Jo)(y:Nat):Nat:=if r.c.r<r.c.f then Yo r.c r.l y else Yo ⟨0,0,r.c.r⟩ r.l y
def Xs(w:World)(b:Nat)(l:List (Int×Value)):Prop:=
 ∃d c,w.heap[b]? =some (.map d c)∧d.toList.map (fun e=>(e.key,e.val))=l.map (fun p=>(Value.int .i64 p.1,p.2))∧
  (l.map (·.1)).Nodup∧(d.toList.map (·.born)).Nodup∧∀e∈d.toList,e.born<c
def Ho(k:Int):List (Int×Value)→Nat→Option (Nat×Value)
 |[],_=>none
 |p::l,i=>if k=p.1 then some (i,p.2)else Ho k l (i+1)
theorem Qd5(k:Int):∀(c:List MapEntry)(l:List (Int×Value))(i:Nat),c.map (fun e=>(e.key,e.val))=l.map (fun p=>(Value.int .i64 p.1,p.2))→
  Instr.findNow (.int .i64) (.int .i64 k) c i=some (Ho k l i)
 |[],[],_,_=>rfl
 |[],_::_,_,h=>by cases h
 |_::_,[],_,h=>by cases h
 |e::c,p::l,i,h=>by
  simp only[List.map_cons,List.cons.injEq,Prod.mk.injEq]at h;obtain⟨⟨h1,q⟩,u⟩:=h;have z:=Qd5 k c l (i+1) u;simp only[Instr.findNow,h1,Instr.sameNow,if_true,Ho];by_cases d:k=p.1;·simp[d,q]
  ·have:(k==p.1)=false:=by simpa using d
   rw[this,if_neg d];exact z
def look(k:Int)(l:List (Int×Value)):Option Value:=(Ho k l 0).map (·.2)
section
variable{P:Program}{t kt e:TypeId}{w:World}{b:Nat}{l:List (Int×Value)}
theorem Qpe{d:TypeDesc}(h:P.underlying t=some d):(underlying t).run P w=.ok d w:=by simp[underlying,h]
theorem Qpf{d:Array MapEntry}{c:Nat}(h:w.heap[b]? =some (.map d c)):(getObj b).run P w=.ok (.map d c) w:=by simp[getObj,Sem.run,h]
theorem Qvi{d:Array MapEntry}{c:Nat}(o:Obj)(h:w.heap[b]? =some (.map d c)):(setObj b o).run P w=.ok () {w with heap:=w.heap.setIfInBounds b o}:=by simp[setObj,Sem.run,h]
theorem U0(d:P.underlying kt=some (.int .i64))(k:Int)(c:List MapEntry)(h:c.map (fun e=>(e.key,e.val))=l.map (fun p=>(Value.int .i64 p.1,p.2))):
  (Instr.findKey kt (.int .i64 k) c).run P w=.ok (Ho k l 0) w:=by
 unfold Instr.findKey;simp[underlying,d,Qd5 k c l 0 h]
theorem Hw(c:P.underlying kt=some (.int .i64))(b:Bool)(k:Int):(Instr.checkKey b 10000 kt (.int .i64 k)).run P w=.ok () w:=by unfold Instr.checkKey;simp[underlying,c]
theorem Up(h:Xs w b l)(ht:P.underlying t=some (.map kt e))(d:P.underlying kt=some (.int .i64)){z:Value}(E:(zeroValue e).run P w=.ok z w)(k:Int):
  (Instr.lookup t (.map (some b)) (.int .i64 k) true).run P w=.ok (.tuple #[(look k l).getD z,.bool (look k l).isSome]) w:=by
 obtain⟨u,c,h1,B,_⟩:=h;unfold Instr.lookup;simp only[Sem.run_bind,Sem.run_pure,Qpe ht,Result.andThen_ok,Qpf h1,Hw d,U0 d k u.toList B,look];cases I:Ho k l 0 with
 |none=>simp[E]
 |some q=>simp
theorem U3(h:Xs w b l)(ht:P.underlying t=some (.map kt e))(d:P.underlying kt=some (.int .i64)){z:Value}(E:(zeroValue e).run P w=.ok z w)(k:Int):
  (Instr.lookup t (.map (some b)) (.int .i64 k) false).run P w=.ok ((look k l).getD z) w:=by
 obtain⟨u,c,h1,B,_⟩:=h;unfold Instr.lookup;simp only[Sem.run_bind,Sem.run_pure,Qpe ht,Result.andThen_ok,Qpf h1,Hw d,U0 d k u.toList B,look];cases I:Ho k l 0 with
 |none=>simp[E]
 |some q=>simp
def Ht(k:Int)(v:Value):List (Int×Value)→List (Int×Value)
 |[]=>[(k,v)]
 |p::l=>if k=p.1 then(k,v)::l else p::Ht k v l
theorem Hf{k:Int}:∀{l:List (Int×Value)}{i n:Nat}{v:Value},Ho k l i=some (n,v)→∃j,n=i+j∧j<l.length∧l[j]? =some (k,v)
 |p::l,i,n,v,h=>by
  simp only[Ho]at h;split at h;·rename_i c;obtain⟨rfl,rfl⟩:=Prod.mk.injEq .. ▸Option.some.inj h;exact⟨0,rfl,by simp,by simp[c]⟩
  ·obtain⟨j,rfl,d,hl⟩:=Hf h;exact⟨j+1,by omega,by simpa using d,by simpa using hl⟩
theorem Gn{k:Int}:∀{l:List (Int×Value)}{i:Nat},Ho k l i=none→∀p∈l,p.1≠k
 |p::l,i,h,q,c=>by
  simp only[Ho]at h;split at h;·cases h
  ·rename_i d;rcases List.mem_cons.1 c with rfl|c;·exact fun e=>d e.symm
   ·exact Gn h q c
theorem Om{k:Int}{v:Value}:∀{l:List (Int×Value)},(∀p∈l,p.1≠k)→Ht k v l=l++[(k,v)]
 |[],_=>rfl
 |p::l,h=>by have c:k≠p.1:=fun e=>h p (by simp) e.symm;rw[Ht,if_neg c,Om fun q d=>h q (by simp[d])];rfl
theorem Qcx{k:Int}{v:Value}:∀{l:List (Int×Value)},(∃p∈l,p.1=k)→(Ht k v l).map (·.1)=l.map (·.1)
 |p::l,h=>by
  rw[Ht];split;·rename_i d;simp[d]
  ·rename_i d;simp only[List.map_cons,List.cons.injEq,true_and];refine Qcx ?_;obtain⟨q,u,c⟩:=h;rcases List.mem_cons.1 u with rfl|u;·exact absurd c.symm d
   ·exact⟨q,u,c⟩
theorem Ls{k:Int}{v u:Value}:∀{l:List (Int×Value)}{i j:Nat},Ho k l i=some (i+j,u)→Ht k v l=l.modify j fun p=>(p.1,v)
 |p::l,i,j,h=>by
  simp only[Ho]at h;rw[Ht];split at h
  ·rename_i c;have q:j=0:=by have:=(Prod.mk.injEq .. ▸Option.some.inj h:i=i+j∧_).1;omega
   subst q;rw[if_pos c,c];rfl
  ·rename_i c;rw[if_neg c];obtain⟨z,h1,_⟩:=Hf h;obtain⟨d,rfl⟩:∃d,j=d+1:=⟨j-1,by omega⟩;rw[Ls (i:=i+1) (j:=d) (by rw[h];congr 2;omega)];rfl
theorem J9(h:Xs w b l)(ht:P.underlying t=some (.map kt e))(hk:P.underlying kt=some (.int .i64))(k:Int)(v:Value):
  ∃w',(Instr.mapUpdate t (.map (some b)) (.int .i64 k) v).run P w=.ok () w'∧Xs w' b (Ht k v l)∧Qc (fun j=>j=b) w w':=by
 obtain⟨z,d,h1,U,h3,h4,h5⟩:=h;have hb:b<w.heap.size:=(Array.getElem?_eq_some_iff.1 h1).1;unfold Instr.mapUpdate;simp only[Sem.run_bind,Qpe ht,Result.andThen_ok,Qpf h1,Hw hk,U0 hk k z.toList U];have chg:∀o,Qc (fun j=>j=b) w {w with heap:=w.heap.setIfInBounds b o}:=by intro o;refine⟨rfl,rfl,rfl,by simp,fun j hj hS=>?_⟩;rw[Array.getElem?_setIfInBounds_ne (fun e=>hS e.symm)]
 cases K:Ho k l 0 with
 |none=>
  have hn:=Gn K;simp only[Qvi _ h1];refine⟨_,rfl,⟨z.push {key:=.int .i64 k,val:=v,born:=d},d+1,?_,?_,?_,?_,?_⟩,chg _⟩;·simp[hb]
  ·rw[Om hn];simp[U]
  ·rw[Om hn];simp only[List.map_append,List.map_cons,List.map_nil];refine List.nodup_append.2 ⟨h3,by simp,fun a ha c hc=>?_⟩;obtain rfl:c=k:=by simpa using hc
   obtain⟨p,K,rfl⟩:=List.mem_map.1 ha;exact hn p K
  ·simp only[Array.toList_push,List.map_append,List.map_cons,List.map_nil];refine List.nodup_append.2 ⟨h4,by simp,fun a ha c hc=>?_⟩;obtain rfl:c=d:=by simpa using hc
   obtain⟨x,B,rfl⟩:=List.mem_map.1 ha;have:=h5 x B;omega
  ·intro x B;simp only[Array.toList_push,List.mem_append,List.mem_singleton]at B;rcases B with B|rfl;·have:=h5 x B;omega
   ·simp
 |some q=>
  obtain⟨n,u⟩:=q;obtain⟨j,hj,Z,E⟩:=Hf K;obtain rfl:n=j:=by omega
  have V:z.toList.length=l.length:=by simpa using congrArg List.length U
  have hn:n<z.size:=by rw[←V]at Z;simpa using Z
  have R:z[n].key=.int .i64 k:=by have:=congrArg (fun x=>x[n]?) U;simp only[List.getElem?_map,E]at this;rw[Array.getElem?_toList,Array.getElem?_eq_getElem hn]at this;simpa using(congrArg Prod.fst (Option.some.inj this))
  have aa:((Instr.keyThatStays (((z[n]?).map (·.key)).getD (.int .i64 k)) (.int .i64 k)).run P w)=.ok (.int .i64 k) w:=by rw[Array.getElem?_eq_getElem hn];simp[R,Instr.keyThatStays,Instr.sameBits]
  simp only[Sem.run_bind,aa,Result.andThen_ok,Qvi _ h1];refine⟨_,rfl,⟨z.modify n fun e=>{e with key:=.int .i64 k,val:=v},d,?_,?_,?_,?_,?_⟩,chg _⟩;·simp[hb]
  ·rw[Ls (i:=0) (j:=n) (u:=u) (by rw[K];simp)];refine List.ext_getElem? fun i=>?_;have J:=congrArg (fun x=>x[i]?) U;simp only[List.getElem?_map,Array.getElem?_toList]at J;simp only[List.getElem?_map,Array.getElem?_toList,Array.getElem?_modify,List.getElem?_modify];by_cases I:n=i;·subst I;simp only[if_true,E,Array.getElem?_eq_getElem hn];simp
   ·simp only[I,if_false];simpa using J
  ·rw[Qcx ⟨(k,u),List.mem_of_getElem? E,rfl⟩];exact h3
  ·have:(z.modify n fun e=>{e with key:=.int .i64 k,val:=v}).toList.map (·.born)=z.toList.map (·.born):=by
    refine List.ext_getElem? fun i=>?_;simp only[List.getElem?_map,Array.getElem?_toList,Array.getElem?_modify];split;·cases z[i]? <;>rfl
    ·rfl
   rw[this];exact h4
  ·intro x B;obtain⟨i,hi⟩:=List.mem_iff_getElem?.1 B;simp only[Array.getElem?_toList,Array.getElem?_modify]at hi;split at hi
   ·cases hy:z[i]? with
    |none=>rw[hy]at hi;cases hi
    |some y=> rw[hy]at hi;obtain rfl:=Option.some.inj hi;exact h5 y (List.mem_of_getElem? (by rw[Array.getElem?_toList];exact hy))
   ·exact h5 x (List.mem_of_getElem? (by rw[Array.getElem?_toList];exact hi))
theorem Xs.new(w:World):Xs (w.alloc (.map #[] 0)) w.heap.size []:=⟨#[],0,by show(w.heap.push _)[w.heap.size]? =_;simp,rfl,by simp,by simp,by simp⟩
theorem Xs.keep{S:Nat→Prop}{w':World}(h:Xs w b l)(hc:Qc S w w')(d:¬S b):Xs w' b l:=by obtain⟨k,c,h1,q⟩:=h;exact⟨k,c,hc.heap h1 d,q⟩
theorem Xs.lt(h:Xs w b l):b<w.heap.size:=by obtain⟨d,c,h1,k⟩:=h;exact(Array.getElem?_eq_some_iff.1 h1).1
theorem Xs.nodup(h:Xs w b l):(l.map (·.1)).Nodup:=by obtain⟨k,c,h1,q,d,_⟩:=h;exact d
theorem Qxs(h:Xs w b l)(ht:P.underlying t=some (.map kt e))(ty:TypeId):(Builtin.len_ #[t] ty #[.map (some b)]).run P w=.ok (.int .i64 (l.length:Int)) w:=by
 obtain⟨d,c,h1,k,_⟩:=h;have hl:d.size=l.length:=by simpa using congrArg List.length k
 unfold Builtin.len_;simp[Qpe ht,Qpf h1,hl,goInt]
def Kx(k:Int)(l:List (Int×Value)):List (Int×Value):=l.filter fun p=>!decide (p.1=k)
theorem Qcy{A B:Type}(f:A→B):∀(l:List A)(j:Nat),(l.eraseIdx j).map f=(l.map f).eraseIdx j
 |[],_=>rfl
 |_::_,0=>rfl
 |a::l,j+1=>by simp[Qcy f l j]
theorem Qfi{k:Int}{v:Value}:∀{l:List (Int×Value)}{j:Nat},(l.map (·.1)).Nodup→l[j]? =some (k,v)→l.eraseIdx j=Kx k l
 |p::l,0,hn,h=>by
  obtain rfl:p=(k,v):=by simpa using h
  obtain⟨h1,_⟩:=List.nodup_cons.1 hn;simp only[List.eraseIdx_cons_zero,Kx,List.filter_cons,decide_true,Bool.not_true,Bool.false_eq_true,if_false];refine(List.filter_eq_self.2 fun q z=>?_).symm;simp only[Bool.not_eq_true',decide_eq_false_iff_not];exact fun e=>h1 (List.mem_map.2 ⟨q,z,e⟩)
 |p::l,j+1,hn,h=>by
  obtain⟨h1,d⟩:=List.nodup_cons.1 hn;have c:l[j]? =some (k,v):=by simpa using h
  have u:p.1≠k:=fun e=>h1 (List.mem_map.2 ⟨(k,v),List.mem_of_getElem? c,e.symm⟩);rw[List.eraseIdx_cons_succ,Qfi d c];simp[Kx,u]
theorem Qiw{k:Int}{l:List (Int×Value)}(h:∀p∈l,p.1≠k):Kx k l=l:=by refine List.filter_eq_self.2 fun q c=>?_;simp only[Bool.not_eq_true',decide_eq_false_iff_not];exact h q c
theorem Uq(h:Xs w b l)(ht:P.underlying t=some (.map kt e))(U:P.underlying kt=some (.int .i64))(Z ty:TypeId)(k:Int):
  ∃w',(Builtin.delete_ #[t,Z] ty #[.map (some b),.int .i64 k]).run P w=.ok (.tuple #[]) w'∧Xs w' b (Kx k l)∧Qc (fun j=>j=b) w w':=by
 obtain⟨z,c,h1,B,E,R,J⟩:=h;have K:b<w.heap.size:=(Array.getElem?_eq_some_iff.1 h1).1;have chg:∀o,Qc (fun j=>j=b) w {w with heap:=w.heap.setIfInBounds b o}:=by intro o;refine⟨rfl,rfl,rfl,by simp,fun j hj hS=>?_⟩;rw[Array.getElem?_setIfInBounds_ne (fun e=>hS e.symm)]
 unfold Builtin.delete_;simp only[Zf,Ze,Zd,Sem.run_bind,Qpe ht,Result.andThen_ok,Qpf h1,Hw U,U0 U k z.toList B];cases V:Ho k l 0 with
 |none=> simp only[Sem.run_bind,Qvi _ h1,Result.andThen_ok,Sem.run_pure];refine⟨_,rfl,⟨z,c,by simp[K],?_⟩,chg _⟩;rw[Qiw (Gn V)];exact⟨B,E,R,J⟩
 |some q=>
  obtain⟨n,u⟩:=q;obtain⟨j,hj,aa,I⟩:=Hf V;obtain rfl:n=j:=by omega
  simp only[Sem.run_bind,Qvi _ h1,Result.andThen_ok,Sem.run_pure];have d:(z.eraseIdxIfInBounds n).toList.Sublist z.toList:=by rw[Array.toList_eraseIdxIfInBounds];exact List.eraseIdx_sublist _ _
  refine⟨_,rfl,⟨z.eraseIdxIfInBounds n,c,by simp[K],?_,?_,?_,?_⟩,chg _⟩;·rw[←Qfi E I,Array.toList_eraseIdxIfInBounds,Qcy,B,Qcy]
  ·exact E.sublist (List.filter_sublist.map _)
  ·exact R.sublist (d.map _)
  ·exact fun x hx=>J x (d.subset hx)
def Ka(w:World)(b r:Nat)(l left:List (Int×Value)):Prop:=
 ∃k c d,w.heap[b]? =some (.map k c)∧k.toList.map (fun e=>(e.key,e.val))=l.map (fun p=>(Value.int .i64 p.1,p.2))∧
  (l.map (·.1)).Nodup∧(k.toList.map (·.born)).Nodup∧(∀e∈k.toList,e.born<c)∧w.heap[r]? =some (.mapIter (some b) c d c)∧r≠b∧
  (leftOf k d).toList.map (fun e=>(e.key,e.val))=left.map (fun p=>(Value.int .i64 p.1,p.2))∧left.Sublist l
theorem Ka.map{r:Nat}{left:List (Int×Value)}(h:Ka w b r l left):Xs w b l:=by obtain⟨k,c,d,h1,u,z,B,q,_⟩:=h;exact⟨k,c,h1,u,z,B,q⟩
theorem Ka.keep{S:Nat→Prop}{w':World}{r:Nat}{left:List (Int×Value)}(h:Ka w b r l left)(hc:Qc S w w')(B:¬S b)(hr:¬S r):Ka w' b r l left:=by obtain⟨q,c,d,h1,z,E,I,u,J,k⟩:=h;exact⟨q,c,d,hc.heap h1 B,z,E,I,u,hc.heap J hr,k⟩
theorem Ka.sub{r:Nat}{left:List (Int×Value)}(h:Ka w b r l left):left.Sublist l:=by obtain⟨u,c,d,h1,E,I,J,z,K,q,B,k⟩:=h;exact k
theorem Qix(h:Xs w b l)(ht:P.underlying t=some (.map kt e)):∃o,(Instr.range t (.map (some b))).run P w=.ok (.pointer (some ⟨w.heap.size,0,none⟩)) (w.alloc o)∧Ka (w.alloc o) b w.heap.size l l:=by
 have u:=h.lt;obtain⟨d,c,h1,k,z,B,q⟩:=h;refine⟨.mapIter (some b) c #[] c,?_,d,c,#[],?_,k,z,B,q,?_,by omega,?_,List.Sublist.refl _⟩;·unfold Instr.range;simp[Qpe ht,Qpf h1]
 ·rw[Below.heap_alloc _ _ _ u];exact h1
 ·show(w.heap.push _)[w.heap.size]? =_;simp
 ·have:leftOf d #[]=d:=by simp[leftOf]
  rw[this];exact k
theorem Qvj{d:List MapEntry}(h:(d.map (·.born)).Nodup){x y:MapEntry}(u:x∈d)(z:y∈d)(e:x.born=y.born):x=y:=by
 induction d with
 |nil=>cases u
 |cons a d E=>
  obtain⟨h1,B⟩:=List.nodup_cons.1 h;rcases List.mem_cons.1 u with ex|k
  ·rcases List.mem_cons.1 z with q|c;·rw[ex,q]
   ·exact(h1 (List.mem_map.2 ⟨y,c,by rw[←e,ex]⟩)).elim
  ·rcases List.mem_cons.1 z with q|c;·exact(h1 (List.mem_map.2 ⟨x,k,by rw[e,q]⟩)).elim
   ·exact E B k c
theorem Qiy{x:MapEntry}{p:Int×Value}:∀{c:List MapEntry}{left:List (Int×Value)},c.map (fun e=>(e.key,e.val))=left.map (fun p=>(Value.int .i64 p.1,p.2))→(left.map (·.1)).Nodup→(c.map (·.born)).Nodup→
  x∈c→p∈left→Value.int .i64 p.1=x.key→(c.filter (fun y=>!decide (y.born=x.born))).map (fun e=>(e.key,e.val))=(Kx p.1 left).map (fun p=>(Value.int .i64 p.1,p.2))
 |[],[],_,_,_,k,_,_=>by cases k
 |[],_::_,h,_,_,_,_,_=>by cases h
 |_::_,[],h,_,_,_,_,_=>by cases h
 |y::c,q::left,h,hn,hb,k,R,B=>by
  simp only[List.map_cons,List.cons.injEq,Prod.mk.injEq]at h;obtain⟨⟨h1,h2⟩,K⟩:=h;obtain⟨V,n2⟩:=List.nodup_cons.1 hn;obtain⟨b1,b2⟩:=List.nodup_cons.1 hb;by_cases u:y.born=x.born
  ·have E:y=x:=by
    rcases List.mem_cons.1 k with e|k;·exact e.symm
    ·exact absurd (List.mem_map.2 ⟨x,k,u.symm⟩) b1
   subst E;have I:q.1=p.1:=by rw[h1]at B;injection B with _ B;exact B.symm
   have f1:(c.filter fun z=>!decide (z.born=y.born))=c:=List.filter_eq_self.2 fun z d=>by simp only[Bool.not_eq_true',decide_eq_false_iff_not];exact fun e=>b1 (List.mem_map.2 ⟨z,d,e⟩)
   have f2:Kx p.1 left=left:=Qiw fun z d e=>V (List.mem_map.2 ⟨z,d,e.trans I.symm⟩);simp only[List.filter_cons,decide_true,Bool.not_true,Bool.false_eq_true,if_false,f1];rw[K];have:Kx p.1 (q::left)=Kx p.1 left:=by simp[Kx,I]
   rw[this,f2]
  ·have J:x∈c:=by
    rcases List.mem_cons.1 k with e|k;·exact absurd (by rw[e]) u
    ·exact k
   have I:q.1≠p.1:=by
    intro e;obtain⟨i,hi⟩:=List.mem_iff_getElem?.1 J;have:=congrArg (fun l=>l[i]?) K;simp only[List.getElem?_map,hi,Option.map_some]at this;cases hl:left[i]? with
    |none=>rw[hl]at this;cases this
    |some z=> rw[hl]at this;have d:x.key=Value.int .i64 z.1:=(Prod.mk.injEq .. ▸Option.some.inj this).1;rw[←B]at d;injection d with _ d;exact V (List.mem_map.2 ⟨z,List.mem_of_getElem? hl,d.symm.trans e.symm⟩)
   have U:p∈left:=by
    rcases List.mem_cons.1 R with e|R;·exact absurd (by rw[e]) I
    ·exact R
   have ih:=Qiy K n2 b2 J U B;have Z:((y::c).filter fun z=>!decide (z.born=x.born))=y::c.filter fun z=>!decide (z.born=x.born):=by simp[u]
   have g2:Kx p.1 (q::left)=q::Kx p.1 left:=by simp[Kx,I]
   rw[Z,g2,List.map_cons,List.map_cons,ih,h1,h2]
theorem Ql4{r:Nat}{left:List (Int×Value)}(h:Ka w b r l left)(ty:TypeId):
  (left=[]∧(Instr.next (.pointer (some ⟨r,0,none⟩)) false ty).run P w=.ok (.tuple #[.bool false]) w)∨
  ∃p∈left,∃w',(Instr.next (.pointer (some ⟨r,0,none⟩)) false ty).run P w=.ok (.tuple #[.bool true,.int .i64 p.1,p.2]) w'∧Ka w' b r l (Kx p.1 left)∧Qc (fun j=>j=r) w w'∧
   (Instr.entry (.pointer (some ⟨r,0,none⟩))).run P w'=.ok (.tuple #[.int .i64 p.1,p.2]) w':=by
 obtain⟨k,c,d,h1,h2,h3,U,h5,h6,h7,V,h9⟩:=h;rcases run_next_at (P:=P) w ty r b c c d k c h6 h1 h5 (Nat.le_refl _)with⟨h0,hr⟩|⟨x,R,w1,z,hr⟩
 ·left;refine⟨?_,hr⟩;have:(leftOf k d).toList=[]:=List.length_eq_zero_iff.1 (by simpa using h0);rw[this]at V;cases left with
  |nil=>rfl
  |cons a l=>cases V
 ·right;have q:=List.mem_map_of_mem (f:=fun e:MapEntry=>(e.key,e.val)) R;rw[V]at q;obtain⟨p,hp,I⟩:=List.mem_map.1 q;simp only[Prod.mk.injEq]at I;obtain⟨e1,e2⟩:=I;have ab:r<w.heap.size:=(Array.getElem?_eq_some_iff.1 h6).1;rw[←e1,←e2]at hr;have J:r<w1.heap.size:=by rcases z with rfl|rfl<;>exact ab
  have aa:w1.heap[b]? =some (.map k c):=by rcases z with rfl|rfl<;>exact h1
  have E:x∈k.toList:=by unfold leftOf at R;simp at R;simpa using R.1
  have K:(ChangeMaps.setBlock w1 r (.mapIter (some b) c (d.push x.born) c)).heap[b]? =some (.map k c):=by show(w1.heap.setIfInBounds r _)[b]? =_;rw[Array.getElem?_setIfInBounds_ne h7];exact aa
  have B:(ChangeMaps.setBlock w1 r (.mapIter (some b) c (d.push x.born) c)).heap[r]? =some (.mapIter (some b) c (d.push x.born) c):=by show(w1.heap.setIfInBounds r _)[r]? =_;simp[J]
  have ac:(left.map (·.1)).Nodup:=h3.sublist (h9.map _);refine⟨p,hp,_,hr,⟨k,c,d.push x.born,K,h2,h3,U,h5,B,h7,?_,List.filter_sublist.trans h9⟩,?_,?_⟩
  ·have ae:∀y∈k.toList,(y.born=x.born↔y=x):=by intro y hy;refine⟨fun e=>?_,fun e=>by rw[e]⟩;exact Qvj U hy E e
   have u:(leftOf k (d.push x.born)).toList=(leftOf k d).toList.filter (fun y=>!decide (y.born=x.born)):=by
    unfold leftOf;simp only[Array.toList_filter,List.filter_filter];refine List.filter_congr fun y _=>?_;simp only[Array.contains_push];by_cases hc:y.born=x.born;·simp[hc]
    ·simp[hc]
   rw[u];have Z:(leftOf k d).toList.Sublist k.toList:=by unfold leftOf;simp only[Array.toList_filter];exact List.filter_sublist
   exact Qiy V ac (U.sublist (Z.map _)) R hp e1
  ·rcases z with rfl|rfl;·exact⟨rfl,rfl,rfl,by simp[ChangeMaps.setBlock],fun j hj hS=>by show(w1.heap.setIfInBounds r _)[j]? =_;rw[Array.getElem?_setIfInBounds_ne (fun e=>hS e.symm)]⟩
   ·exact⟨rfl,rfl,rfl,by show w.heap.size≤(w.heap.setIfInBounds r _).size;simp,fun j hj hS=>by show(w.heap.setIfInBounds r _)[j]? =_;rw[Array.getElem?_setIfInBounds_ne (fun e=>hS e.symm)]⟩
  ·rw[e1,e2];exact run_entry_at _ r b c d k c x B K E U
end
end Go.Proofs.YtnnhmpehkbihnaaGreat
