/- A part of the proof: no condition. -/
import Derived.Laws.Externs
import Derived.Deep.RegionHeld3
import Derived.Test.YtnnhmpehkbihnaaGreatPk03
namespace Go.Proofs.YtnnhmpehkbihnaaGreat
set_option linter.unusedVariables false
set_option maxRecDepth 100000
set_option maxHeartbeats 4000000
open Go.RowKit
open Go.Proofs.Tryz
theorem Qcs(x y c s d:Int)(u:0≤x)(z:0≤y)(k:0≤c)(hc:c≤1)(hs:(x+y+c)%18446744073709551616=s)(q:(x+y+c)/18446744073709551616=d)(w):
  (callFunc 264 #[.int .u64 x,.int .u64 y,.int .u64 c]).run prog w=.ok (.value (.tuple #[.int .u64 s,.int .u64 d])) w:=by
 rw[run_callFunc_extern func264 (by kernel_rfl) (by kernel_rfl) (by kernel_rfl) (e:=add64Entry) (by kernel_rfl),run_add64 x y c u z k hc,hs,q];rfl
theorem Qjl(h1 l1 c l2 s d h:Int)(w)(b1:0≤h1)(b2:0≤l1)(k:0≤c)(q:0≤l2)(u:0≤d)(z:d≤1)
  (hs:(l1+l2+0)%18446744073709551616=s)(B:(l1+l2+0)/18446744073709551616=d)(E:(h1+c+d)%18446744073709551616=h)(h0:(h1+c+d)/18446744073709551616=0):
  Cl 256 #[.agg #[.int .u64 h1,.int .u64 l1],.agg #[.int .u64 c,.int .u64 l2]] w fun e w'=>e=.returned (.tuple #[.agg #[.int .u64 h,.int .u64 s],.int .i64 0])∧Qc Qb w w':=by
 have I:=O (fun w=>Qcs l1 l2 0 s d b2 q (by omega) (by omega) hs B w);have J:=O (fun w=>Qcs h1 c d h 0 b1 k u z E h0 w);clear b1 b2 k q u z hs B E h0;go_enter func256,ntmps256;go_wp2_with (first|simp only[I.o]|simp only[J.o]);refine bodyPost_ret (v:=.tuple #[.agg #[.int .u64 h,.int .u64 s],.int .i64 0]) (by simp[results,Tryz.results256,go_sem]) rfl ⟨rfl,?_⟩;(repeat' (first|(with_reducible first|exact Zg _ _|assumption|refine Zh ?_ _|refine Zi ?_ _|refine Zj ?_|refine Zk ?_ _ ?_|(apply Or.inl;rfl))|(apply Or.inl;simp;done)|(apply Or.inr;simp;first|done|omega)))
theorem Fg(m n:Nat)(w)(h:m+n<340282366920938463463374607431768211456):
  Cl 256 #[.agg #[.int .u64 ((m/18446744073709551616:Nat):Int),.int .u64 ((m%18446744073709551616:Nat):Int)],.agg #[.int .u64 ((n/18446744073709551616:Nat):Int),.int .u64 ((n%18446744073709551616:Nat):Int)]] w
   fun e w'=>e=.returned (.tuple #[.agg #[.int .u64 (((m+n)/18446744073709551616:Nat):Int),.int .u64 (((m+n)%18446744073709551616:Nat):Int)],.int .i64 0])∧Qc Qb w w':=
 Qjl _ _ _ _ _ ((((m%18446744073709551616)+(n%18446744073709551616))/18446744073709551616:Nat):Int) _ w (by omega) (by omega) (by omega) (by omega) (by omega) (by omega) (by omega) (by omega) (by omega) (by omega)
section
theorem Qez:prog.eqGuardType prog.depth 291=false:=by kernel_rfl
theorem Qmm:prog.stoodInHeld 291=false:=by kernel_rfl
theorem wrap64(n:Int)(h0:0≤n)(h1:n<18446744073709551616):IntKind.u64.wrap n=n:=by
 have:IntKind.u64.wrap n=n%18446744073709551616:=by simp[IntKind.wrap,IntKind.bits,IntKind.signed]
 rw[this];omega
attribute [local go_sem] Qez Qmm
end
section
structure Jy.May(c:Jy):Prop where
 hf:c.f≤1048576
 hr:c.r≤1048576
 hl:c.l≤1099511627776
 h0:c.l=0→c.f=0
 h1:c.l≠0→c.f≠c.r
instance(c:Jy):Decidable c.May:=
 if h:c.f≤1048576∧c.r≤1048576∧c.l≤1099511627776∧(c.l=0→c.f=0)∧(c.l≠0→c.f≠c.r)then .isTrue ⟨h.1,h.2.1,h.2.2.1,h.2.2.2.1,h.2.2.2.2⟩else .isFalse fun⟨a,b,c,d,e⟩=>h ⟨a,b,c,d,e⟩
theorem Qcg:prog.eqGuardType prog.depth 38=false:=by kernel_rfl
theorem Qi9:prog.stoodInHeld 38=false:=by kernel_rfl
attribute [local go_sem] Qcg Qi9
theorem Ea{c:Jy}(h:¬c.May):decide c.May=false:=by simpa using h
theorem Px{c:Jy}(h:c.May):decide c.May=true:=by simpa using h
theorem K8(c:Jy)(w):
  Cl 187 #[.agg #[.int .u64 c.f,.int .u64 c.l,.int .u64 c.r]] w fun e w'=>e=.returned (.bool (decide c.May))∧Qc Qb w w':=by
 obtain⟨f,l,r⟩:=c;dsimp only;by_cases h1:f≤1048576
 ·have B:decide ((1048576:Int)<(f:Int))=false:=by simp;omega
  by_cases k:r≤1048576
  ·have E:decide ((1048576:Int)<(r:Int))=false:=by simp;omega
   by_cases q:l≤1099511627776
   ·have I:decide ((1099511627776:Int)<(l:Int))=false:=by simp;omega
    by_cases u:l=0
    ·subst u;by_cases d:f=0;·subst d;rw[Px (c:=⟨0,0,r⟩) ⟨h1,k,q,fun _=>rfl,fun h=>(h rfl).elim⟩];go_enter func187,ntmps187;go_wp2;go_ret;refine⟨rfl,?_⟩;(repeat' (first|(with_reducible first|exact Zg _ _|assumption|refine Zh ?_ _|refine Zi ?_ _|refine Zj ?_|refine Zk ?_ _ ?_|(apply Or.inl;rfl))|(apply Or.inl;simp;done)|(apply Or.inr;simp;first|done|omega)))
     ·have z:((f:Int)==0)=false:=by simp;omega
      rw[Ea (c:=⟨f,0,r⟩) (fun h=>d (h.h0 rfl))];go_enter func187,ntmps187;go_wp2;go_ret;refine⟨rfl,?_⟩;(repeat' (first|(with_reducible first|exact Zg _ _|assumption|refine Zh ?_ _|refine Zi ?_ _|refine Zj ?_|refine Zk ?_ _ ?_|(apply Or.inl;rfl))|(apply Or.inl;simp;done)|(apply Or.inr;simp;first|done|omega)))
    ·have J:((l:Int)==0)=false:=by simp;omega
     by_cases d:f=r
     ·subst d;have z:((f:Int) !=(f:Int))=false:=by simp
      rw[Ea (c:=⟨f,l,f⟩) (fun h=>h.h1 u rfl)];go_enter func187,ntmps187;go_wp2;go_ret;refine⟨rfl,?_⟩;(repeat' (first|(with_reducible first|exact Zg _ _|assumption|refine Zh ?_ _|refine Zi ?_ _|refine Zj ?_|refine Zk ?_ _ ?_|(apply Or.inl;rfl))|(apply Or.inl;simp;done)|(apply Or.inr;simp;first|done|omega)))
     ·have z:((f:Int) !=(r:Int))=true:=by simp;omega
      rw[Px (c:=⟨f,l,r⟩) ⟨h1,k,q,fun h=>(u h).elim,fun _=>d⟩];go_enter func187,ntmps187;go_wp2;go_ret;refine⟨rfl,?_⟩;(repeat' (first|(with_reducible first|exact Zg _ _|assumption|refine Zh ?_ _|refine Zi ?_ _|refine Zj ?_|refine Zk ?_ _ ?_|(apply Or.inl;rfl))|(apply Or.inl;simp;done)|(apply Or.inr;simp;first|done|omega)))
   ·have I:decide ((1099511627776:Int)<(l:Int))=true:=by simp;omega
    rw[Ea (c:=⟨f,l,r⟩) (fun h=>q h.hl)];go_enter func187,ntmps187;go_wp2;go_ret;refine⟨rfl,?_⟩;(repeat' (first|(with_reducible first|exact Zg _ _|assumption|refine Zh ?_ _|refine Zi ?_ _|refine Zj ?_|refine Zk ?_ _ ?_|(apply Or.inl;rfl))|(apply Or.inl;simp;done)|(apply Or.inr;simp;first|done|omega)))
  ·have E:decide ((1048576:Int)<(r:Int))=true:=by simp;omega
   rw[Ea (c:=⟨f,l,r⟩) (fun h=>k h.hr)];go_enter func187,ntmps187;go_wp2;go_ret;refine⟨rfl,?_⟩;(repeat' (first|(with_reducible first|exact Zg _ _|assumption|refine Zh ?_ _|refine Zi ?_ _|refine Zj ?_|refine Zk ?_ _ ?_|(apply Or.inl;rfl))|(apply Or.inl;simp;done)|(apply Or.inr;simp;first|done|omega)))
 ·have B:decide ((1048576:Int)<(f:Int))=true:=by simp;omega
  rw[Ea (c:=⟨f,l,r⟩) (fun h=>h1 h.hf)];go_enter func187,ntmps187;go_wp2;go_ret;refine⟨rfl,?_⟩;(repeat' (first|(with_reducible first|exact Zg _ _|assumption|refine Zh ?_ _|refine Zi ?_ _|refine Zj ?_|refine Zk ?_ _ ?_|(apply Or.inl;rfl))|(apply Or.inl;simp;done)|(apply Or.inr;simp;first|done|omega)))
def Jy.none(c:Jy):Bool:=c.f==0&&(c.l==0&&c.r==0)
theorem Kz(c:Jy)(w):
  Cl 128 #[.agg #[.int .u64 c.f,.int .u64 c.l,.int .u64 c.r]] w fun e w'=>e=.returned (.bool c.none)∧Qc Qb w w':=by
 obtain⟨f,l,r⟩:=c;have e1:Jy.none ⟨f,l,r⟩=((f:Int)==0&&((l:Int)==0&&(r:Int)==0)):=by
  unfold Jy.none;have g:∀n:Nat,((n:Int)==0)=(n==0):=fun n=>by
   cases n with
   |zero=>rfl
   |succ n=>simp;omega
  rw[g,g,g]
 rw[e1];dsimp only;by_cases h1:f=0
 ·subst h1;by_cases u:l=0
  ·subst u;by_cases z:r=0;·subst z;go_enter func128,ntmps128;go_wp2;go_ret;refine⟨rfl,?_⟩;(repeat' (first|(with_reducible first|exact Zg _ _|assumption|refine Zh ?_ _|refine Zi ?_ _|refine Zj ?_|refine Zk ?_ _ ?_|(apply Or.inl;rfl))|(apply Or.inl;simp;done)|(apply Or.inr;simp;first|done|omega)))
   ·have q:((r:Int)==0)=false:=by simp;omega
    rw[q];go_enter func128,ntmps128;go_wp2;go_ret;refine⟨rfl,?_⟩;(repeat' (first|(with_reducible first|exact Zg _ _|assumption|refine Zh ?_ _|refine Zi ?_ _|refine Zj ?_|refine Zk ?_ _ ?_|(apply Or.inl;rfl))|(apply Or.inl;simp;done)|(apply Or.inr;simp;first|done|omega)))
  ·have k:((l:Int)==0)=false:=by simp;omega
   rw[k];go_enter func128,ntmps128;go_wp2;go_ret;refine⟨rfl,?_⟩;(repeat' (first|(with_reducible first|exact Zg _ _|assumption|refine Zh ?_ _|refine Zi ?_ _|refine Zj ?_|refine Zk ?_ _ ?_|(apply Or.inl;rfl))|(apply Or.inl;simp;done)|(apply Or.inr;simp;first|done|omega)))
 ·have d:((f:Int)==0)=false:=by simp;omega
  rw[d];go_enter func128,ntmps128;go_wp2;go_ret;refine⟨rfl,?_⟩;(repeat' (first|(with_reducible first|exact Zg _ _|assumption|refine Zh ?_ _|refine Zi ?_ _|refine Zj ?_|refine Zk ?_ _ ?_|(apply Or.inl;rfl))|(apply Or.inl;simp;done)|(apply Or.inr;simp;first|done|omega)))
end
def Jy.at(c:Jy)(t:Nat):Nat:=c.f*min t c.l+c.r*(t-min t c.l)
theorem Jy.at_le(c:Jy)(h:c.May)(t:Nat)(ht:t<18446744073709551616):c.f*min t c.l≤1152921504606846976∧c.r*(t-min t c.l)<19342813113834066795298816:=by have h1:=h.hf;have d:=h.hr;have k:=h.hl;refine⟨Zp (Nat.mul_le_mul h1 (Zp (Nat.min_le_right _ _) k)) (by decide),?_⟩;exact Nat.lt_of_le_of_lt (Nat.mul_le_mul d (show t-min t c.l≤18446744073709551615 by omega)) (by decide)
theorem Qc.same{w w'}(hc:Qc Qb w w'){ad:Addr}{u:Value}(h:w.cell? ad=some u):w'.cell? ad=some u:=(hc.cell (Qeu h) (fun h=>h)).trans h
def Jy.leAt(a b:Jy)(t:Nat):Bool:=decide (a.at t≤b.at t)
theorem Quy(m n:Nat):decide ((0:Int)<Io m n)=!decide (m≤n):=by
 unfold Io;split;·simp;omega
 ·split;·simp;omega
  ·simp;omega
abbrev Xw:Nat:=4611686018427387904
abbrev Qq:Nat:=9223372036854775808
def Tw(a b:Nat):Nat:=(a+(b-1))/b
theorem D9{a b n:Nat}(c:0<b):Tw a b≤n↔a≤b*n:=by unfold Tw;rw[Nat.div_le_iff_le_mul_add_pred c];omega
def Jy.reach(c:Jy)(y:Nat):Option Nat:=
 if y=0 then some 0 else if y≤c.f*c.l then some (Tw y c.f)else if c.r=0 then Option.none else some (c.l+Tw (y-c.f*c.l) c.r)
theorem Jy.reach_le(c:Jy)(y t:Nat):(∃n,c.reach y=some n∧n≤t)↔y≤c.at t:=by
 have k:c.at t=c.f*min t c.l+c.r*(t-min t c.l):=rfl;unfold Jy.reach;by_cases h0:y=0;·simp[h0]
 ·rw[if_neg h0];by_cases h1:y≤c.f*c.l
  ·rw[if_pos h1];have hf:0<c.f:=Nat.pos_of_ne_zero fun h=>by rw[h]at h1;simp at h1;exact h0 h1
   simp only[Option.some.injEq,exists_eq_left'];rw[D9 hf];rw[k];by_cases ht:t≤c.l;·rw[Nat.min_eq_left ht,Nat.sub_self,Nat.mul_zero,Nat.add_zero]
   ·have d:c.l≤t:=by omega
    rw[Nat.min_eq_right d];have:=Nat.mul_le_mul_left c.f d;constructor;·intro _;omega
    ·intro _;omega
  ·rw[if_neg h1];by_cases hr:c.r=0;·rw[if_pos hr];simp only[reduceCtorEq,false_and,exists_false,false_iff];rw[k,hr,Nat.zero_mul,Nat.add_zero];have:=Nat.mul_le_mul_left c.f (Nat.min_le_right t c.l);omega
   ·rw[if_neg hr];have q:0<c.r:=Nat.pos_of_ne_zero hr;simp only[Option.some.injEq,exists_eq_left'];rw[k];by_cases ht:t≤c.l
    ·rw[Nat.min_eq_left ht,Nat.sub_self,Nat.mul_zero,Nat.add_zero];have u:=Nat.mul_le_mul_left c.f ht;have z:0<Tw (y-c.f*c.l) c.r:=by
      rcases Nat.eq_zero_or_pos (Tw (y-c.f*c.l) c.r)with h|h;·have:=(D9 q (a:=y-c.f*c.l) (n:=0)).1 (by omega);omega
      ·exact h
     omega
    ·have d:c.l≤t:=by omega
     rw[Nat.min_eq_right d];have:=D9 q (a:=y-c.f*c.l) (n:=t-c.l);omega
abbrev Uw:=List (Nat×Nat)
def Ji(l:Uw):Nat:=match l.getLast? with
 |none=>0
 |some k=>k.1
def Dg(l:Uw)(x y:Nat):Uw:=l++[(max (min x Qq) (Ji l),min y Xw)]
theorem Of(l:Uw)(x y:Nat):Ji (Dg l x y)=max (min x Qq) (Ji l):=by simp[Ji,Dg]
structure Uj(l:Uw):Prop where
 rise:∀k∈l,k.1≤Ji l
 last:Ji l≤Qq
 cap:∀k∈l,k.2≤Xw
theorem Uj.nil:Uj []:=⟨nofun,Nat.zero_le _,nofun⟩
theorem Uj.start{l:Uw}(h:Uj l)(x y:Nat):Uj (Dg l x y):=by
 refine⟨fun k c=>?_,?_,fun k c=>?_⟩
 ·rw[Of];rcases Zl.1 c with c|c;·exact Zp (h.rise k c) (Nat.le_max_right _ _)
  ·obtain rfl:k=_:=by simpa using c
   exact Zv _
 ·rw[Of];have:=h.last;omega
 ·rcases Zl.1 c with c|c;·exact h.cap k c
  ·obtain rfl:k=_:=by simpa using c
   exact Nat.min_le_right _ _
def Xb(f:Nat×Nat→Nat):Uw→Nat
 |[]=>0
 |[k]=>f k
 |k::l=>min (f k) (Xb f l)
theorem U4{f:Nat×Nat→Nat}{y:Nat}:∀{l:Uw},l≠[]→(y≤Xb f l↔∀k∈l,y≤f k)
 |[k],_=>by simp[Xb]
 |k::j::l,_=>by
  have c:=U4 (f:=f) (y:=y) (l:=j::l) nofun;rw[Xb,Nat.le_min,c];·simp
  ·exact nofun
def Hg(c:Jy)(t:Nat)(k:Nat×Nat):Nat:=k.2+c.at (t-k.1)
def rAt(c:Jy)(l:Uw)(t:Nat):Nat:=if l=[]then 0 else min Xw (Xb (Hg c (max t (Ji l))) l)
def Rr(c:Jy)(y:Nat)(k:Nat×Nat):Nat:=match c.reach (y-k.2)with
 |none=>Qq
 |some n=>k.1+n
def Kn(c:Jy)(l:Uw)(y:Nat):Nat:=
 if l=[]then(if y=0 then 0 else Qq)else if Xw<y then Qq else min Qq (l.foldl (fun n k=>max n (Rr c y k)) (Ji l))
theorem Uf{f:Nat×Nat→Nat}{t:Nat}:∀(l:Uw)(n:Nat),l.foldl (fun n k=>max n (f k)) n≤t↔n≤t∧∀k∈l,f k≤t
 |[],n=>by simp
 |k::l,n=>by rw[List.foldl_cons,Uf l];simp only[Zu,forall_eq_or_imp,Nat.max_le,and_assoc]
theorem Nt{c:Jy}{y t:Nat}{k:Nat×Nat}(ht:t<Qq)(d:k.1≤t):Rr c y k≤t↔y≤Hg c t k:=by
 unfold Rr Hg;have:=c.reach_le (y-k.2) (t-k.1);cases h:c.reach (y-k.2)with
 |none=>
  rw[h]at this;simp only[reduceCtorEq,false_and,exists_false,false_iff]at this;constructor;·intro h';dsimp only at h';omega
  ·intro h';omega
 |some n=> rw[h]at this;simp only[Option.some.injEq,exists_eq_left']at this;dsimp only;omega
theorem Qd9{c:Jy}{l:Uw}{y t:Nat}(h:Uj l)(hl:l≠[])(ht:t<Qq)(h1:Ji l≤t):Kn c l y≤t↔y≤rAt c l t:=by
 unfold Kn rAt;rw[if_neg hl,if_neg hl,Nat.max_eq_left h1,Nat.le_min,U4 hl];by_cases q:Xw<y
 ·rw[if_pos q];constructor;·intro h';omega
  ·intro h';omega
 ·rw[if_neg q];have:min Qq (l.foldl (fun n k=>max n (Rr c y k)) (Ji l))≤t↔l.foldl (fun n k=>max n (Rr c y k)) (Ji l)≤t:=by omega
  rw[this,Uf];constructor;·intro⟨_,h'⟩;exact⟨by omega,fun k d=>(Nt ht (Zp (h.rise k d) h1)).1 (h' k d)⟩
  ·intro⟨_,h'⟩;exact⟨h1,fun k d=>(Nt ht (Zp (h.rise k d) h1)).2 (h' k d)⟩
theorem Pb(c:Jy)(l:Uw)(y:Nat):Kn c l y≤Qq:=by
 unfold Kn;split;·split<;>simp[Qq]
 ·split;·exact Zv _
  ·exact Nat.min_le_left _ _
theorem Qip{c:Jy}{l:Uw}{y:Nat}(h:Uj l):Ji l≤Kn c l y:=by
 unfold Kn;have d:=h.last;split;·rename_i hl;subst hl;exact Nat.zero_le _
 ·split;·exact d
  ·rw[Nat.le_min];exact⟨d,((Uf l (Ji l)).1 (Zv _)).1⟩
theorem Vb(f:Nat×Nat→Nat)(k j:Nat×Nat)(l:Uw):Xb f (k::j::l)=min (f k) (Xb f (j::l)):=rfl
theorem F4{f:Nat×Nat→Nat}(d:Nat):∀{l:Uw},l≠[]→Xb (fun k=>f k+d) l=Xb f l+d
 |[k],_=>rfl
 |k::j::l,_=>by have c:=F4 (f:=f) d (l:=j::l) nofun;rw[Vb,c,Vb];omega
theorem Nn{f:Nat×Nat→Nat}(k:Nat×Nat):∀{l:Uw},l≠[]→Xb f (l++[k])=min (Xb f l) (f k)
 |[j],_=>rfl
 |j::i::l,_=>by have c:=Nn (f:=f) k (l:=i::l) nofun;rw[List.cons_append]at c;rw[List.cons_append,List.cons_append,Vb,c,Vb];omega
theorem Lt{f g:Nat×Nat→Nat}:∀{l:Uw},(∀k∈l,f k=g k)→Xb f l=Xb g l
 |[],_=>rfl
 |[k],h=>h k (by simp)
 |k::j::l,h=>by rw[Vb,Vb,h k (by simp),Lt (l:=j::l) (fun i hi=>h i (by simp[hi]))]
theorem F6{f g:Nat×Nat→Nat}:∀{l:Uw},l≠[]→Xb (fun k=>min (f k) (g k)) l=min (Xb f l) (Xb g l)
 |[k],_=>rfl
 |k::j::l,_=>by have c:=F6 (f:=f) (g:=g) (l:=j::l) nofun;rw[Vb,c,Vb,Vb];omega
def Vk(s o:Nat)(l:Uw):Nat:=min Xw (Xb (fun k=>k.2+o+s*(Ji l-k.1)) l)
def Hb(h s n:Nat):Nat:=min Xw (h+min Xw (s*n))
theorem Qlw(l:Uw)(k:Nat×Nat):Ji (l++[k])=k.1:=by simp[Ji]
theorem Qai{s o t:Nat}{l:Uw}(h:Uj l)(hl:l≠[])(ht:Ji l≤t):Xb (fun k=>k.2+o+s*(t-k.1)) l=Xb (fun k=>k.2+o+s*(Ji l-k.1)) l+s*(t-Ji l):=by
 rw[←F4 _ hl];refine Lt fun k c=>?_;have:=h.rise k c;have e:t-k.1=(Ji l-k.1)+(t-Ji l):=by omega
 rw[e,Nat.mul_add];omega
theorem F9{s o x y:Nat}{l:Uw}(h:Uj l)(hl:l≠[])(c:Ji l≤x):
  Vk s o (l++[(x,y)])=min (Hb (Vk s o l) s (x-Ji l)) (min Xw (y+o)):=by
 unfold Vk Hb;rw[Qlw,Nn _ hl,Qai h hl c];simp only[Nat.sub_self,Nat.mul_zero,Nat.add_zero];omega
theorem Qdm(s o x y:Nat):Vk s o [(x,y)]=min Xw (y+o):=by simp[Vk,Xb,Ji]
theorem Qdk{s o t:Nat}{l:Uw}(h:Uj l)(hl:l≠[])(ht:Ji l≤t):Hb (Vk s o l) s (t-Ji l)=min Xw (Xb (fun k=>k.2+o+s*(t-k.1)) l):=by unfold Vk Hb;rw[Qai h hl ht];omega
theorem Jy.at_bent{c:Jy}(h:c.r<c.f)(t:Nat):c.at t=min (c.f*t) ((c.f-c.r)*c.l+c.r*t):=by
 have q:c.at t=c.f*min t c.l+c.r*(t-min t c.l):=rfl;obtain⟨d,u⟩:∃d,c.f=c.r+d:=⟨c.f-c.r,by omega⟩;rw[q,u,Nat.add_sub_cancel_left];by_cases ht:t≤c.l;·rw[Nat.min_eq_left ht,Nat.sub_self,Nat.mul_zero,Nat.add_zero];have:=Nat.mul_le_mul_left d ht;rw[Nat.add_mul];omega
 ·have k:c.l≤t:=by omega
  rw[Nat.min_eq_right k];have:=Nat.mul_le_mul_left d k;have e:c.r*t=c.r*c.l+c.r*(t-c.l):=by rw[←Nat.mul_add];congr 1;omega
  rw[Nat.add_mul,Nat.add_mul];omega
theorem Qte{c:Jy}{l:Uw}{t:Nat}(hc:c.r<c.f)(h:Uj l)(hl:l≠[])(ht:Ji l≤t):
  rAt c l t=min (Hb (Vk c.f 0 l) c.f (t-Ji l)) (Hb (Vk c.r ((c.f-c.r)*c.l) l) c.r (t-Ji l)):=by
 rw[Qdk h hl ht,Qdk h hl ht];unfold rAt;rw[if_neg hl,Nat.max_eq_left ht];have e:Xb (Hg c t) l=min (Xb (fun k=>k.2+0+c.f*(t-k.1)) l) (Xb (fun k=>k.2+(c.f-c.r)*c.l+c.r*(t-k.1)) l):=by rw[←F6 hl];refine Lt fun k d=>?_;unfold Hg;rw[Jy.at_bent hc];omega
 rw[e];omega
def Y5(h s y:Nat):Nat:=if y≤h then 0 else if s=0∨Xw<y then Qq else Tw (y-h) s
theorem Ia{h s y n:Nat}(hn:n<Qq):Y5 h s y≤n↔y≤h∨y≤Hb h s n:=by
 unfold Y5 Hb;by_cases h0:y≤h;·simp[h0]
 ·rw[if_neg h0];by_cases h1:s=0∨Xw<y
  ·rw[if_pos h1];constructor;·intro h';omega
   ·intro h';rcases h1 with rfl|h1;·simp at h';omega
    ·omega
  ·rw[if_neg h1,D9 (by omega)];omega
theorem Qd8{c:Jy}{l:Uw}{y R:Nat}(h:Uj l)(hl:l≠[])(h1:Ji l≤R)(q:R≤Qq)(d:∀t,Ji l≤t→t<Qq→(R≤t↔y≤rAt c l t)):R=Kn c l y:=by
 have u:=Pb c l y;have k:=Qip (c:=c) (y:=y) h;refine Nat.le_antisymm ?_ ?_
 ·by_cases hn:Kn c l y=Qq;·omega
  ·exact(d _ k (by omega)).2 ((Qd9 h hl (by omega) k).1 (Zv _))
 ·by_cases hn:R=Qq;·omega
  ·exact(Qd9 h hl (by omega) h1).2 ((d R h1 (by omega)).1 (Zv _))
def O6(x n:Nat):Nat:=if Qq-x≤n then Qq else x+n
theorem Qj0{c:Jy}{l:Uw}{y:Nat}(hc:c.r<c.f)(h:Uj l)(hl:l≠[]):
  O6 (Ji l) (max (Y5 (Vk c.f 0 l) c.f y) (Y5 (Vk c.r ((c.f-c.r)*c.l) l) c.r y))=Kn c l y:=by
 have d:=h.last;refine Qd8 h hl ?_ ?_ fun t h1 B=>?_;·unfold O6;split<;>omega
 ·unfold O6;split<;>omega
 ·rw[Qte hc h hl h1,Nat.le_min];have u:Vk c.f 0 l≤Hb (Vk c.f 0 l) c.f (t-Ji l):=by unfold Hb Vk;omega
  have z:Vk c.r ((c.f-c.r)*c.l) l≤Hb (Vk c.r ((c.f-c.r)*c.l) l) c.r (t-Ji l):=by unfold Hb Vk;omega
  have e1:=Ia (h:=Vk c.f 0 l) (s:=c.f) (y:=y) (n:=t-Ji l) (by omega);have k:=Ia (h:=Vk c.r ((c.f-c.r)*c.l) l) (s:=c.r) (y:=y) (n:=t-Ji l) (by omega);have q:O6 (Ji l) (max (Y5 (Vk c.f 0 l) c.f y) (Y5 (Vk c.r ((c.f-c.r)*c.l) l) c.r y))≤t↔Y5 (Vk c.f 0 l) c.f y≤t-Ji l∧Y5 (Vk c.r ((c.f-c.r)*c.l) l) c.r y≤t-Ji l:=by generalize Y5 (Vk c.f 0 l) c.f y=a;generalize Y5 (Vk c.r ((c.f-c.r)*c.l) l) c.r y=b;unfold O6;split<;>omega
  rw[q,e1,k];omega
def Ug(c:Jy)(t:Nat)(k:Nat×Nat):Nat:=k.2+c.r*(t-k.1)
theorem Jy.at_sag{c:Jy}(h:c.f≤c.r)(t:Nat):c.at t+(c.r-c.f)*min t c.l=c.r*t:=by have k:c.at t=c.f*min t c.l+c.r*(t-min t c.l):=rfl;obtain⟨d,u⟩:∃d,c.r=c.f+d:=⟨c.r-c.f,by omega⟩;rw[k,u,Nat.add_sub_cancel_left];have z:=Nat.min_le_left t c.l;generalize min t c.l=m at z;obtain⟨q,rfl⟩:∃q,t=m+q:=⟨t-m,by omega⟩;rw[Nat.add_sub_cancel_left,Nat.mul_add,Nat.add_mul,Nat.add_mul];omega
def Dom(c:Jy)(x:Nat)(j k:Nat×Nat):Prop:=∀t,x≤t→Hg c t j≤Hg c t k∧Ug c t j≤Ug c t k
theorem Dom.refl(c:Jy)(x:Nat)(k:Nat×Nat):Dom c x k k:=fun t _=>⟨Zv _,Zv _⟩
theorem Dom.trans{c:Jy}{x:Nat}{i j k:Nat×Nat}(h:Dom c x i j)(h':Dom c x j k):Dom c x i k:=fun t ht=>⟨Zp (h t ht).1 (h' t ht).1,Zp (h t ht).2 (h' t ht).2⟩
theorem Dom.later{c:Jy}{x x':Nat}{j k:Nat×Nat}(h:Dom c x j k)(d:x≤x'):Dom c x' j k:=fun t ht=>h t (Zp d ht)
theorem Em{c:Jy}(h:c.f≤c.r)(t:Nat)(k:Nat×Nat):Hg c t k+(c.r-c.f)*min (t-k.1) c.l=Ug c t k:=by have:=Jy.at_sag h (t-k.1);unfold Hg Ug;omega
theorem Qti{c:Jy}(h:c.f≤c.r){x:Nat}{j k:Nat×Nat}(d:j.1≤k.1)(U:k.1≤x)(R:Hg c x k≤Hg c x j):Dom c x k j:=by
 intro t ht;have e1:=Em h x j;have B:=Em h x k;have E:=Em h t j;have I:=Em h t k;have l1:Ug c t j=Ug c x j+c.r*(t-x):=by
  unfold Ug;have:t-j.1=(x-j.1)+(t-x):=by omega
  rw[this,Nat.mul_add];omega
 have l2:Ug c t k=Ug c x k+c.r*(t-x):=by
  unfold Ug;have:t-k.1=(x-k.1)+(t-x):=by omega
  rw[this,Nat.mul_add];omega
 have J:(c.r-c.f)*min (t-j.1) c.l+(c.r-c.f)*min (x-k.1) c.l≤(c.r-c.f)*min (x-j.1) c.l+(c.r-c.f)*min (t-k.1) c.l:=by rw[←Nat.mul_add,←Nat.mul_add];refine Nat.mul_le_mul_left _ ?_;omega
 have K:(c.r-c.f)*min (x-k.1) c.l≤(c.r-c.f)*min (x-j.1) c.l:=Nat.mul_le_mul_left _ (by omega);generalize(c.r-c.f)*min (t-j.1) c.l=a1 at*;generalize(c.r-c.f)*min (x-k.1) c.l=q at*;generalize(c.r-c.f)*min (x-j.1) c.l=u at*;generalize(c.r-c.f)*min (t-k.1) c.l=z at*;omega
theorem Qq9{c:Jy}(h:c.f≤c.r){x:Nat}{j k:Nat×Nat}(d:j.1≤k.1)(E:k.1≤x)(B:Ug c x j≤Ug c x k):Dom c x j k:=by
 intro t ht;have q:=Em h t j;have u:=Em h t k;have l1:Ug c t j=Ug c x j+c.r*(t-x):=by
  unfold Ug;have:t-j.1=(x-j.1)+(t-x):=by omega
  rw[this,Nat.mul_add];omega
 have l2:Ug c t k=Ug c x k+c.r*(t-x):=by
  unfold Ug;have:t-k.1=(x-k.1)+(t-x):=by omega
  rw[this,Nat.mul_add];omega
 have z:(c.r-c.f)*min (t-k.1) c.l≤(c.r-c.f)*min (t-j.1) c.l:=Nat.mul_le_mul_left _ (by omega);omega
def U8(c:Jy)(x:Nat)(k:Nat×Nat):Nat→Uw→Uw
 |0,out=>out
 |n+1,out=>match out.getLast? with
  |none=>out
  |some j=>if Hg c x k≤Hg c x j then U8 c x k n out.dropLast else out
def Ux(c:Jy)(x:Nat)(out:Uw)(k:Nat×Nat):Uw:=
 let o:=U8 c x k out.length out
 match o.getLast? with
 |none=>o++[k]
 |some j=>if Ug c x j≤Ug c x k then o else o++[k]
def Qbj(c:Jy)(x:Nat)(l:Uw):Uw:=l.foldl (Ux c x) []
def Ys(c:Jy)(x:Nat)(out l:Uw):Prop:=out.Sublist l∧∀k∈l,∃j∈out,Dom c x j k
theorem getLast?_mem{l:Uw}{k:Nat×Nat}(h:l.getLast? =some k):l=l.dropLast++[k]:=by obtain⟨c,rfl⟩:=List.getLast?_eq_some_iff.1 h;simp
theorem Tj{c:Jy}(hc:c.f≤c.r){x:Nat}{k:Nat×Nat}(q:k.1≤x):∀(n:Nat)(out:Uw),(∀j∈out,j.1≤k.1)→
  (U8 c x k n out).Sublist out∧∀j∈out,(∃i∈U8 c x k n out,Dom c x i j)∨Dom c x k j
 |0,out,_=>⟨List.Sublist.refl _,fun j d=>.inl ⟨j,d,Dom.refl c x j⟩⟩
 |n+1,out,h=>by
  rw[U8];cases hl:out.getLast? with
  |none=>exact⟨List.Sublist.refl _,fun j d=>.inl ⟨j,d,Dom.refl c x j⟩⟩
  |some j=>
   dsimp only;have e:=getLast?_mem hl;split
   ·rename_i z;have hs:out.dropLast.Sublist out:=List.dropLast_sublist out;obtain⟨h1,u⟩:=Tj hc q n out.dropLast (fun i hi=>h i (hs.subset hi));refine⟨h1.trans hs,fun i hi=>?_⟩;rw[e]at hi;rcases Zl.1 hi with hi|hi;·exact u i hi
    ·obtain rfl:i=j:=by simpa using hi
     exact .inr (Qti hc (h i (by rw[e];simp)) q z)
   ·exact⟨List.Sublist.refl _,fun j d=>.inl ⟨j,d,Dom.refl c x j⟩⟩
theorem Qbk{c:Jy}(hc:c.f≤c.r){x:Nat}{k:Nat×Nat}(K:k.1≤x){out l:Uw}(hs:Ys c x out l)(hl:∀j∈l,j.1≤k.1):Ys c x (Ux c x out k) (l++[k]):=by
 obtain⟨h1,J⟩:=Tj hc K out.length out (fun j z=>hl j (hs.1.subset z));unfold Ux;dsimp only;have B:Ys c x (U8 c x k out.length out++[k]) (l++[k]):=by
  refine⟨(h1.trans hs.1).append (List.Sublist.refl _),fun i hi=>?_⟩;rcases Zl.1 hi with hi|hi
  ·obtain⟨j,z,d⟩:=hs.2 i hi;rcases J j z with⟨q,I,u⟩|u;·exact⟨q,by simp[I],u.trans d⟩
   ·exact⟨k,by simp,u.trans d⟩
  ·obtain rfl:i=k:=by simpa using hi
   exact⟨i,by simp,Dom.refl c x i⟩
 cases R:(U8 c x k out.length out).getLast? with
 |none=>exact B
 |some j=>
  dsimp only;split
  ·rename_i U;have z:j∈U8 c x k out.length out:=List.mem_of_getLast? R;have E:Dom c x j k:=Qq9 hc (hl j (hs.1.subset (h1.subset z))) K U;refine⟨(h1.trans hs.1).trans (List.sublist_append_left _ _),fun i hi=>?_⟩;rcases Zl.1 hi with hi|hi
   ·obtain⟨q,I,d⟩:=hs.2 i hi;rcases J q I with⟨p,V,u⟩|u;·exact⟨p,V,u.trans d⟩
    ·exact⟨j,z,E.trans (u.trans d)⟩
   ·obtain rfl:i=k:=by simpa using hi
    exact⟨j,z,E⟩
  ·exact B
abbrev Ew(l:Uw):Prop:=l.Pairwise fun j k=>j.1≤k.1
theorem Ti{c:Jy}(hc:c.f≤c.r){x:Nat}:∀(b a out:Uw),Ew (a++b)→(∀k∈b,k.1≤x)→Ys c x out a→Ys c x (b.foldl (Ux c x) out) (a++b)
 |[],a,out,_,_,h=>by simpa using h
 |k::b,a,out,hr,hx,h=>by rw[List.foldl_cons];have d:Ys c x (Ux c x out k) (a++[k]):=Qbk hc (hx k (by simp)) h fun j q=>(List.pairwise_append.1 hr).2.2 j q k (by simp);have:=Ti hc b (a++[k]) (Ux c x out k) (by simpa using hr) (fun i hi=>hx i (by simp[hi])) d;simpa using this
theorem Ys.trans{c:Jy}{x:Nat}{a b d:Uw}(h:Ys c x a b)(h':Ys c x b d):Ys c x a d:=
 ⟨h.1.trans h'.1,fun k B=>by obtain⟨j,z,q⟩:=h'.2 k B;obtain⟨i,hi,u⟩:=h.2 j z;exact⟨i,hi,u.trans q⟩⟩
theorem Ys.later{c:Jy}{x x':Nat}{a b:Uw}(h:Ys c x a b)(z:x≤x'):Ys c x' a b:=⟨h.1,fun k u=>by obtain⟨j,q,d⟩:=h.2 k u;exact⟨j,q,d.later z⟩⟩
theorem Ys.snoc{c:Jy}{x:Nat}{a b:Uw}(h:Ys c x a b)(k:Nat×Nat):Ys c x (a++[k]) (b++[k]):=by
 refine⟨h.1.append (List.Sublist.refl _),fun i hi=>?_⟩;rcases Zl.1 hi with hi|hi;·obtain⟨j,q,d⟩:=h.2 i hi;exact⟨j,by simp[q],d⟩
 ·obtain rfl:i=k:=by simpa using hi
  exact⟨i,by simp,Dom.refl c x i⟩
theorem Qp6{c:Jy}(hc:c.f≤c.r){K l:Uw}(hs:Ys c (Ji l) K l)(hr:Ew l)(hl:∀k∈l,k.1≤Ji l)(x y:Nat):
  Ys c (Ji (Dg l x y)) (Qbj c (Ji (Dg l x y)) (K++[(max (min x Qq) (Ji l),min y Xw)])) (Dg l x y):=by
 rw[Of];show Ys c _ _ (l++[(max (min x Qq) (Ji l),min y Xw)]);have u:Ji l≤max (min x Qq) (Ji l):=Nat.le_max_right _ _;generalize max (min x Qq) (Ji l)=x' at u;have h1:Ys c x' (K++[(x',min y Xw)]) (l++[(x',min y Xw)]):=(hs.later u).snoc _;have q:Ew (K++[(x',min y Xw)]):=by
  refine List.pairwise_append.2 ⟨hr.sublist hs.1,by simp,fun j B k d=>?_⟩;obtain rfl:k=_:=by simpa using d
  exact Zp (hl j (hs.1.subset B)) u
 have z:=Ti hc (x:=x') (K++[(x',min y Xw)]) [] [] (by simpa using q) (fun k d=>by
  rcases Zl.1 d with d|d;·exact Zp (hl k (hs.1.subset d)) u
  ·obtain rfl:k=_:=by simpa using d
   exact Zv _) ⟨List.Sublist.refl _,fun k d=>by cases d⟩
 exact Ys.trans (by simpa[Qbj]using z) h1
theorem La{f:Nat×Nat→Nat}{a b:Uw}(hs:a.Sublist b)(c:b≠[])(h:∀k∈b,∃j∈a,f j≤f k):a≠[]∧Xb f a=Xb f b:=by
 have ha:a≠[]:=by
  rintro rfl;cases b with
  |nil=>exact c rfl
  |cons k b=>obtain⟨j,d,_⟩:=h k (by simp);cases d
 refine⟨ha,Nat.le_antisymm ?_ ?_⟩;·refine(U4 c).2 fun k q=>?_;obtain⟨j,d,u⟩:=h k q;exact Zp ((U4 ha).1 (Zv _) j d) u
 ·exact(U4 ha).2 fun k q=>(U4 c).1 (Zv _) k (hs.subset q)
theorem Qmf{c:Jy}{x t:Nat}{a b:Uw}(hs:Ys c x a b)(q:b≠[])(ht:x≤t):Xb (Hg c t) a=Xb (Hg c t) b:=
 (La hs.1 q fun k z=>by obtain⟨j,u,d⟩:=hs.2 k z;exact⟨j,u,(d t ht).1⟩).2
theorem Qi0{c:Jy}{x t:Nat}{a b:Uw}(hs:Ys c x a b)(q:b≠[])(ht:x≤t):Xb (Ug c t) a=Xb (Ug c t) b:=
 (La hs.1 q fun k z=>by obtain⟨j,u,d⟩:=hs.2 k z;exact⟨j,u,(d t ht).2⟩).2
def Eg(c:Jy)(x:Nat)(K:Uw)(y:Nat):Nat:=if Xw<y then Qq else min Qq (K.foldl (fun n k=>max n (Rr c y k)) x)
theorem Qkr{c c':Jy}{K l:Uw}{y:Nat}(h:Uj l)(hl:l≠[])(hs:K.Sublist l)(B:∀t,Ji l≤t→Xb (Hg c' t) K=Xb (Hg c' t) l)(z:K≠[]):Eg c' (Ji l) K y=Kn c' l y:=by
 refine Qd8 h hl ?_ ?_ fun t h1 q=>?_
 ·unfold Eg;have:=h.last;split;·exact this
  ·rw[Nat.le_min];exact⟨this,((Uf K (Ji l)).1 (Zv _)).1⟩
 ·unfold Eg;split;·exact Zv _
  ·exact Nat.min_le_left _ _
 ·have e:rAt c' l t=min Xw (Xb (Hg c' t) K):=by unfold rAt;rw[if_neg hl,Nat.max_eq_left h1,B t h1]
  rw[e,Nat.le_min,U4 z];unfold Eg;by_cases u:Xw<y
  ·rw[if_pos u];constructor;·intro h';omega
   ·intro h';omega
  ·rw[if_neg u];have:min Qq (K.foldl (fun n k=>max n (Rr c' y k)) (Ji l))≤t↔K.foldl (fun n k=>max n (Rr c' y k)) (Ji l)≤t:=by omega
   rw[this,Uf];constructor;·intro⟨_,h'⟩;exact⟨by omega,fun k d=>(Nt q (Zp (h.rise k (hs.subset d)) h1)).1 (h' k d)⟩
   ·intro⟨_,h'⟩;exact⟨h1,fun k d=>(Nt q (Zp (h.rise k (hs.subset d)) h1)).2 (h' k d)⟩
structure Xh where
 c:Jy
 l:Uw
def Xh.new(c:Jy):Xh:=⟨c,[]⟩
def Xh.start(r:Xh)(x y:Nat):Xh:=⟨r.c,Dg r.l x y⟩
def Xh.at(r:Xh)(t:Nat):Nat:=rAt r.c r.l t
def Xh.reach(r:Xh)(y:Nat):Nat:=Kn r.c r.l y
def Xh.elig(r:Xh)(y:Nat):Nat:=if r.c.r<r.c.f then Kn r.c r.l y else Kn ⟨0,0,r.c.r⟩ r.l y
def Xr(len:Int):Nat:=(min (max len 0) 65536).toNat*256
structure Ju where
 run:Xh
 got:Nat
 aL:Bool
 elig:Nat
 due:Nat
def Ju.new(c:Jy):Ju:=⟨.new c,0,false,0,0⟩
def Ju.wake(d:Ju)(now:Nat)(len:Int):Ju:=
 if d.aL then d else
  let r:=d.run.start now d.got
  ⟨r,d.got,true,r.elig d.got,r.reach (min (d.got+Xr len) Xw)⟩
def Ju.serve(d:Ju)(rule:Nat)(len c:Int):Ju:=
 if !d.aL then d else
  let g:=if rule=1 then min (d.got+Xr len) Xw else d.got
  ⟨d.run,g,decide (1≤c),if rule=1 then d.run.elig g else d.elig,d.run.reach (min (g+Xr c) Xw)⟩
def Ju.from_(d:Ju):Nat:=if d.aL then d.elig else Qq
def Ju.dueAt(d:Ju):Nat:=if d.aL then d.due else Qq
abbrev Kg:=Option Xh
def Kg.wake(l:Kg)(now total:Nat):Kg:=l.map fun r=>r.start now total
def Kg.fit(l:Kg)(total:Nat):Nat:=match l with
 |none=>0
 |some r=>r.reach total
structure Jh where
 id:Int
 total:Nat
 v:Nat
 run:Xh
 aL:Bool
structure Jc where
 all:List Jh
 mark:Nat
def Jc.at(f:Jc)(id:Int):Option Jh:=f.all.find? fun m=>decide (m.id=id)
def Jc.set(f:Jc)(m:Jh):Jc:=⟨f.all.map fun x=>if x.id=m.id then m else x,f.mark⟩
def Jc.made(f:Jc)(m:Jh)(v:Nat):Jc:=⟨(f.set {m with v:=v}).all,max f.mark v⟩
def Jc.add(f:Jc)(id:Int)(c:Jy):Jc:=match f.at id with
 |some _=>f
 |none=>⟨f.all++[⟨id,0,0,.new c,false⟩],f.mark⟩
def Jc.drop(f:Jc)(id:Int):Jc:=⟨f.all.filter fun m=>!decide (m.id=id),f.mark⟩
def Jc.least(f:Jc):Nat:=(f.all.filter (·.aL)).foldl (fun n m=>min n m.v) Qq
def Jc.most(f:Jc):Nat:=(f.all.filter (·.aL)).foldl (fun n m=>max n m.v) 0
def Jc.start(f:Jc)(m:Jh):Nat:=if f.most<f.least then max m.v f.mark else max m.v (f.least+(f.most-f.least)/2)
def Jc.wake(f:Jc)(id:Int):Jc:=match f.at id with
 |none=>f
 |some m=>if m.aL then f else
  let v:=f.start m
  f.made {m with run:=m.run.start v m.total,aL:=true} v
def Jc.sleep(f:Jc)(id:Int):Jc:=match f.at id with
 |none=>f
 |some m=>f.set {m with aL:=false}
def Jc.gain(f:Jc)(id:Int)(g:Nat):Jc:=match f.at id with
 |none=>f
 |some m=>
  let m:={m with total:=m.total+min g (Xw-m.total)}
  if m.aL then f.made m (m.run.reach m.total)else f.set m
def Jc.v(f:Jc)(id:Int):Nat:=((f.at id).map (·.v)).getD 0
def Jc.up(f:Jc)(id:Int):Bool:=((f.at id).map (·.aL)).getD false
def Xa(id:Int)(l:List Xu):List Xu:=l.filter fun e=>!decide (e.2.1=id)
def Vf(id:Int)(key value:Nat)(l:List Xu):List Xu:=Un (key,id,value) (Xa id l)
def On(id:Int)(l:List Xu):Option Xu:=l.find? fun e=>decide (e.2.1=id)
def Jt(k:Nat)(l:List Xu):Option (Nat×Int):=low (l.filter fun e=>decide (e.1≤k))
def Xf(v:Nat)(l:List Xu):Option Xu:=l.find? fun e=>decide (e.2.2≤v)
def Ol(l:List Xu):Prop:=(l.map (·.2.1)).Nodup
theorem Qgj{id:Int}{l:List Xu}{e:Xu}(h:Ol l)(z:e∈l)(hi:e.2.1=id):Xa id l=del e.1 id l:=by
 unfold Xa del;refine List.filter_congr fun f hf=>?_;by_cases c:f.2.1=id
 ·have:f=e:=by
   have B:=h;unfold Ol at B;clear h;induction l with
   |nil=>cases hf
   |cons a l I=>
    obtain⟨h1,E⟩:=List.nodup_cons.1 B;rcases Zu.1 hf with u|k
    ·rcases Zu.1 z with q|d;·rw[u,q]
     ·exact(h1 (Z3.2 ⟨e,d,by rw[hi,←c,u]⟩)).elim
    ·rcases Zu.1 z with q|d;·exact(h1 (Z3.2 ⟨f,k,by rw[c,←hi,q]⟩)).elim
     ·exact I d k E
  subst this;simp[c]
 ·simp[c]
theorem M7{id:Int}{l:List Xu}(h:∀e∈l,e.2.1≠id):Xa id l=l:=by refine List.filter_eq_self.2 fun e c=>?_;simp only[Bool.not_eq_true',decide_eq_false_iff_not];exact h e c
theorem Ol.drop{id:Int}{l:List Xu}(h:Ol l):Ol (Xa id l):=List.Pairwise.sublist (List.filter_sublist.map _) h
theorem En(e:Xu):∀l:List Xu,(Un e l).Perm (e::l)
 |[]=>.refl _
 |f::l=>by
  rw[Un];split;·exact .refl _
  ·exact((En e l).cons f).trans (.swap e f l)
theorem Ol.put{id:Int}{key value:Nat}{l:List Xu}(h:Ol l):Ol (Vf id key value l):=by unfold Vf Ol;refine((En (key,id,value) (Xa id l)).map _).nodup_iff.2 ?_;refine List.nodup_cons.2 ⟨?_,h.drop⟩;rintro d;obtain⟨e,c,hi⟩:=Z3.1 d;have:=(List.mem_filter.1 c).2;simp at this;exact this hi
theorem Th{id:Int}{key value:Nat}{l:List Xu}(h:Xd l):Xd (Vf id key value l):=by refine Rt (h.sublist List.filter_sublist) fun f hf c=>?_;have:=(List.mem_filter.1 hf).2;simp at this;exact this c.2
structure Qx where
 id:Int
 par:Int
 leaf:Bool
 aJ:Bool
 total:Nat
 limit:Kg
 mem:Jc
 tree:List Xu
 aM:Nat
abbrev Qe:=List Qx
def Qe.new:Qe:=[⟨0,0,false,false,0,none,⟨[],0⟩,[],0⟩]
def Qe.at(p:Qe)(id:Int):Option Qx:=p.find? fun c=>decide (c.id=id)
def Qe.set(p:Qe)(c:Qx):Qe:=p.map fun x=>if x.id=c.id then c else x
def Qe.fam(p:Qe)(id:Int)(f:Jc→Jc):Qe:=match p.at id with
 |none=>p
 |some c=>match p.at c.par with
  |none=>p
  |some q=>p.set {q with mem:=f q.mem}
def Qe.aL(p:Qe)(id:Int):Bool:=match p.at id with
 |none=>false
 |some c=>decide (0<id)&&(((p.at c.par).map fun q=>q.mem.up id).getD false)
def Qe.v(p:Qe)(id:Int):Nat:=match p.at id with
 |none=>0
 |some c=>if id<1 then 0 else((p.at c.par).map fun q=>q.mem.v id).getD 0
def Qx.fit(c:Qx):Nat:=
 let own:=c.limit.fit c.total
 if c.leaf then own else match low c.tree with
  |none=>Qq
  |some s=>max own s.1
def Qe.note(p:Qe)(id:Int):Qe:=match p.at id with
 |none=>p
 |some c=>match p.at c.par with
  |none=>p
  |some q=>p.set {q with tree:=if p.aL id then Vf id (p.v id) c.fit q.tree else Xa id q.tree}
def Qe.path(p:Qe):Nat→Int→List Int
 |0,_=>[]
 |n+1,id=>if id<1 then[]else match p.at id with
  |none=>[]
  |some c=>id::p.path n c.par
def Qe.up1(now:Nat)(p:Qe)(id:Int):Qe:=match p.at id with
 |none=>p
 |some c=>if p.aL id||!c.aJ then p else(p.fam id fun f=>f.wake id).set {c with limit:=c.limit.wake now c.total}
def Qe.wake(p:Qe)(id:Int)(now:Nat):Qe:=match p.at id with
 |none=>p
 |some c=>if id<1||!c.leaf||!c.aJ then p else
  let l:=p.path 9 id
  l.foldl Qe.note (l.foldl (Qe.up1 now) p)
def Qe.gain1(g:Nat)(p:Qe)(id:Int):Qe:=match p.at id with
 |none=>p
 |some c=>(p.set {c with total:=c.total+min g (Xw-c.total)}).fam id fun f=>f.gain id g
def Qe.rest1(d:Bool)(p:Qe)(id:Int):Qe:=match p.at id with
 |none=>p
 |some c=>Qe.note (if d&&(c.leaf||decide (c.tree.length=0))then p.fam id fun f=>f.sleep id else p) id
def Qe.sent(p:Qe)(id:Int)(g:Nat)(more:Bool):Qe:=match p.at id with
 |none=>p
 |some c=>if id<1||!c.leaf then p else
  let l:=p.path 9 id;let p:=l.foldl (Qe.gain1 g) p
  l.foldl (Qe.rest1 (!more&&p.aL id)) p
def Qe.next(p:Qe)(now:Nat):Nat→Int→Option Int
 |0,_=>none
 |n+1,id=>match p.at id with
  |none=>none
  |some c=>if c.leaf then some id else match Xf now c.tree with
   |none=>none
   |some e=>p.next now n e.2.1
def Qe.tick(p:Qe):Nat:=match p.at 0 with
 |none=>Qq
 |some c=>match low c.tree with
  |none=>Qq
  |some s=>s.1
def Qe.fitAt(p:Qe)(id:Int):Nat:=if p.aL id then((p.at id).map (·.fit)).getD Qq else Qq
def inB(n a b:Int):Bool:=decide (a≤n∧n≤b)
def Yk.named(s:Yk):Bool:=inB s.id 1 65535&&inB s.par 0 65535&&decide (s.id≠s.par)
def Yk.kind(s:Yk):Int:=if s.leaf=false then 4 else if s.real.none=false∧s.share.none=false then 3 else if s.real.none=false then 1 else if s.share.none=false then 2 else 0
theorem Ac(n a b:Int)(w):Cl 215 #[.int .i64 n,.int .i64 a,.int .i64 b] w fun e w'=>e=.returned (.bool (inB n a b))∧w=w':=by
 unfold inB;by_cases h1:a≤n
 ·by_cases c:n≤b
  ·have d:decide (a≤n∧n≤b)=true:=by simp[h1,c]
   rw[d];go_enter func215,ntmps215;go_wp2;go_ret;exact⟨rfl,rfl⟩
  ·have d:decide (a≤n∧n≤b)=false:=by simp[c]
   rw[d];have c:b<n:=by omega
   go_enter func215,ntmps215;go_wp2;go_ret;exact⟨rfl,rfl⟩
 ·have d:decide (a≤n∧n≤b)=false:=by simp[h1]
  rw[d];have h1:n<a:=by omega
  go_enter func215,ntmps215;go_wp2;go_ret;exact⟨rfl,rfl⟩
theorem Qu5(a b:Int):(a != b)=decide (a≠b):=by by_cases h:a=b<;>simp[h]
theorem Qlf(s:Yk)(w):Cl 179 #[.agg (Z4 s.leaf s)] w fun e w'=>e=.returned (.bool s.named)∧Qc Qb w w':=by
 have c:=O (Ac s.id 1 65535);have d:=O (Ac s.par 0 65535);have hn:s.named=(inB s.id 1 65535&&inB s.par 0 65535&&(s.id != s.par)):=by rw[Qu5];rfl
 generalize inB s.id 1 65535=x at c hn;generalize inB s.par 0 65535=y at d hn;rw[hn];clear hn;cases x with
 |false=> go_enter func179,ntmps179;go_wp2_with fail;refine Zz (c.o _) ?_;rintro w1 rfl;go_wp2;go_ret;refine⟨rfl,?_⟩;(repeat' (first|(with_reducible first|exact Zg _ _|assumption|refine Zh ?_ _|refine Zi ?_ _|refine Zj ?_|refine Zk ?_ _ ?_|(apply Or.inl;rfl))|(apply Or.inl;simp;done)|(apply Or.inr;simp;first|done|omega)))
 |true=>
  cases y with
  |false=> go_enter func179,ntmps179;go_wp2_with fail;refine Zz (c.o _) ?_;rintro w1 rfl;go_wp2_with fail;refine Zz (d.o _) ?_;rintro w1 rfl;go_wp2;go_ret;refine⟨rfl,?_⟩;(repeat' (first|(with_reducible first|exact Zg _ _|assumption|refine Zh ?_ _|refine Zi ?_ _|refine Zj ?_|refine Zk ?_ _ ?_|(apply Or.inl;rfl))|(apply Or.inl;simp;done)|(apply Or.inr;simp;first|done|omega)))
  |true=> go_enter func179,ntmps179;go_wp2_with fail;refine Zz (c.o _) ?_;rintro w1 rfl;go_wp2_with fail;refine Zz (d.o _) ?_;rintro w1 rfl;go_wp2;go_ret;refine⟨by simp,?_⟩;(repeat' (first|(with_reducible first|exact Zg _ _|assumption|refine Zh ?_ _|refine Zi ?_ _|refine Zj ?_|refine Zk ?_ _ ?_|(apply Or.inl;rfl))|(apply Or.inl;simp;done)|(apply Or.inr;simp;first|done|omega)))
end Go.Proofs.YtnnhmpehkbihnaaGreat
