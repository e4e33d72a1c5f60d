/- A part of the proof: no condition. -/
import Derived.Test.YtnnhmpehkbihnaaGreatPs01
import Derived.Laws.Externs
import Derived.Deep.RegionHeld3
import Derived.Maps.Own
import Derived.Maps.RangeRun
namespace Go.Proofs.YtnnhmpehkbihnaaGreat
set_option linter.unusedVariables false
set_option maxRecDepth 100000
set_option maxHeartbeats 4000000
open Go.RowKit
open Go.Proofs.Tryz
theorem Qcs(x y c s d:Int)(u:0≤x)(z:0≤y)(k:0≤c)(hc:c≤1)(hs:(x+y+c)%18446744073709551616=s)(q:(x+y+c)/18446744073709551616=d)(w):
  (callFunc 264 #[.int .u64 x,.int .u64 y,.int .u64 c]).run prog w=.ok (.value (.tuple #[.int .u64 s,.int .u64 d])) w:=by
 rw[run_callFunc_extern func264 (by kernel_rfl) (by kernel_rfl) (by kernel_rfl) (e:=add64Entry) (by kernel_rfl),run_add64 x y c u z k hc,hs,q];rfl
theorem Qjl(h1 l1 c l2 s d h:Int)(w)(b1:0≤h1)(b2:0≤l1)(k:0≤c)(q:0≤l2)(u:0≤d)(z:d≤1)
  (hs:(l1+l2+0)%18446744073709551616=s)(B:(l1+l2+0)/18446744073709551616=d)(E:(h1+c+d)%18446744073709551616=h)(h0:(h1+c+d)/18446744073709551616=0):
  Cl 256 #[.agg #[.int .u64 h1,.int .u64 l1],.agg #[.int .u64 c,.int .u64 l2]] w fun e w'=>e=.returned (.tuple #[.agg #[.int .u64 h,.int .u64 s],.int .i64 0])∧Qc Qb w w':=by
 have I:=O (fun w=>Qcs l1 l2 0 s d b2 q (by omega) (by omega) hs B w);have J:=O (fun w=>Qcs h1 c d h 0 b1 k u z E h0 w);clear b1 b2 k q u z hs B E h0;go_enter func256,ntmps256;go_wp2_with (first|simp only[I.o]|simp only[J.o]);refine bodyPost_ret (v:=.tuple #[.agg #[.int .u64 h,.int .u64 s],.int .i64 0]) (by simp[results,Tryz.results256,go_sem]) rfl ⟨rfl,?_⟩;exact Zh (Zh (Zh (Zg _ _) _) _) _
theorem Fg(m n:Nat)(w)(h:m+n<340282366920938463463374607431768211456):
  Cl 256 #[.agg #[.int .u64 ((m/18446744073709551616:Nat):Int),.int .u64 ((m%18446744073709551616:Nat):Int)],.agg #[.int .u64 ((n/18446744073709551616:Nat):Int),.int .u64 ((n%18446744073709551616:Nat):Int)]] w
   fun e w'=>e=.returned (.tuple #[.agg #[.int .u64 (((m+n)/18446744073709551616:Nat):Int),.int .u64 (((m+n)%18446744073709551616:Nat):Int)],.int .i64 0])∧Qc Qb w w':=
 Qjl _ _ _ _ _ ((((m%18446744073709551616)+(n%18446744073709551616))/18446744073709551616:Nat):Int) _ w (by omega) (by omega) (by omega) (by omega) (by omega) (by omega) (by omega) (by omega) (by omega) (by omega)
structure Jy where
 f:Nat
 l:Nat
 r:Nat
def Jy.cells(c:Jy):List Value:=[.int .u64 c.f,.int .u64 c.l,.int .u64 c.r]
theorem Jy.aF(c:Jy):c.cells.length=3:=rfl
def Jy.zero:Jy:=⟨0,0,0⟩
structure Yk where
 id:Int
 par:Int
 leaf:Bool
 real:Jy
 share:Jy
 aN:Jy
 pk:Int
 bt:Int
abbrev Z4(b:Bool)(s:Yk):Array Value:=#[.int .i64 s.id,.int .i64 s.par,.bool b,.int .u64 s.real.f,.int .u64 s.real.l,.int .u64 s.real.r,.int .u64 s.share.f,.int .u64 s.share.l,.int .u64 s.share.r,.int .u64 s.aN.f,.int .u64 s.aN.l,.int .u64 s.aN.r,.int .i64 s.pk,.int .i64 s.bt]
abbrev Z5:Array Value:=#[.int .i64 0,.int .i64 0,.bool false,.int .u64 0,.int .u64 0,.int .u64 0,.int .u64 0,.int .u64 0,.int .u64 0,.int .u64 0,.int .u64 0,.int .u64 0,.int .i64 0,.int .i64 0]
abbrev Z6:Array Value:=#[.int .i64 0,.int .i64 0,.bool false,.int .u64 0,.int .u64 0,.int .u64 0,.int .u64 0,.int .u64 0,.int .u64 0,.int .u64 0,.int .u64 0,.int .u64 0,.int .i64 0,.int .i64 0,.int .i64 0]
structure Jy.May(c:Jy):Prop where
 hf:c.f≤1048576
 hr:c.r≤1048576
 hl:c.l≤1099511627776
 h0:c.l=0→c.f=0
 h1:c.l≠0→c.f≠c.r
instance(c:Jy):Decidable c.May:=
 if h:c.f≤1048576∧c.r≤1048576∧c.l≤1099511627776∧(c.l=0→c.f=0)∧(c.l≠0→c.f≠c.r)then .isTrue ⟨h.1,h.2.1,h.2.2.1,h.2.2.2.1,h.2.2.2.2⟩else .isFalse fun⟨a,b,c,d,e⟩=>h ⟨a,b,c,d,e⟩
theorem Ea{c:Jy}(h:¬c.May):decide c.May=false:=by simpa using h
theorem Px{c:Jy}(h:c.May):decide c.May=true:=by simpa using h
theorem K8(c:Jy)(w):
  Cl 187 #[.agg #[.int .u64 c.f,.int .u64 c.l,.int .u64 c.r]] w fun e w'=>e=.returned (.bool (decide c.May))∧Qc Qb w w':=by
 obtain⟨f,l,r⟩:=c;dsimp only;by_cases h1:f≤1048576
 ·have B:decide ((1048576:Int)<(f:Int))=false:=by simp;omega
  by_cases k:r≤1048576
  ·have E:decide ((1048576:Int)<(r:Int))=false:=by simp;omega
   by_cases q:l≤1099511627776
   ·have I:decide ((1099511627776:Int)<(l:Int))=false:=by simp;omega
    by_cases u:l=0
    ·subst u;by_cases d:f=0;·subst d;rw[Px (c:=⟨0,0,r⟩) ⟨h1,k,q,fun _=>rfl,fun h=>(h rfl).elim⟩];go_enter func187,ntmps187;go_wp2;go_ret;refine⟨rfl,?_⟩;exact Zh (Zg _ _) _
     ·have z:((f:Int)==0)=false:=by simp;omega
      rw[Ea (c:=⟨f,0,r⟩) (fun h=>d (h.h0 rfl))];go_enter func187,ntmps187;go_wp2;go_ret;refine⟨rfl,?_⟩;exact Zh (Zg _ _) _
    ·have J:((l:Int)==0)=false:=by simp;omega
     by_cases d:f=r
     ·subst d;have z:((f:Int) !=(f:Int))=false:=by simp
      rw[Ea (c:=⟨f,l,f⟩) (fun h=>h.h1 u rfl)];go_enter func187,ntmps187;go_wp2;go_ret;refine⟨rfl,?_⟩;exact Zh (Zg _ _) _
     ·have z:((f:Int) !=(r:Int))=true:=by simp;omega
      rw[Px (c:=⟨f,l,r⟩) ⟨h1,k,q,fun h=>(u h).elim,fun _=>d⟩];go_enter func187,ntmps187;go_wp2;go_ret;refine⟨rfl,?_⟩;exact Zh (Zg _ _) _
   ·have I:decide ((1099511627776:Int)<(l:Int))=true:=by simp;omega
    rw[Ea (c:=⟨f,l,r⟩) (fun h=>q h.hl)];go_enter func187,ntmps187;go_wp2;go_ret;refine⟨rfl,?_⟩;exact Zh (Zg _ _) _
  ·have E:decide ((1048576:Int)<(r:Int))=true:=by simp;omega
   rw[Ea (c:=⟨f,l,r⟩) (fun h=>k h.hr)];go_enter func187,ntmps187;go_wp2;go_ret;refine⟨rfl,?_⟩;exact Zh (Zg _ _) _
 ·have B:decide ((1048576:Int)<(f:Int))=true:=by simp;omega
  rw[Ea (c:=⟨f,l,r⟩) (fun h=>h1 h.hf)];go_enter func187,ntmps187;go_wp2;go_ret;refine⟨rfl,?_⟩;exact Zh (Zg _ _) _
def Jy.none(c:Jy):Bool:=c.f==0&&(c.l==0&&c.r==0)
theorem Kz(c:Jy)(w):
  Cl 128 #[.agg #[.int .u64 c.f,.int .u64 c.l,.int .u64 c.r]] w fun e w'=>e=.returned (.bool c.none)∧Qc Qb w w':=by
 obtain⟨f,l,r⟩:=c;have e1:Jy.none ⟨f,l,r⟩=((f:Int)==0&&((l:Int)==0&&(r:Int)==0)):=by
  unfold Jy.none;have g:∀n:Nat,((n:Int)==0)=(n==0):=fun n=>by
   cases n with
   |zero=>rfl
   |succ n=>simp;omega
  rw[g,g,g]
 rw[e1];dsimp only;by_cases h1:f=0
 ·subst h1;by_cases u:l=0
  ·subst u;by_cases z:r=0;·subst z;go_enter func128,ntmps128;go_wp2;go_ret;refine⟨rfl,?_⟩;exact Zh (Zg _ _) _
   ·have q:((r:Int)==0)=false:=by simp;omega
    rw[q];go_enter func128,ntmps128;go_wp2;go_ret;refine⟨rfl,?_⟩;exact Zh (Zg _ _) _
  ·have k:((l:Int)==0)=false:=by simp;omega
   rw[k];go_enter func128,ntmps128;go_wp2;go_ret;refine⟨rfl,?_⟩;exact Zh (Zg _ _) _
 ·have d:((f:Int)==0)=false:=by simp;omega
  rw[d];go_enter func128,ntmps128;go_wp2;go_ret;refine⟨rfl,?_⟩;exact Zh (Zg _ _) _
def Jy.at(c:Jy)(t:Nat):Nat:=c.f*min t c.l+c.r*(t-min t c.l)
theorem Jy.at_le(c:Jy)(h:c.May)(t:Nat)(ht:t<18446744073709551616):c.f*min t c.l≤1152921504606846976∧c.r*(t-min t c.l)<19342813113834066795298816:=by have h1:=h.hf;have d:=h.hr;have k:=h.hl;refine⟨Zp (Nat.mul_le_mul h1 (Zp (Nat.min_le_right _ _) k)) (by decide),?_⟩;exact Nat.lt_of_le_of_lt (Nat.mul_le_mul d (show t-min t c.l≤18446744073709551615 by omega)) (by decide)
theorem Qc.same{w w'}(hc:Qc Qb w w'){ad:Addr}{u:Value}(h:w.cell? ad=some u):w'.cell? ad=some u:=(hc.cell (Qeu h) (fun h=>h)).trans h
def Jy.leAt(a b:Jy)(t:Nat):Bool:=decide (a.at t≤b.at t)
theorem Quy(m n:Nat):decide ((0:Int)<Io m n)=!decide (m≤n):=by
 unfold Io;split;·simp;omega
 ·split;·simp;omega
  ·simp;omega
abbrev Xw:Nat:=4611686018427387904
abbrev Qq:Nat:=9223372036854775808
def Tw(a b:Nat):Nat:=(a+(b-1))/b
theorem D9{a b n:Nat}(c:0<b):Tw a b≤n↔a≤b*n:=by unfold Tw;rw[Nat.div_le_iff_le_mul_add_pred c];omega
def Jy.reach(c:Jy)(y:Nat):Option Nat:=
 if y=0 then some 0 else if y≤c.f*c.l then some (Tw y c.f)else if c.r=0 then Option.none else some (c.l+Tw (y-c.f*c.l) c.r)
theorem Jy.reach_le(c:Jy)(y t:Nat):(∃n,c.reach y=some n∧n≤t)↔y≤c.at t:=by
 have k:c.at t=c.f*min t c.l+c.r*(t-min t c.l):=rfl;unfold Jy.reach;by_cases h0:y=0;·simp[h0]
 ·rw[if_neg h0];by_cases h1:y≤c.f*c.l
  ·rw[if_pos h1];have hf:0<c.f:=Nat.pos_of_ne_zero fun h=>by rw[h]at h1;simp at h1;exact h0 h1
   simp only[Option.some.injEq,exists_eq_left'];rw[D9 hf];rw[k];by_cases ht:t≤c.l;·rw[Nat.min_eq_left ht,Nat.sub_self,Nat.mul_zero,Nat.add_zero]
   ·have d:c.l≤t:=by omega
    rw[Nat.min_eq_right d];have:=Nat.mul_le_mul_left c.f d;constructor;·intro _;omega
    ·intro _;omega
  ·rw[if_neg h1];by_cases hr:c.r=0;·rw[if_pos hr];simp only[reduceCtorEq,false_and,exists_false,false_iff];rw[k,hr,Nat.zero_mul,Nat.add_zero];have:=Nat.mul_le_mul_left c.f (Nat.min_le_right t c.l);omega
   ·rw[if_neg hr];have q:0<c.r:=Nat.pos_of_ne_zero hr;simp only[Option.some.injEq,exists_eq_left'];rw[k];by_cases ht:t≤c.l
    ·rw[Nat.min_eq_left ht,Nat.sub_self,Nat.mul_zero,Nat.add_zero];have u:=Nat.mul_le_mul_left c.f ht;have z:0<Tw (y-c.f*c.l) c.r:=by
      rcases Nat.eq_zero_or_pos (Tw (y-c.f*c.l) c.r)with h|h;·have:=(D9 q (a:=y-c.f*c.l) (n:=0)).1 (by omega);omega
      ·exact h
     omega
    ·have d:c.l≤t:=by omega
     rw[Nat.min_eq_right d];have:=D9 q (a:=y-c.f*c.l) (n:=t-c.l);omega
abbrev Uw:=List (Nat×Nat)
def Ji(l:Uw):Nat:=match l.getLast? with
 |none=>0
 |some k=>k.1
def Dg(l:Uw)(x y:Nat):Uw:=l++[(max (min x Qq) (Ji l),min y Xw)]
theorem Of(l:Uw)(x y:Nat):Ji (Dg l x y)=max (min x Qq) (Ji l):=by simp[Ji,Dg]
structure Uj(l:Uw):Prop where
 rise:∀k∈l,k.1≤Ji l
 last:Ji l≤Qq
 cap:∀k∈l,k.2≤Xw
theorem Uj.nil:Uj []:=⟨nofun,Nat.zero_le _,nofun⟩
theorem Uj.start{l:Uw}(h:Uj l)(x y:Nat):Uj (Dg l x y):=by
 refine⟨fun k c=>?_,?_,fun k c=>?_⟩
 ·rw[Of];rcases Zl.1 c with c|c;·exact Zp (h.rise k c) (Nat.le_max_right _ _)
  ·obtain rfl:k=_:=by simpa using c
   exact Zv _
 ·rw[Of];have:=h.last;omega
 ·rcases Zl.1 c with c|c;·exact h.cap k c
  ·obtain rfl:k=_:=by simpa using c
   exact Nat.min_le_right _ _
def Xb(f:Nat×Nat→Nat):Uw→Nat
 |[]=>0
 |[k]=>f k
 |k::l=>min (f k) (Xb f l)
theorem U4{f:Nat×Nat→Nat}{y:Nat}:∀{l:Uw},l≠[]→(y≤Xb f l↔∀k∈l,y≤f k)
 |[k],_=>by simp[Xb]
 |k::j::l,_=>by
  have c:=U4 (f:=f) (y:=y) (l:=j::l) nofun;rw[Xb,Nat.le_min,c];·simp
  ·exact nofun
def Hg(c:Jy)(t:Nat)(k:Nat×Nat):Nat:=k.2+c.at (t-k.1)
def rAt(c:Jy)(l:Uw)(t:Nat):Nat:=if l=[]then 0 else min Xw (Xb (Hg c (max t (Ji l))) l)
def Rr(c:Jy)(y:Nat)(k:Nat×Nat):Nat:=match c.reach (y-k.2)with
 |none=>Qq
 |some n=>k.1+n
def Kn(c:Jy)(l:Uw)(y:Nat):Nat:=
 if l=[]then(if y=0 then 0 else Qq)else if Xw<y then Qq else min Qq (l.foldl (fun n k=>max n (Rr c y k)) (Ji l))
theorem Uf{f:Nat×Nat→Nat}{t:Nat}:∀(l:Uw)(n:Nat),l.foldl (fun n k=>max n (f k)) n≤t↔n≤t∧∀k∈l,f k≤t
 |[],n=>by simp
 |k::l,n=>by rw[List.foldl_cons,Uf l];simp only[Zu,forall_eq_or_imp,Nat.max_le,and_assoc]
theorem Nt{c:Jy}{y t:Nat}{k:Nat×Nat}(ht:t<Qq)(d:k.1≤t):Rr c y k≤t↔y≤Hg c t k:=by
 unfold Rr Hg;have:=c.reach_le (y-k.2) (t-k.1);cases h:c.reach (y-k.2)with
 |none=>
  rw[h]at this;simp only[reduceCtorEq,false_and,exists_false,false_iff]at this;constructor;·intro h';dsimp only at h';omega
  ·intro h';omega
 |some n=> rw[h]at this;simp only[Option.some.injEq,exists_eq_left']at this;dsimp only;omega
theorem Qd9{c:Jy}{l:Uw}{y t:Nat}(h:Uj l)(hl:l≠[])(ht:t<Qq)(h1:Ji l≤t):Kn c l y≤t↔y≤rAt c l t:=by
 unfold Kn rAt;rw[if_neg hl,if_neg hl,Nat.max_eq_left h1,Nat.le_min,U4 hl];by_cases q:Xw<y
 ·rw[if_pos q];constructor;·intro h';omega
  ·intro h';omega
 ·rw[if_neg q];have:min Qq (l.foldl (fun n k=>max n (Rr c y k)) (Ji l))≤t↔l.foldl (fun n k=>max n (Rr c y k)) (Ji l)≤t:=by omega
  rw[this,Uf];constructor;·intro⟨_,h'⟩;exact⟨by omega,fun k d=>(Nt ht (Zp (h.rise k d) h1)).1 (h' k d)⟩
  ·intro⟨_,h'⟩;exact⟨h1,fun k d=>(Nt ht (Zp (h.rise k d) h1)).2 (h' k d)⟩
theorem Pb(c:Jy)(l:Uw)(y:Nat):Kn c l y≤Qq:=by
 unfold Kn;split;·split<;>simp[Qq]
 ·split;·exact Zv _
  ·exact Nat.min_le_left _ _
theorem Qip{c:Jy}{l:Uw}{y:Nat}(h:Uj l):Ji l≤Kn c l y:=by
 unfold Kn;have d:=h.last;split;·rename_i hl;subst hl;exact Nat.zero_le _
 ·split;·exact d
  ·rw[Nat.le_min];exact⟨d,((Uf l (Ji l)).1 (Zv _)).1⟩
theorem Vb(f:Nat×Nat→Nat)(k j:Nat×Nat)(l:Uw):Xb f (k::j::l)=min (f k) (Xb f (j::l)):=rfl
theorem F4{f:Nat×Nat→Nat}(d:Nat):∀{l:Uw},l≠[]→Xb (fun k=>f k+d) l=Xb f l+d
 |[k],_=>rfl
 |k::j::l,_=>by have c:=F4 (f:=f) d (l:=j::l) nofun;rw[Vb,c,Vb];omega
theorem Nn{f:Nat×Nat→Nat}(k:Nat×Nat):∀{l:Uw},l≠[]→Xb f (l++[k])=min (Xb f l) (f k)
 |[j],_=>rfl
 |j::i::l,_=>by have c:=Nn (f:=f) k (l:=i::l) nofun;rw[List.cons_append]at c;rw[List.cons_append,List.cons_append,Vb,c,Vb];omega
theorem Lt{f g:Nat×Nat→Nat}:∀{l:Uw},(∀k∈l,f k=g k)→Xb f l=Xb g l
 |[],_=>rfl
 |[k],h=>h k (by simp)
 |k::j::l,h=>by rw[Vb,Vb,h k (by simp),Lt (l:=j::l) (fun i hi=>h i (by simp[hi]))]
theorem F6{f g:Nat×Nat→Nat}:∀{l:Uw},l≠[]→Xb (fun k=>min (f k) (g k)) l=min (Xb f l) (Xb g l)
 |[k],_=>rfl
 |k::j::l,_=>by have c:=F6 (f:=f) (g:=g) (l:=j::l) nofun;rw[Vb,c,Vb,Vb];omega
def Vk(s o:Nat)(l:Uw):Nat:=min Xw (Xb (fun k=>k.2+o+s*(Ji l-k.1)) l)
def Hb(h s n:Nat):Nat:=min Xw (h+min Xw (s*n))
theorem Qlw(l:Uw)(k:Nat×Nat):Ji (l++[k])=k.1:=by simp[Ji]
theorem Qai{s o t:Nat}{l:Uw}(h:Uj l)(hl:l≠[])(ht:Ji l≤t):Xb (fun k=>k.2+o+s*(t-k.1)) l=Xb (fun k=>k.2+o+s*(Ji l-k.1)) l+s*(t-Ji l):=by
 rw[←F4 _ hl];refine Lt fun k c=>?_;have:=h.rise k c;have e:t-k.1=(Ji l-k.1)+(t-Ji l):=by omega
 rw[e,Nat.mul_add];omega
theorem F9{s o x y:Nat}{l:Uw}(h:Uj l)(hl:l≠[])(c:Ji l≤x):
  Vk s o (l++[(x,y)])=min (Hb (Vk s o l) s (x-Ji l)) (min Xw (y+o)):=by
 unfold Vk Hb;rw[Qlw,Nn _ hl,Qai h hl c];simp only[Nat.sub_self,Nat.mul_zero,Nat.add_zero];omega
theorem Qdm(s o x y:Nat):Vk s o [(x,y)]=min Xw (y+o):=by simp[Vk,Xb,Ji]
theorem Qdk{s o t:Nat}{l:Uw}(h:Uj l)(hl:l≠[])(ht:Ji l≤t):Hb (Vk s o l) s (t-Ji l)=min Xw (Xb (fun k=>k.2+o+s*(t-k.1)) l):=by unfold Vk Hb;rw[Qai h hl ht];omega
theorem Jy.at_bent{c:Jy}(h:c.r<c.f)(t:Nat):c.at t=min (c.f*t) ((c.f-c.r)*c.l+c.r*t):=by
 have q:c.at t=c.f*min t c.l+c.r*(t-min t c.l):=rfl;obtain⟨d,u⟩:∃d,c.f=c.r+d:=⟨c.f-c.r,by omega⟩;rw[q,u,Nat.add_sub_cancel_left];by_cases ht:t≤c.l;·rw[Nat.min_eq_left ht,Nat.sub_self,Nat.mul_zero,Nat.add_zero];have:=Nat.mul_le_mul_left d ht;rw[Nat.add_mul];omega
 ·have k:c.l≤t:=by omega
  rw[Nat.min_eq_right k];have:=Nat.mul_le_mul_left d k;have e:c.r*t=c.r*c.l+c.r*(t-c.l):=by rw[←Nat.mul_add];congr 1;omega
  rw[Nat.add_mul,Nat.add_mul];omega
theorem Qte{c:Jy}{l:Uw}{t:Nat}(hc:c.r<c.f)(h:Uj l)(hl:l≠[])(ht:Ji l≤t):
  rAt c l t=min (Hb (Vk c.f 0 l) c.f (t-Ji l)) (Hb (Vk c.r ((c.f-c.r)*c.l) l) c.r (t-Ji l)):=by
 rw[Qdk h hl ht,Qdk h hl ht];unfold rAt;rw[if_neg hl,Nat.max_eq_left ht];have e:Xb (Hg c t) l=min (Xb (fun k=>k.2+0+c.f*(t-k.1)) l) (Xb (fun k=>k.2+(c.f-c.r)*c.l+c.r*(t-k.1)) l):=by rw[←F6 hl];refine Lt fun k d=>?_;unfold Hg;rw[Jy.at_bent hc];omega
 rw[e];omega
def Y5(h s y:Nat):Nat:=if y≤h then 0 else if s=0∨Xw<y then Qq else Tw (y-h) s
theorem Ia{h s y n:Nat}(hn:n<Qq):Y5 h s y≤n↔y≤h∨y≤Hb h s n:=by
 unfold Y5 Hb;by_cases h0:y≤h;·simp[h0]
 ·rw[if_neg h0];by_cases h1:s=0∨Xw<y
  ·rw[if_pos h1];constructor;·intro h';omega
   ·intro h';rcases h1 with rfl|h1;·simp at h';omega
    ·omega
  ·rw[if_neg h1,D9 (by omega)];omega
theorem Qd8{c:Jy}{l:Uw}{y R:Nat}(h:Uj l)(hl:l≠[])(h1:Ji l≤R)(q:R≤Qq)(d:∀t,Ji l≤t→t<Qq→(R≤t↔y≤rAt c l t)):R=Kn c l y:=by
 have u:=Pb c l y;have k:=Qip (c:=c) (y:=y) h;refine Nat.le_antisymm ?_ ?_
 ·by_cases hn:Kn c l y=Qq;·omega
  ·exact(d _ k (by omega)).2 ((Qd9 h hl (by omega) k).1 (Zv _))
 ·by_cases hn:R=Qq;·omega
  ·exact(Qd9 h hl (by omega) h1).2 ((d R h1 (by omega)).1 (Zv _))
def O6(x n:Nat):Nat:=if Qq-x≤n then Qq else x+n
theorem Qj0{c:Jy}{l:Uw}{y:Nat}(hc:c.r<c.f)(h:Uj l)(hl:l≠[]):
  O6 (Ji l) (max (Y5 (Vk c.f 0 l) c.f y) (Y5 (Vk c.r ((c.f-c.r)*c.l) l) c.r y))=Kn c l y:=by
 have d:=h.last;refine Qd8 h hl ?_ ?_ fun t h1 B=>?_;·unfold O6;split<;>omega
 ·unfold O6;split<;>omega
 ·rw[Qte hc h hl h1,Nat.le_min];have u:Vk c.f 0 l≤Hb (Vk c.f 0 l) c.f (t-Ji l):=by unfold Hb Vk;omega
  have z:Vk c.r ((c.f-c.r)*c.l) l≤Hb (Vk c.r ((c.f-c.r)*c.l) l) c.r (t-Ji l):=by unfold Hb Vk;omega
  have e1:=Ia (h:=Vk c.f 0 l) (s:=c.f) (y:=y) (n:=t-Ji l) (by omega);have k:=Ia (h:=Vk c.r ((c.f-c.r)*c.l) l) (s:=c.r) (y:=y) (n:=t-Ji l) (by omega);have q:O6 (Ji l) (max (Y5 (Vk c.f 0 l) c.f y) (Y5 (Vk c.r ((c.f-c.r)*c.l) l) c.r y))≤t↔Y5 (Vk c.f 0 l) c.f y≤t-Ji l∧Y5 (Vk c.r ((c.f-c.r)*c.l) l) c.r y≤t-Ji l:=by generalize Y5 (Vk c.f 0 l) c.f y=a;generalize Y5 (Vk c.r ((c.f-c.r)*c.l) l) c.r y=b;unfold O6;split<;>omega
  rw[q,e1,k];omega
def Ug(c:Jy)(t:Nat)(k:Nat×Nat):Nat:=k.2+c.r*(t-k.1)
theorem Jy.at_sag{c:Jy}(h:c.f≤c.r)(t:Nat):c.at t+(c.r-c.f)*min t c.l=c.r*t:=by have k:c.at t=c.f*min t c.l+c.r*(t-min t c.l):=rfl;obtain⟨d,u⟩:∃d,c.r=c.f+d:=⟨c.r-c.f,by omega⟩;rw[k,u,Nat.add_sub_cancel_left];have z:=Nat.min_le_left t c.l;generalize min t c.l=m at z;obtain⟨q,rfl⟩:∃q,t=m+q:=⟨t-m,by omega⟩;rw[Nat.add_sub_cancel_left,Nat.mul_add,Nat.add_mul,Nat.add_mul];omega
def D6(c:Jy)(x:Nat)(j k:Nat×Nat):Prop:=∀t,x≤t→Hg c t j≤Hg c t k∧Ug c t j≤Ug c t k
theorem D6.refl(c:Jy)(x:Nat)(k:Nat×Nat):D6 c x k k:=fun t _=>⟨Zv _,Zv _⟩
theorem D6.trans{c:Jy}{x:Nat}{i j k:Nat×Nat}(h:D6 c x i j)(h':D6 c x j k):D6 c x i k:=fun t ht=>⟨Zp (h t ht).1 (h' t ht).1,Zp (h t ht).2 (h' t ht).2⟩
theorem D6.later{c:Jy}{x x':Nat}{j k:Nat×Nat}(h:D6 c x j k)(d:x≤x'):D6 c x' j k:=fun t ht=>h t (Zp d ht)
theorem Em{c:Jy}(h:c.f≤c.r)(t:Nat)(k:Nat×Nat):Hg c t k+(c.r-c.f)*min (t-k.1) c.l=Ug c t k:=by have:=Jy.at_sag h (t-k.1);unfold Hg Ug;omega
theorem Qti{c:Jy}(h:c.f≤c.r){x:Nat}{j k:Nat×Nat}(d:j.1≤k.1)(U:k.1≤x)(R:Hg c x k≤Hg c x j):D6 c x k j:=by
 intro t ht;have e1:=Em h x j;have B:=Em h x k;have E:=Em h t j;have I:=Em h t k;have l1:Ug c t j=Ug c x j+c.r*(t-x):=by
  unfold Ug;have:t-j.1=(x-j.1)+(t-x):=by omega
  rw[this,Nat.mul_add];omega
 have l2:Ug c t k=Ug c x k+c.r*(t-x):=by
  unfold Ug;have:t-k.1=(x-k.1)+(t-x):=by omega
  rw[this,Nat.mul_add];omega
 have J:(c.r-c.f)*min (t-j.1) c.l+(c.r-c.f)*min (x-k.1) c.l≤(c.r-c.f)*min (x-j.1) c.l+(c.r-c.f)*min (t-k.1) c.l:=by rw[←Nat.mul_add,←Nat.mul_add];refine Nat.mul_le_mul_left _ ?_;omega
 have K:(c.r-c.f)*min (x-k.1) c.l≤(c.r-c.f)*min (x-j.1) c.l:=Nat.mul_le_mul_left _ (by omega);generalize(c.r-c.f)*min (t-j.1) c.l=a1 at*;generalize(c.r-c.f)*min (x-k.1) c.l=q at*;generalize(c.r-c.f)*min (x-j.1) c.l=u at*;generalize(c.r-c.f)*min (t-k.1) c.l=z at*;omega
theorem Qq9{c:Jy}(h:c.f≤c.r){x:Nat}{j k:Nat×Nat}(d:j.1≤k.1)(E:k.1≤x)(B:Ug c x j≤Ug c x k):D6 c x j k:=by
 intro t ht;have q:=Em h t j;have u:=Em h t k;have l1:Ug c t j=Ug c x j+c.r*(t-x):=by
  unfold Ug;have:t-j.1=(x-j.1)+(t-x):=by omega
  rw[this,Nat.mul_add];omega
 have l2:Ug c t k=Ug c x k+c.r*(t-x):=by
  unfold Ug;have:t-k.1=(x-k.1)+(t-x):=by omega
  rw[this,Nat.mul_add];omega
 have z:(c.r-c.f)*min (t-k.1) c.l≤(c.r-c.f)*min (t-j.1) c.l:=Nat.mul_le_mul_left _ (by omega);omega
def U8(c:Jy)(x:Nat)(k:Nat×Nat):Nat→Uw→Uw
 |0,out=>out
 |n+1,out=>match out.getLast? with
  |none=>out
  |some j=>if Hg c x k≤Hg c x j then U8 c x k n out.dropLast else out
def Ux(c:Jy)(x:Nat)(out:Uw)(k:Nat×Nat):Uw:=
 let o:=U8 c x k out.length out
 match o.getLast? with
 |none=>o++[k]
 |some j=>if Ug c x j≤Ug c x k then o else o++[k]
def Qbj(c:Jy)(x:Nat)(l:Uw):Uw:=l.foldl (Ux c x) []
def Ys(c:Jy)(x:Nat)(out l:Uw):Prop:=out.Sublist l∧∀k∈l,∃j∈out,D6 c x j k
theorem getLast?_mem{l:Uw}{k:Nat×Nat}(h:l.getLast? =some k):l=l.dropLast++[k]:=by obtain⟨c,rfl⟩:=List.getLast?_eq_some_iff.1 h;simp
theorem Tj{c:Jy}(hc:c.f≤c.r){x:Nat}{k:Nat×Nat}(q:k.1≤x):∀(n:Nat)(out:Uw),(∀j∈out,j.1≤k.1)→
  (U8 c x k n out).Sublist out∧∀j∈out,(∃i∈U8 c x k n out,D6 c x i j)∨D6 c x k j
 |0,out,_=>⟨List.Sublist.refl _,fun j d=>.inl ⟨j,d,D6.refl c x j⟩⟩
 |n+1,out,h=>by
  rw[U8];cases hl:out.getLast? with
  |none=>exact⟨List.Sublist.refl _,fun j d=>.inl ⟨j,d,D6.refl c x j⟩⟩
  |some j=>
   dsimp only;have e:=getLast?_mem hl;split
   ·rename_i z;have hs:out.dropLast.Sublist out:=List.dropLast_sublist out;obtain⟨h1,u⟩:=Tj hc q n out.dropLast (fun i hi=>h i (hs.subset hi));refine⟨h1.trans hs,fun i hi=>?_⟩;rw[e]at hi;rcases Zl.1 hi with hi|hi;·exact u i hi
    ·obtain rfl:i=j:=by simpa using hi
     exact .inr (Qti hc (h i (by rw[e];simp)) q z)
   ·exact⟨List.Sublist.refl _,fun j d=>.inl ⟨j,d,D6.refl c x j⟩⟩
theorem Qbk{c:Jy}(hc:c.f≤c.r){x:Nat}{k:Nat×Nat}(K:k.1≤x){out l:Uw}(hs:Ys c x out l)(hl:∀j∈l,j.1≤k.1):Ys c x (Ux c x out k) (l++[k]):=by
 obtain⟨h1,J⟩:=Tj hc K out.length out (fun j z=>hl j (hs.1.subset z));unfold Ux;dsimp only;have B:Ys c x (U8 c x k out.length out++[k]) (l++[k]):=by
  refine⟨(h1.trans hs.1).append (List.Sublist.refl _),fun i hi=>?_⟩;rcases Zl.1 hi with hi|hi
  ·obtain⟨j,z,d⟩:=hs.2 i hi;rcases J j z with⟨q,I,u⟩|u;·exact⟨q,by simp[I],u.trans d⟩
   ·exact⟨k,by simp,u.trans d⟩
  ·obtain rfl:i=k:=by simpa using hi
   exact⟨i,by simp,D6.refl c x i⟩
 cases R:(U8 c x k out.length out).getLast? with
 |none=>exact B
 |some j=>
  dsimp only;split
  ·rename_i U;have z:j∈U8 c x k out.length out:=List.mem_of_getLast? R;have E:D6 c x j k:=Qq9 hc (hl j (hs.1.subset (h1.subset z))) K U;refine⟨(h1.trans hs.1).trans (List.sublist_append_left _ _),fun i hi=>?_⟩;rcases Zl.1 hi with hi|hi
   ·obtain⟨q,I,d⟩:=hs.2 i hi;rcases J q I with⟨p,V,u⟩|u;·exact⟨p,V,u.trans d⟩
    ·exact⟨j,z,E.trans (u.trans d)⟩
   ·obtain rfl:i=k:=by simpa using hi
    exact⟨j,z,E⟩
  ·exact B
abbrev Ew(l:Uw):Prop:=l.Pairwise fun j k=>j.1≤k.1
theorem Ti{c:Jy}(hc:c.f≤c.r){x:Nat}:∀(b a out:Uw),Ew (a++b)→(∀k∈b,k.1≤x)→Ys c x out a→Ys c x (b.foldl (Ux c x) out) (a++b)
 |[],a,out,_,_,h=>by simpa using h
 |k::b,a,out,hr,hx,h=>by rw[List.foldl_cons];have d:Ys c x (Ux c x out k) (a++[k]):=Qbk hc (hx k (by simp)) h fun j q=>(List.pairwise_append.1 hr).2.2 j q k (by simp);have:=Ti hc b (a++[k]) (Ux c x out k) (by simpa using hr) (fun i hi=>hx i (by simp[hi])) d;simpa using this
theorem Ys.trans{c:Jy}{x:Nat}{a b d:Uw}(h:Ys c x a b)(h':Ys c x b d):Ys c x a d:=
 ⟨h.1.trans h'.1,fun k B=>by obtain⟨j,z,q⟩:=h'.2 k B;obtain⟨i,hi,u⟩:=h.2 j z;exact⟨i,hi,u.trans q⟩⟩
theorem Ys.later{c:Jy}{x x':Nat}{a b:Uw}(h:Ys c x a b)(z:x≤x'):Ys c x' a b:=⟨h.1,fun k u=>by obtain⟨j,q,d⟩:=h.2 k u;exact⟨j,q,d.later z⟩⟩
theorem Ys.snoc{c:Jy}{x:Nat}{a b:Uw}(h:Ys c x a b)(k:Nat×Nat):Ys c x (a++[k]) (b++[k]):=by
 refine⟨h.1.append (List.Sublist.refl _),fun i hi=>?_⟩;rcases Zl.1 hi with hi|hi;·obtain⟨j,q,d⟩:=h.2 i hi;exact⟨j,by simp[q],d⟩
 ·obtain rfl:i=k:=by simpa using hi
  exact⟨i,by simp,D6.refl c x i⟩
theorem Qp6{c:Jy}(hc:c.f≤c.r){K l:Uw}(hs:Ys c (Ji l) K l)(hr:Ew l)(hl:∀k∈l,k.1≤Ji l)(x y:Nat):
  Ys c (Ji (Dg l x y)) (Qbj c (Ji (Dg l x y)) (K++[(max (min x Qq) (Ji l),min y Xw)])) (Dg l x y):=by
 rw[Of];show Ys c _ _ (l++[(max (min x Qq) (Ji l),min y Xw)]);have u:Ji l≤max (min x Qq) (Ji l):=Nat.le_max_right _ _;generalize max (min x Qq) (Ji l)=x' at u;have h1:Ys c x' (K++[(x',min y Xw)]) (l++[(x',min y Xw)]):=(hs.later u).snoc _;have q:Ew (K++[(x',min y Xw)]):=by
  refine List.pairwise_append.2 ⟨hr.sublist hs.1,by simp,fun j B k d=>?_⟩;obtain rfl:k=_:=by simpa using d
  exact Zp (hl j (hs.1.subset B)) u
 have z:=Ti hc (x:=x') (K++[(x',min y Xw)]) [] [] (by simpa using q) (fun k d=>by
  rcases Zl.1 d with d|d;·exact Zp (hl k (hs.1.subset d)) u
  ·obtain rfl:k=_:=by simpa using d
   exact Zv _) ⟨List.Sublist.refl _,fun k d=>by cases d⟩
 exact Ys.trans (by simpa[Qbj]using z) h1
theorem La{f:Nat×Nat→Nat}{a b:Uw}(hs:a.Sublist b)(c:b≠[])(h:∀k∈b,∃j∈a,f j≤f k):a≠[]∧Xb f a=Xb f b:=by
 have ha:a≠[]:=by
  rintro rfl;cases b with
  |nil=>exact c rfl
  |cons k b=>obtain⟨j,d,_⟩:=h k (by simp);cases d
 refine⟨ha,Nat.le_antisymm ?_ ?_⟩;·refine(U4 c).2 fun k q=>?_;obtain⟨j,d,u⟩:=h k q;exact Zp ((U4 ha).1 (Zv _) j d) u
 ·exact(U4 ha).2 fun k q=>(U4 c).1 (Zv _) k (hs.subset q)
theorem Qmf{c:Jy}{x t:Nat}{a b:Uw}(hs:Ys c x a b)(q:b≠[])(ht:x≤t):Xb (Hg c t) a=Xb (Hg c t) b:=
 (La hs.1 q fun k z=>by obtain⟨j,u,d⟩:=hs.2 k z;exact⟨j,u,(d t ht).1⟩).2
theorem Qi0{c:Jy}{x t:Nat}{a b:Uw}(hs:Ys c x a b)(q:b≠[])(ht:x≤t):Xb (Ug c t) a=Xb (Ug c t) b:=
 (La hs.1 q fun k z=>by obtain⟨j,u,d⟩:=hs.2 k z;exact⟨j,u,(d t ht).2⟩).2
def Eg(c:Jy)(x:Nat)(K:Uw)(y:Nat):Nat:=if Xw<y then Qq else min Qq (K.foldl (fun n k=>max n (Rr c y k)) x)
theorem Qkr{c c':Jy}{K l:Uw}{y:Nat}(h:Uj l)(hl:l≠[])(hs:K.Sublist l)(B:∀t,Ji l≤t→Xb (Hg c' t) K=Xb (Hg c' t) l)(z:K≠[]):Eg c' (Ji l) K y=Kn c' l y:=by
 refine Qd8 h hl ?_ ?_ fun t h1 q=>?_
 ·unfold Eg;have:=h.last;split;·exact this
  ·rw[Nat.le_min];exact⟨this,((Uf K (Ji l)).1 (Zv _)).1⟩
 ·unfold Eg;split;·exact Zv _
  ·exact Nat.min_le_left _ _
 ·have e:rAt c' l t=min Xw (Xb (Hg c' t) K):=by unfold rAt;rw[if_neg hl,Nat.max_eq_left h1,B t h1]
  rw[e,Nat.le_min,U4 z];unfold Eg;by_cases u:Xw<y
  ·rw[if_pos u];constructor;·intro h';omega
   ·intro h';omega
  ·rw[if_neg u];have:min Qq (K.foldl (fun n k=>max n (Rr c' y k)) (Ji l))≤t↔K.foldl (fun n k=>max n (Rr c' y k)) (Ji l)≤t:=by omega
   rw[this,Uf];constructor;·intro⟨_,h'⟩;exact⟨by omega,fun k d=>(Nt q (Zp (h.rise k (hs.subset d)) h1)).1 (h' k d)⟩
   ·intro⟨_,h'⟩;exact⟨h1,fun k d=>(Nt q (Zp (h.rise k (hs.subset d)) h1)).2 (h' k d)⟩
structure Xh where
 c:Jy
 l:Uw
def Xh.new(c:Jy):Xh:=⟨c,[]⟩
def Xh.start(r:Xh)(x y:Nat):Xh:=⟨r.c,Dg r.l x y⟩
def Xh.at(r:Xh)(t:Nat):Nat:=rAt r.c r.l t
def Xh.reach(r:Xh)(y:Nat):Nat:=Kn r.c r.l y
def Xh.elig(r:Xh)(y:Nat):Nat:=if r.c.r<r.c.f then Kn r.c r.l y else Kn ⟨0,0,r.c.r⟩ r.l y
def Xq(w:World)(b:Nat)(l:List (Int×Value)):Prop:=
 ∃d c,w.heap[b]? =some (.map d c)∧d.toList.map (fun e=>(e.key,e.val))=l.map (fun p=>(Value.int .i64 p.1,p.2))∧
  (l.map (·.1)).Nodup∧(d.toList.map (·.born)).Nodup∧∀e∈d.toList,e.born<c
def Oe(k:Int):List (Int×Value)→Nat→Option (Nat×Value)
 |[],_=>none
 |p::l,i=>if k=p.1 then some (i,p.2)else Oe k l (i+1)
theorem Fv(k:Int):∀(c:List MapEntry)(l:List (Int×Value))(i:Nat),c.map (fun e=>(e.key,e.val))=l.map (fun p=>(Value.int .i64 p.1,p.2))→
  Instr.findNow (.int .i64) (.int .i64 k) c i=some (Oe k l i)
 |[],[],_,_=>rfl
 |[],_::_,_,h=>by cases h
 |_::_,[],_,h=>by cases h
 |e::c,p::l,i,h=>by
  simp only[List.map_cons,List.cons.injEq,Prod.mk.injEq]at h;obtain⟨⟨h1,q⟩,u⟩:=h;have z:=Fv k c l (i+1) u;simp only[Instr.findNow,h1,Instr.sameNow,if_true,Oe];by_cases d:k=p.1;·simp[d,q]
  ·have:(k==p.1)=false:=by simpa using d
   rw[this,if_neg d];exact z
def look(k:Int)(l:List (Int×Value)):Option Value:=(Oe k l 0).map (·.2)
section
variable{P:Program}{t kt e:TypeId}{w:World}{b:Nat}{l:List (Int×Value)}
theorem Qmp{d:TypeDesc}(h:P.underlying t=some d):(underlying t).run P w=.ok d w:=by simp[underlying,h]
theorem Qkf{d:Array MapEntry}{c:Nat}(h:w.heap[b]? =some (.map d c)):(getObj b).run P w=.ok (.map d c) w:=by simp[getObj,Sem.run,h]
theorem Qsm{d:Array MapEntry}{c:Nat}(o:Obj)(h:w.heap[b]? =some (.map d c)):(setObj b o).run P w=.ok () {w with heap:=w.heap.setIfInBounds b o}:=by simp[setObj,Sem.run,h]
theorem Dt(d:P.underlying kt=some (.int .i64))(k:Int)(c:List MapEntry)(h:c.map (fun e=>(e.key,e.val))=l.map (fun p=>(Value.int .i64 p.1,p.2))):
  (Instr.findKey kt (.int .i64 k) c).run P w=.ok (Oe k l 0) w:=by
 unfold Instr.findKey;simp[underlying,d,Fv k c l 0 h]
theorem Ox(c:P.underlying kt=some (.int .i64))(b:Bool)(k:Int):(Instr.checkKey b 10000 kt (.int .i64 k)).run P w=.ok () w:=by unfold Instr.checkKey;simp[underlying,c]
theorem Dj(h:Xq w b l)(ht:P.underlying t=some (.map kt e))(d:P.underlying kt=some (.int .i64)){z:Value}(E:(zeroValue e).run P w=.ok z w)(k:Int):
  (Instr.lookup t (.map (some b)) (.int .i64 k) true).run P w=.ok (.tuple #[(look k l).getD z,.bool (look k l).isSome]) w:=by
 obtain⟨u,c,h1,B,_⟩:=h;unfold Instr.lookup;simp only[Sem.run_bind,Sem.run_pure,Qmp ht,Result.andThen_ok,Qkf h1,Ox d,Dt d k u.toList B,look];cases I:Oe k l 0 with
 |none=>simp[E]
 |some q=>simp
theorem Du(h:Xq w b l)(ht:P.underlying t=some (.map kt e))(d:P.underlying kt=some (.int .i64)){z:Value}(E:(zeroValue e).run P w=.ok z w)(k:Int):
  (Instr.lookup t (.map (some b)) (.int .i64 k) false).run P w=.ok ((look k l).getD z) w:=by
 obtain⟨u,c,h1,B,_⟩:=h;unfold Instr.lookup;simp only[Sem.run_bind,Sem.run_pure,Qmp ht,Result.andThen_ok,Qkf h1,Ox d,Dt d k u.toList B,look];cases I:Oe k l 0 with
 |none=>simp[E]
 |some q=>simp
def Oi(k:Int)(v:Value):List (Int×Value)→List (Int×Value)
 |[]=>[(k,v)]
 |p::l=>if k=p.1 then(k,v)::l else p::Oi k v l
theorem U6{k:Int}:∀{l:List (Int×Value)}{i n:Nat}{v:Value},Oe k l i=some (n,v)→∃j,n=i+j∧j<l.length∧l[j]? =some (k,v)
 |p::l,i,n,v,h=>by
  simp only[Oe]at h;split at h;·rename_i d;obtain⟨rfl,rfl⟩:=Prod.mk.injEq .. ▸Zs h;exact⟨0,rfl,by simp,by simp[d]⟩
  ·obtain⟨j,rfl,c,hl⟩:=U6 h;exact⟨j+1,by omega,by simpa using c,by simpa using hl⟩
theorem Pa{k:Int}:∀{l:List (Int×Value)}{i:Nat},Oe k l i=none→∀p∈l,p.1≠k
 |p::l,i,h,q,c=>by
  simp only[Oe]at h;split at h;·cases h
  ·rename_i d;rcases Zu.1 c with rfl|c;·exact fun e=>d e.symm
   ·exact Pa h q c
theorem Gw{k:Int}{v:Value}:∀{l:List (Int×Value)},(∀p∈l,p.1≠k)→Oi k v l=l++[(k,v)]
 |[],_=>rfl
 |p::l,h=>by have c:k≠p.1:=fun e=>h p (by simp) e.symm;rw[Oi,if_neg c,Gw fun q d=>h q (by simp[d])];rfl
theorem Fa{k:Int}{v:Value}:∀{l:List (Int×Value)},(∃p∈l,p.1=k)→(Oi k v l).map (·.1)=l.map (·.1)
 |p::l,h=>by
  rw[Oi];split;·rename_i d;simp[d]
  ·rename_i d;simp only[List.map_cons,List.cons.injEq,true_and];refine Fa ?_;obtain⟨q,u,c⟩:=h;rcases Zu.1 u with rfl|u;·exact absurd c.symm d
   ·exact⟨q,u,c⟩
theorem Ry{k:Int}{v u:Value}:∀{l:List (Int×Value)}{i j:Nat},Oe k l i=some (i+j,u)→Oi k v l=l.modify j fun p=>(p.1,v)
 |p::l,i,j,h=>by
  simp only[Oe]at h;rw[Oi];split at h
  ·rename_i c;have q:j=0:=by have:=(Prod.mk.injEq .. ▸Zs h:i=i+j∧_).1;omega
   subst q;rw[if_pos c,c];rfl
  ·rename_i c;rw[if_neg c];obtain⟨z,h1,_⟩:=U6 h;obtain⟨d,rfl⟩:∃d,j=d+1:=⟨j-1,by omega⟩;rw[Ry (i:=i+1) (j:=d) (by rw[h];congr 2;omega)];rfl
theorem X6(h:Xq w b l)(ht:P.underlying t=some (.map kt e))(hk:P.underlying kt=some (.int .i64))(k:Int)(v:Value):
  ∃w',(Instr.mapUpdate t (.map (some b)) (.int .i64 k) v).run P w=.ok () w'∧Xq w' b (Oi k v l)∧Qc (fun j=>j=b) w w':=by
 obtain⟨z,d,h1,I,h3,h4,h5⟩:=h;have hb:b<w.heap.size:=(Z2.1 h1).1;unfold Instr.mapUpdate;simp only[Sem.run_bind,Qmp ht,Result.andThen_ok,Qkf h1,Ox hk,Dt hk k z.toList I];have chg:∀o,Qc (fun j=>j=b) w {w with heap:=w.heap.setIfInBounds b o}:=by intro o;refine⟨rfl,rfl,rfl,by simp,fun j hj hS=>?_⟩;rw[Array.getElem?_setIfInBounds_ne (fun e=>hS e.symm)]
 cases Z:Oe k l 0 with
 |none=>
  have hn:=Pa Z;simp only[Qsm _ h1];refine⟨_,rfl,⟨z.push {key:=.int .i64 k,val:=v,born:=d},d+1,?_,?_,?_,?_,?_⟩,chg _⟩;·simp[hb]
  ·rw[Gw hn];simp[I]
  ·rw[Gw hn];simp only[List.map_append,List.map_cons,List.map_nil];refine List.nodup_append.2 ⟨h3,by simp,fun a ha c hc=>?_⟩;obtain rfl:c=k:=by simpa using hc
   obtain⟨p,Z,rfl⟩:=Z3.1 ha;exact hn p Z
  ·simp only[Array.toList_push,List.map_append,List.map_cons,List.map_nil];refine List.nodup_append.2 ⟨h4,by simp,fun a ha c hc=>?_⟩;obtain rfl:c=d:=by simpa using hc
   obtain⟨x,B,rfl⟩:=Z3.1 ha;have:=h5 x B;omega
  ·intro x B;simp only[Array.toList_push,Zl,List.mem_singleton]at B;rcases B with B|rfl;·have:=h5 x B;omega
   ·simp
 |some q=>
  obtain⟨n,u⟩:=q;obtain⟨j,hj,R,E⟩:=U6 Z;obtain rfl:n=j:=by omega
  have V:z.toList.length=l.length:=by simpa using congrArg List.length I
  have hn:n<z.size:=by rw[←V]at R;simpa using R
  have U:z[n].key=.int .i64 k:=by have:=congrArg (fun x=>x[n]?) I;simp only[List.getElem?_map,E]at this;rw[Array.getElem?_toList,Array.getElem?_eq_getElem hn]at this;simpa using(congrArg Prod.fst (Zs this))
  have aa:((Instr.keyThatStays (((z[n]?).map (·.key)).getD (.int .i64 k)) (.int .i64 k)).run P w)=.ok (.int .i64 k) w:=by rw[Array.getElem?_eq_getElem hn];simp[U,Instr.keyThatStays,Instr.sameBits]
  simp only[Sem.run_bind,aa,Result.andThen_ok,Qsm _ h1];refine⟨_,rfl,⟨z.modify n fun e=>{e with key:=.int .i64 k,val:=v},d,?_,?_,?_,?_,?_⟩,chg _⟩;·simp[hb]
  ·rw[Ry (i:=0) (j:=n) (u:=u) (by rw[Z];simp)];refine List.ext_getElem? fun i=>?_;have J:=congrArg (fun x=>x[i]?) I;simp only[List.getElem?_map,Array.getElem?_toList]at J;simp only[List.getElem?_map,Array.getElem?_toList,Array.getElem?_modify,List.getElem?_modify];by_cases K:n=i;·subst K;simp only[if_true,E,Array.getElem?_eq_getElem hn];simp
   ·simp only[K,if_false];simpa using J
  ·rw[Fa ⟨(k,u),List.mem_of_getElem? E,rfl⟩];exact h3
  ·have:(z.modify n fun e=>{e with key:=.int .i64 k,val:=v}).toList.map (·.born)=z.toList.map (·.born):=by
    refine List.ext_getElem? fun i=>?_;simp only[List.getElem?_map,Array.getElem?_toList,Array.getElem?_modify];split;·cases z[i]? <;>rfl
    ·rfl
   rw[this];exact h4
  ·intro x B;obtain⟨i,hi⟩:=List.mem_iff_getElem?.1 B;simp only[Array.getElem?_toList,Array.getElem?_modify]at hi;split at hi
   ·cases hy:z[i]? with
    |none=>rw[hy]at hi;cases hi
    |some y=> rw[hy]at hi;obtain rfl:=Zs hi;exact h5 y (List.mem_of_getElem? (by rw[Array.getElem?_toList];exact hy))
   ·exact h5 x (List.mem_of_getElem? (by rw[Array.getElem?_toList];exact hi))
theorem Xq.new(w:World):Xq (w.alloc (.map #[] 0)) w.heap.size []:=⟨#[],0,by show(w.heap.push _)[w.heap.size]? =_;simp,rfl,by simp,by simp,by simp⟩
theorem Xq.aB{S:Nat→Prop}{w'}(h:Xq w b l)(hc:Qc S w w')(q:¬S b):Xq w' b l:=by obtain⟨d,c,h1,k⟩:=h;exact⟨d,c,hc.heap h1 q,k⟩
theorem Xq.lt(h:Xq w b l):b<w.heap.size:=by obtain⟨d,c,h1,k⟩:=h;exact(Z2.1 h1).1
theorem Xq.nodup(h:Xq w b l):(l.map (·.1)).Nodup:=by obtain⟨k,c,h1,q,d,_⟩:=h;exact d
theorem Qua(h:Xq w b l)(ht:P.underlying t=some (.map kt e))(ty:TypeId):(Builtin.len_ #[t] ty #[.map (some b)]).run P w=.ok (.int .i64 l.length) w:=by
 obtain⟨d,c,h1,k,_⟩:=h;have hl:d.size=l.length:=by simpa using congrArg List.length k
 unfold Builtin.len_;simp[Qmp ht,Qkf h1,hl,goInt]
def Vu(k:Int)(l:List (Int×Value)):List (Int×Value):=l.filter fun p=>!decide (p.1=k)
theorem Co{A B:Type}(f:A→B):∀(l:List A)(j:Nat),(l.eraseIdx j).map f=(l.map f).eraseIdx j
 |[],_=>rfl
 |_::_,0=>rfl
 |a::l,j+1=>by simp[Co f l j]
theorem A0{k:Int}{v:Value}:∀{l:List (Int×Value)}{j:Nat},(l.map (·.1)).Nodup→l[j]? =some (k,v)→l.eraseIdx j=Vu k l
 |p::l,0,hn,h=>by
  obtain rfl:p=(k,v):=by simpa using h
  obtain⟨h1,_⟩:=List.nodup_cons.1 hn;simp only[List.eraseIdx_cons_zero,Vu,List.filter_cons,decide_true,Bool.not_true,Bool.false_eq_true,if_false];refine(List.filter_eq_self.2 fun q z=>?_).symm;simp only[Bool.not_eq_true',decide_eq_false_iff_not];exact fun e=>h1 (Z3.2 ⟨q,z,e⟩)
 |p::l,j+1,hn,h=>by
  obtain⟨h1,d⟩:=List.nodup_cons.1 hn;have c:l[j]? =some (k,v):=by simpa using h
  have u:p.1≠k:=fun e=>h1 (Z3.2 ⟨(k,v),List.mem_of_getElem? c,e.symm⟩);rw[List.eraseIdx_cons_succ,A0 d c];simp[Vu,u]
theorem Qc1{k:Int}{l:List (Int×Value)}(h:∀p∈l,p.1≠k):Vu k l=l:=by refine List.filter_eq_self.2 fun q c=>?_;simp only[Bool.not_eq_true',decide_eq_false_iff_not];exact h q c
theorem Di(h:Xq w b l)(ht:P.underlying t=some (.map kt e))(U:P.underlying kt=some (.int .i64))(t2 ty:TypeId)(k:Int):
  ∃w',(Builtin.delete_ #[t,t2] ty #[.map (some b),.int .i64 k]).run P w=.ok (.tuple #[]) w'∧Xq w' b (Vu k l)∧Qc (fun j=>j=b) w w':=by
 obtain⟨z,c,h1,B,E,J,K⟩:=h;have R:b<w.heap.size:=(Z2.1 h1).1;have chg:∀o,Qc (fun j=>j=b) w {w with heap:=w.heap.setIfInBounds b o}:=by intro o;refine⟨rfl,rfl,rfl,by simp,fun j hj Z=>?_⟩;rw[Array.getElem?_setIfInBounds_ne (fun e=>Z e.symm)]
 unfold Builtin.delete_;simp only[Zf,Ze,Zd,Sem.run_bind,Qmp ht,Result.andThen_ok,Qkf h1,Ox U,Dt U k z.toList B];cases V:Oe k l 0 with
 |none=> simp only[Sem.run_bind,Qsm _ h1,Result.andThen_ok,Sem.run_pure];refine⟨_,rfl,⟨z,c,by simp[R],?_⟩,chg _⟩;rw[Qc1 (Pa V)];exact⟨B,E,J,K⟩
 |some q=>
  obtain⟨n,u⟩:=q;obtain⟨j,hj,aa,I⟩:=U6 V;obtain rfl:n=j:=by omega
  simp only[Sem.run_bind,Qsm _ h1,Result.andThen_ok,Sem.run_pure];have d:(z.eraseIdxIfInBounds n).toList.Sublist z.toList:=by rw[Array.toList_eraseIdxIfInBounds];exact List.eraseIdx_sublist _ _
  refine⟨_,rfl,⟨z.eraseIdxIfInBounds n,c,by simp[R],?_,?_,?_,?_⟩,chg _⟩;·rw[←A0 E I,Array.toList_eraseIdxIfInBounds,Co,B,Co]
  ·exact E.sublist (List.filter_sublist.map _)
  ·exact J.sublist (d.map _)
  ·exact fun x hx=>K x (d.subset hx)
def Kj(w:World)(b r:Nat)(l left:List (Int×Value)):Prop:=
 ∃k c d,w.heap[b]? =some (.map k c)∧k.toList.map (fun e=>(e.key,e.val))=l.map (fun p=>(Value.int .i64 p.1,p.2))∧
  (l.map (·.1)).Nodup∧(k.toList.map (·.born)).Nodup∧(∀e∈k.toList,e.born<c)∧w.heap[r]? =some (.mapIter (some b) c d c)∧r≠b∧
  (leftOf k d).toList.map (fun e=>(e.key,e.val))=left.map (fun p=>(Value.int .i64 p.1,p.2))∧left.Sublist l
theorem Kj.map{r:Nat}{left:List (Int×Value)}(h:Kj w b r l left):Xq w b l:=by obtain⟨k,c,d,h1,q,u,z,B,_⟩:=h;exact⟨k,c,h1,q,u,z,B⟩
theorem Kj.aB{S:Nat→Prop}{w'}{r:Nat}{left:List (Int×Value)}(h:Kj w b r l left)(hc:Qc S w w')(J:¬S b)(hr:¬S r):Kj w' b r l left:=by obtain⟨k,c,d,h1,q,u,z,B,E,I⟩:=h;exact⟨k,c,d,hc.heap h1 J,q,u,z,B,hc.heap E hr,I⟩
theorem Kj.sub{r:Nat}{left:List (Int×Value)}(h:Kj w b r l left):left.Sublist l:=by obtain⟨q,c,d,h1,u,z,B,E,I,J,K,k⟩:=h;exact k
theorem Er(h:Xq w b l)(ht:P.underlying t=some (.map kt e)):∃o,(Instr.range t (.map (some b))).run P w=.ok (.pointer (some ⟨w.heap.size,0,none⟩)) (w.alloc o)∧Kj (w.alloc o) b w.heap.size l l:=by
 have B:=h.lt;obtain⟨d,c,h1,k,q,u,z⟩:=h;refine⟨.mapIter (some b) c #[] c,?_,d,c,#[],?_,k,q,u,z,?_,by omega,?_,List.Sublist.refl _⟩;·unfold Instr.range;simp[Qmp ht,Qkf h1]
 ·rw[Below.heap_alloc _ _ _ B];exact h1
 ·show(w.heap.push _)[w.heap.size]? =_;simp
 ·have:leftOf d #[]=d:=by simp[leftOf]
  rw[this];exact k
theorem Qq6{d:List MapEntry}(h:(d.map (·.born)).Nodup){x y:MapEntry}(u:x∈d)(z:y∈d)(e:x.born=y.born):x=y:=by
 induction d with
 |nil=>cases u
 |cons a d E=>
  obtain⟨h1,B⟩:=List.nodup_cons.1 h;rcases Zu.1 u with ex|k
  ·rcases Zu.1 z with q|c;·rw[ex,q]
   ·exact(h1 (Z3.2 ⟨y,c,by rw[←e,ex]⟩)).elim
  ·rcases Zu.1 z with q|c;·exact(h1 (Z3.2 ⟨x,k,by rw[e,q]⟩)).elim
   ·exact E B k c
theorem Qdi{x:MapEntry}{p:Int×Value}:∀{c:List MapEntry}{left:List (Int×Value)},c.map (fun e=>(e.key,e.val))=left.map (fun p=>(Value.int .i64 p.1,p.2))→(left.map (·.1)).Nodup→(c.map (·.born)).Nodup→
  x∈c→p∈left→Value.int .i64 p.1=x.key→(c.filter (fun y=>!decide (y.born=x.born))).map (fun e=>(e.key,e.val))=(Vu p.1 left).map (fun p=>(Value.int .i64 p.1,p.2))
 |[],[],_,_,_,d,_,_=>by cases d
 |[],_::_,h,_,_,_,_,_=>by cases h
 |_::_,[],h,_,_,_,_,_=>by cases h
 |y::c,q::left,h,hn,hb,d,R,B=>by
  simp only[List.map_cons,List.cons.injEq,Prod.mk.injEq]at h;obtain⟨⟨h1,h2⟩,K⟩:=h;obtain⟨V,n2⟩:=List.nodup_cons.1 hn;obtain⟨b1,b2⟩:=List.nodup_cons.1 hb;by_cases u:y.born=x.born
  ·have J:y=x:=by
    rcases Zu.1 d with e|d;·exact e.symm
    ·exact absurd (Z3.2 ⟨x,d,u.symm⟩) b1
   subst J;have E:q.1=p.1:=by rw[h1]at B;injection B with _ B;exact B.symm
   have Z:(c.filter fun z=>!decide (z.born=y.born))=c:=List.filter_eq_self.2 fun z k=>by simp only[Bool.not_eq_true',decide_eq_false_iff_not];exact fun e=>b1 (Z3.2 ⟨z,k,e⟩)
   have f2:Vu p.1 left=left:=Qc1 fun z k e=>V (Z3.2 ⟨z,k,e.trans E.symm⟩);simp only[List.filter_cons,decide_true,Bool.not_true,Bool.false_eq_true,if_false,Z];rw[K];have:Vu p.1 (q::left)=Vu p.1 left:=by simp[Vu,E]
   rw[this,f2]
  ·have I:x∈c:=by
    rcases Zu.1 d with e|d;·exact absurd (by rw[e]) u
    ·exact d
   have E:q.1≠p.1:=by
    intro e;obtain⟨i,hi⟩:=List.mem_iff_getElem?.1 I;have:=congrArg (fun l=>l[i]?) K;simp only[List.getElem?_map,hi,Zn]at this;cases hl:left[i]? with
    |none=>rw[hl]at this;cases this
    |some z=> rw[hl]at this;have k:x.key=Value.int .i64 z.1:=(Prod.mk.injEq .. ▸Zs this).1;rw[←B]at k;injection k with _ k;exact V (Z3.2 ⟨z,List.mem_of_getElem? hl,k.symm.trans e.symm⟩)
   have U:p∈left:=by
    rcases Zu.1 R with e|R;·exact absurd (by rw[e]) E
    ·exact R
   have ih:=Qdi K n2 b2 I U B;have g1:((y::c).filter fun z=>!decide (z.born=x.born))=y::c.filter fun z=>!decide (z.born=x.born):=by simp[u]
   have g2:Vu p.1 (q::left)=q::Vu p.1 left:=by simp[Vu,E]
   rw[g1,g2,List.map_cons,List.map_cons,ih,h1,h2]
theorem Rx{r:Nat}{left:List (Int×Value)}(h:Kj w b r l left)(ty:TypeId):
  (left=[]∧(Instr.next (.pointer (some ⟨r,0,none⟩)) false ty).run P w=.ok (.tuple #[.bool false]) w)∨
  ∃p∈left,∃w',(Instr.next (.pointer (some ⟨r,0,none⟩)) false ty).run P w=.ok (.tuple #[.bool true,.int .i64 p.1,p.2]) w'∧Kj w' b r l (Vu p.1 left)∧Qc (fun j=>j=r) w w'∧
   (Instr.entry (.pointer (some ⟨r,0,none⟩))).run P w'=.ok (.tuple #[.int .i64 p.1,p.2]) w':=by
 obtain⟨k,c,d,h1,h2,h3,U,h5,h6,h7,V,h9⟩:=h;rcases run_next_at (P:=P) w ty r b c c d k c h6 h1 h5 (Zv _)with⟨h0,hr⟩|⟨x,K,w1,z,hr⟩
 ·left;refine⟨?_,hr⟩;have:(leftOf k d).toList=[]:=List.length_eq_zero_iff.1 (by simpa using h0);rw[this]at V;cases left with
  |nil=>rfl
  |cons a l=>cases V
 ·right;have q:=List.mem_map_of_mem (f:=fun e:MapEntry=>(e.key,e.val)) K;rw[V]at q;obtain⟨p,hp,E⟩:=Z3.1 q;simp only[Prod.mk.injEq]at E;obtain⟨e1,e2⟩:=E;have ac:r<w.heap.size:=(Z2.1 h6).1;rw[←e1,←e2]at hr;have J:r<w1.heap.size:=by rcases z with rfl|rfl<;>exact ac
  have aa:w1.heap[b]? =some (.map k c):=by rcases z with rfl|rfl<;>exact h1
  have R:x∈k.toList:=by unfold leftOf at K;simp at K;simpa using K.1
  have B:(ChangeMaps.setBlock w1 r (.mapIter (some b) c (d.push x.born) c)).heap[b]? =some (.map k c):=by show(w1.heap.setIfInBounds r _)[b]? =_;rw[Array.getElem?_setIfInBounds_ne h7];exact aa
  have I:(ChangeMaps.setBlock w1 r (.mapIter (some b) c (d.push x.born) c)).heap[r]? =some (.mapIter (some b) c (d.push x.born) c):=by show(w1.heap.setIfInBounds r _)[r]? =_;simp[J]
  have ab:(left.map (·.1)).Nodup:=h3.sublist (h9.map _);refine⟨p,hp,_,hr,⟨k,c,d.push x.born,B,h2,h3,U,h5,I,h7,?_,List.filter_sublist.trans h9⟩,?_,?_⟩
  ·have af:∀y∈k.toList,(y.born=x.born↔y=x):=by intro y hy;refine⟨fun e=>?_,fun e=>by rw[e]⟩;exact Qq6 U hy R e
   have u:(leftOf k (d.push x.born)).toList=(leftOf k d).toList.filter (fun y=>!decide (y.born=x.born)):=by
    unfold leftOf;simp only[Array.toList_filter,List.filter_filter];refine List.filter_congr fun y _=>?_;simp only[Array.contains_push];by_cases hc:y.born=x.born;·simp[hc]
    ·simp[hc]
   rw[u];have ae:(leftOf k d).toList.Sublist k.toList:=by unfold leftOf;simp only[Array.toList_filter];exact List.filter_sublist
   exact Qdi V ab (U.sublist (ae.map _)) K hp e1
  ·rcases z with rfl|rfl;·exact⟨rfl,rfl,rfl,by simp[ChangeMaps.setBlock],fun j hj Z=>by show(w1.heap.setIfInBounds r _)[j]? =_;rw[Array.getElem?_setIfInBounds_ne (fun e=>Z e.symm)]⟩
   ·exact⟨rfl,rfl,rfl,by show w.heap.size≤(w.heap.setIfInBounds r _).size;simp,fun j hj Z=>by show(w.heap.setIfInBounds r _)[j]? =_;rw[Array.getElem?_setIfInBounds_ne (fun e=>Z e.symm)]⟩
  ·rw[e1,e2];exact run_entry_at _ r b c d k c x I B R U
end
end Go.Proofs.YtnnhmpehkbihnaaGreat
