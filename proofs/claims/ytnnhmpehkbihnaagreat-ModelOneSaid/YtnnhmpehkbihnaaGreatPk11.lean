/- A part of the proof: no condition. -/
import Derived.Test.YtnnhmpehkbihnaaGreatPk07
namespace Go.Proofs.YtnnhmpehkbihnaaGreat
set_option linter.unusedVariables false
set_option maxRecDepth 100000
set_option maxHeartbeats 4000000
open Go.RowKit
open Go.Proofs.Tryz
section
open Go.Shelf
attribute [local go_sem] Oper.semAt_some
structure Pc where
 s:Nat
 n:Nat
 hs:s<18446744073709551616
 hn:n<18446744073709551616
def pcE(x:Pc):Array Value:=#[.agg #[.int .u64 x.s,.int .u64 x.n]]
def Fo:Nat:=18446744073709551615
def pc1(c:Jy)(hc:c.May):Pc:=⟨c.f,c.l,by have:=hc.hf;omega,by have:=hc.hl;omega⟩
def pc2(c:Jy)(hc:c.May):Pc:=⟨c.r,Fo,by have:=hc.hr;omega,by decide⟩
def pcs(c:Jy)(hc:c.May):List Pc:=if c.l=0 then[pc2 c hc]else[pc1 c hc,pc2 c hc]
theorem Qlh(n l B:Nat)(hn:1≤n)(c:Jy)(hc:c.May)(J Jx:List Pc→World→Prop)
  (hY:∀d x W,J d W→d.length<2→YieldAt Fence.wide (n-1) prog l (pcE x) W fun e K=>
   (e=.returned (.bool true)∧J (d++[x]) K∧Le (fun k=>k=B) W K)∨(e=.returned (.bool false)∧Jx (d++[x]) K))
  (W) (hB:Qh W B #[.int .u64 c.f,.int .u64 c.l,.int .u64 c.r] 38) (h0:J [] W):
  CallsIn Fence.wide n prog 338 #[.func (.yield l) #[] #[],.pointer (some ⟨B,0,none⟩)] W fun e K=>(∃v,e=.returned v)∧
   ((∃ys,ys=pcs c hc∧J ys K)∨(∃d,d<+:pcs c hc∧Jx d K)):=by
 have HB:=O hB;obtain⟨a0,a1,a2⟩:=L6 hB;by_cases hl:c.l=0
 ·obtain⟨fn,ab,u,V,hy,hR⟩:=hY [] (pc2 c hc) W h0 (by simp);have I:Hi (pcs c hc=[pc2 c hc]):=O (if_pos hl);have hd:decide ((0:Int)<(c.l:Int))=false:=by simp;omega
  have ag:decide (0<c.l)=false:=by simp;omega
  clear hB hl hY;dsimp only[pcE,pc1,pc2]at hy;rw[show((Fo:Nat):Int)=18446744073709551615 from rfl]at hy;refine callsIn_of_wp func338 rfl trivial ?_ rfl;simp only[ntmps338,List.size_toArray,Zm,List.length_nil,Nat.reduceAdd,Nat.reduceSub,Array.replicate_succ,Array.replicate_zero,List.push_toArray,List.append_toArray,List.nil_append,List.cons_append];gi_wp2;refine⟨fun _ h=>(by cases h),?_⟩;gi_wp2;refine hR.mono ?_;rintro e W3(⟨rfl,z,E⟩|⟨rfl,q⟩);·gi_wp2;refine bodyPost_end (results_none rfl _ _ _) rfl ?_;exact⟨⟨_,rfl⟩,.inl ⟨_,I.o.symm,z⟩⟩
  ·gi_wp2;refine bodyPost_end (results_none rfl _ _ _) rfl ?_;exact⟨⟨_,rfl⟩,.inr ⟨[pc2 c hc],by rw[I.o];exact List.prefix_refl _,q⟩⟩
 ·obtain⟨fn,ab,u,V,hy,hR⟩:=hY [] (pc1 c hc) W h0 (by simp);have I:Hi (pcs c hc=[pc1 c hc,pc2 c hc]):=O (if_neg hl);have hd:decide ((0:Int)<(c.l:Int))=true:=by simp;omega
  have ag:decide (0<c.l)=true:=by simp;omega
  have HY:=O hY;clear hB hl hY;dsimp only[pcE,pc1,pc2]at hy;refine callsIn_of_wp func338 rfl trivial ?_ rfl;simp only[ntmps338,List.size_toArray,Zm,List.length_nil,Nat.reduceAdd,Nat.reduceSub,Array.replicate_succ,Array.replicate_zero,List.push_toArray,List.append_toArray,List.nil_append,List.cons_append];gi_wp2;refine hR.mono ?_;rintro e W3(⟨rfl,z,E⟩|⟨rfl,q⟩)
  ·obtain⟨ai,ah,U,ac,aa,af⟩:=HY.o _ (pc2 c hc) W3 z (by simp);have R:=E.blk HB.o rfl;clear a0 a1 a2 E hy;obtain⟨a0,a1,a2⟩:=L6 R;dsimp only[pcE,pc1,pc2]at aa;rw[show((Fo:Nat):Int)=18446744073709551615 from rfl]at aa;clear R;gi_wp2;refine af.mono ?_;rintro e W4(⟨rfl,ae,aj⟩|⟨rfl,Z⟩);·gi_wp2;refine bodyPost_end (results_none rfl _ _ _) rfl ?_;exact⟨⟨_,rfl⟩,.inl ⟨_,I.o.symm,ae⟩⟩
   ·gi_wp2;refine bodyPost_end (results_none rfl _ _ _) rfl ?_;exact⟨⟨_,rfl⟩,.inr ⟨[pc1 c hc,pc2 c hc],by rw[I.o];exact List.prefix_refl _,Z⟩⟩
  ·gi_wp2;refine bodyPost_ret (results_none rfl _ _ _) rfl ?_;exact⟨⟨_,rfl⟩,.inr ⟨[pc1 c hc],by rw[I.o];simp,q⟩⟩
theorem Qfh(n B:Nat)(hn:1≤n)(c:Jy)(hc:c.May)(w)(u:Qh w B #[.int .u64 c.f,.int .u64 c.l,.int .u64 c.r] 38):
  SeqStopsK Fence.wide n prog 338 #[.pointer (some ⟨B,0,none⟩)] pcE (Le (fun k=>k=B)) (fun E=>E=pcs c hc) (fun d=>d<+:pcs c hc) 2 w:=fun l J q W hW _ _ z h0=>
 Qlh n l B hn c hc J q z W ((Qc.ofBelow (S:=Qb) hW).blk u (fun h=>h)) h0
theorem Qgs(c:Jy)(w):Cl 337 #[cV c] w fun e w'=>e=.returned (.func (.func 338) #[] #[.pointer (some ⟨w.heap.size,0,none⟩)])∧w'=w.alloc (.cells #[.int .u64 c.f,.int .u64 c.l,.int .u64 c.r] 38):=by unfold cV;go_enter func337,ntmps337;go_wp2;go_ret;exact⟨rfl,rfl⟩
def goL:Nat→Nat→List Pc→Option Nat
 |_,_,[]=>none
 |a,y,x::r=>if y≤min Xw (x.s*x.n)then some (if y=0 then a else(a+upN y x.s)%18446744073709551616)else goL ((a+x.n)%18446744073709551616) (y-min Xw (x.s*x.n)) r
def stA(a:Nat)(l:List Pc):Nat:=l.foldl (fun a x=>(a+x.n)%18446744073709551616) a
def stY(y:Nat)(l:List Pc):Nat:=l.foldl (fun y x=>y-min Xw (x.s*x.n)) y
theorem Qhc(x:Pc):∀(l:List Pc)(a y:Nat),goL a y (l++[x])=match goL a y l with
  |some v=>some v
  |none=>goL (stA a l) (stY y l) [x]
 |[],a,y=>rfl
 |z::l,a,y=>by
  rw[List.cons_append,goL,goL];split;·rfl
  ·rw[Qhc x l];rfl
theorem Qki{l:List Pc}:∀{c:List Pc}{a y v:Nat},c<+:l→goL a y c=some v→goL a y l=some v:=by
 induction l with
 |nil=> intro c a y v h e;rw[List.prefix_nil.1 h]at e;exact e
 |cons z l k=>
  intro c a y v h e;cases c with
  |nil=>cases e
  |cons u c=>
   obtain⟨rfl,h'⟩:=List.cons_prefix_cons.1 h;rw[goL]at e⊢;split;·rename_i d;rw[if_pos d]at e;exact e
   ·rename_i d;rw[if_neg d]at e;exact k h' e
theorem Qss(y:Nat):∀(l:List Pc),stY y l≤y
 |[]=>Zv _
 |x::l=>Zp (Qss _ l) (Nat.sub_le _ _)
def U7(c:Jy)(y:Nat):Nat:=if Xw<y then Qq else(c.reach y).getD Qq
theorem Qon(c:Jy)(hc:c.May)(y:Nat)(J:y≤Xw):(goL 0 y (pcs c hc)).getD Qq=U7 c y:=by
 have I:=Yz;have h1:=hc.hf;have E:=hc.hl;have U:=hc.hr;have R:c.f*c.l≤1048576*1099511627776:=Nat.mul_le_mul h1 E;unfold U7;rw[if_neg (by omega)];have q:∀a z,a≤1099511627776→0<z∨a=0→z≤Xw→(goL a z [pc2 c hc]).getD Qq=(if z=0 then a else if c.r=0 then Qq else a+Tw z c.r):=by
  intro a z ha Z B;rw[goL,goL];show(if z≤min Xw (c.r*Fo)then some (if z=0 then a else(a+upN z c.r)%18446744073709551616)else none).getD Qq=_;by_cases hr:c.r=0
  ·rw[hr,Nat.zero_mul];by_cases k:z=0;·rw[if_pos (by omega),if_pos k,if_pos k];rfl
   ·rw[if_neg (by omega),if_neg k,if_pos rfl];rfl
  ·have V:Xw≤c.r*Fo:=by have:1*Fo≤c.r*Fo:=Nat.mul_le_mul_right _ (by omega);have e:Fo=18446744073709551615:=rfl;omega
   rw[if_pos (by omega)];by_cases k:z=0;·rw[if_pos k,if_pos k];rfl
   ·rw[if_neg k,if_neg k,if_neg hr,Qmr (by omega) B];have:Tw z c.r≤z:=(D9 (by omega)).2 (Nat.le_mul_of_pos_left z (by omega));rw[Nat.mod_eq_of_lt (by omega)];rfl
 by_cases hl:c.l=0
 ·have e:pcs c hc=[pc2 c hc]:=if_pos hl;have hf:=hc.h0 hl;rw[e,q 0 y (by omega) (by omega) J];unfold Jy.reach;rw[hf,hl];simp only[Nat.mul_zero,Nat.zero_add,Nat.sub_zero];by_cases d:y=0;·rw[if_pos d,if_pos d];rfl
  ·rw[if_neg d,if_neg d,if_neg (show¬y≤0 by omega)];by_cases hr:c.r=0;·rw[if_pos hr,if_pos hr];rfl
   ·rw[if_neg hr,if_neg hr];rfl
 ·have e:pcs c hc=[pc1 c hc,pc2 c hc]:=if_neg hl;rw[e,goL];have K:min Xw ((pc1 c hc).s*(pc1 c hc).n)=c.f*c.l:=by show min Xw (c.f*c.l)=_;omega
  rw[K];unfold Jy.reach;by_cases u:y≤c.f*c.l
  ·rw[if_pos u,if_pos u];by_cases d:y=0;·rw[if_pos d,if_pos d]
   ·rw[if_neg d,if_neg d];have hf:0<c.f:=Nat.pos_of_ne_zero fun h=>by rw[h,Nat.zero_mul]at u;exact d (Nat.le_zero.1 u)
    show(some ((0+upN y c.f)%18446744073709551616)).getD Qq=_;rw[Qmr hf J];have:Tw y c.f≤y:=(D9 hf).2 (Nat.le_mul_of_pos_left y hf);rw[Nat.zero_add,Nat.mod_eq_of_lt (by omega)]
  ·have d:y≠0:=fun h=>u (by rw[h];exact Nat.zero_le _);rw[if_neg u,if_neg d,if_neg u];show(goL ((0+c.l)%18446744073709551616) (y-c.f*c.l) [pc2 c hc]).getD Qq=_;rw[Nat.zero_add,Nat.mod_eq_of_lt (by omega),q c.l (y-c.f*c.l) E (.inl (by omega)) (by omega),if_neg (show¬y-c.f*c.l=0 by omega)];by_cases hr:c.r=0;·rw[if_pos hr,if_pos hr];rfl
   ·rw[if_neg hr,if_neg hr];rfl
theorem Qu6:∀(l:List Pc),stA 0 l<18446744073709551616:=by
 have:∀(l:List Pc)(a:Nat),a<18446744073709551616→stA a l<18446744073709551616:=by
  intro l;induction l with
  |nil=>exact fun a h=>h
  |cons x l c=>exact fun a _=>c _ (Nat.mod_lt _ (by decide))
 exact fun l=>this l 0 (by decide)
def T3(s:Nat):Fp:=fun k=>k=s+1∨k=s+1+1∨k=s+1+1+1
theorem Aw(c:Jy)(hc:c.May)(y:Nat)(hy:y≤Xw)(w):Cl 331 #[cV c,.int .u64 y] w fun e w'=>e=.returned (.int .u64 (U7 c y:Nat))∧Qc Qb w w':=by
 have hd:¬(4611686018427387904:Int)<(y:Int):=by have:=Yz;omega
 have HP:=O (Qgs c);have HR:=O (Qon c hc y hy);refine callsIn_wide (n:=9).1 ?_;unfold cV at*;refine callsIn_of_wp_marks func331 rfl trivial ?_;simp only[ntmps331,List.size_toArray,Zm,List.length_nil,Nat.reduceAdd,Nat.reduceSub,Array.replicate_succ,Array.replicate_zero,List.push_toArray,List.append_toArray,List.nil_append,List.cons_append];gi_wp2_with (refine⟨trivial,?_⟩;gi_at_call 337;refine(callsIn_wide.2 (HP.o _)).mono ?_;rintro e w1⟨rfl,rfl⟩);obtain⟨s,hs⟩:=Zx (w.heap.size);have bY:=O ((((Qh.new (w.alloc (.cells #[.int .u64 c.f,.int .u64 c.l,.int .u64 c.r] 38)) #[.int .u64 y] 29).alloc (.cells #[.int .u64 0] 29)).alloc (.cells #[.int .u64 0] 29)).alloc (.cells #[.int .u64 c.f,.int .u64 c.l,.int .u64 c.r] 38));have bR:=O (((Qh.new ((w.alloc (.cells #[.int .u64 c.f,.int .u64 c.l,.int .u64 c.r] 38)).alloc (.cells #[.int .u64 y] 29)) #[.int .u64 0] 29).alloc (.cells #[.int .u64 0] 29)).alloc (.cells #[.int .u64 c.f,.int .u64 c.l,.int .u64 c.r] 38));have bA:=O ((Qh.new (((w.alloc (.cells #[.int .u64 c.f,.int .u64 c.l,.int .u64 c.r] 38)).alloc (.cells #[.int .u64 y] 29)).alloc (.cells #[.int .u64 0] 29)) #[.int .u64 0] 29).alloc (.cells #[.int .u64 c.f,.int .u64 c.l,.int .u64 c.r] 38));have bC:=O (Qh.new ((((w.alloc (.cells #[.int .u64 c.f,.int .u64 c.l,.int .u64 c.r] 38)).alloc (.cells #[.int .u64 y] 29)).alloc (.cells #[.int .u64 0] 29)).alloc (.cells #[.int .u64 0] 29)) #[.int .u64 c.f,.int .u64 c.l,.int .u64 c.r] 38);have C0:=O ((((((Zg Qb w).alloc (.cells #[.int .u64 c.f,.int .u64 c.l,.int .u64 c.r] 38)).alloc (.cells #[.int .u64 y] 29)).alloc (.cells #[.int .u64 0] 29)).alloc (.cells #[.int .u64 0] 29)).alloc (.cells #[.int .u64 c.f,.int .u64 c.l,.int .u64 c.r] 38));have az:(((((w.alloc (.cells #[.int .u64 c.f,.int .u64 c.l,.int .u64 c.r] 38)).alloc (.cells #[.int .u64 y] 29)).alloc (.cells #[.int .u64 0] 29)).alloc (.cells #[.int .u64 0] 29)).alloc (.cells #[.int .u64 c.f,.int .u64 c.l,.int .u64 c.r] 38)).heap.size=s+5:=by rw[hs];simp
 simp only[World.size_alloc,←hs]at bY bR bA bC;rw[←hs];obtain⟨W0,ar⟩:=Zx (((((w.alloc (.cells #[.int .u64 c.f,.int .u64 c.l,.int .u64 c.r] 38)).alloc (.cells #[.int .u64 y] 29)).alloc (.cells #[.int .u64 0] 29)).alloc (.cells #[.int .u64 0] 29)).alloc (.cells #[.int .u64 c.f,.int .u64 c.l,.int .u64 c.r] 38));rw[←ar]at bY bR bA bC C0 az⊢;clear ar;have ac:=O hs;clear hs;refine wpIn_rangeFunc_ownH rfl (by decide) (gf:=338) (lb:=#[.pointer (some ⟨s+1+1+1+1,0,none⟩)]) rfl trivial (enters_of func338 (by kernel_rfl) rfl)
  (Qfh 8 (s+1+1+1+1) (by decide) c hc W0 bC.o) (fun h k=>h.trans k) (fun W l o o' h1 h2 h3 h4=>Le.put (w:=W0) W l o o' h1 h2 h3 h4) (Below.refl _ _) (fun _=>rfl)
  (fun d W=>((((goL 0 y d=none)∧Qh W (s+1) #[.int .u64 (stY y d:Int)] 29)∧Qh W (s+1+1) #[.int .u64 0] 29)∧Qh W (s+1+1+1) #[.int .u64 (stA 0 d:Int)] 29)∧Qc (T3 s) W0 W)
  (fun c d W=>((c=.ret∧(goL 0 y d).isSome=true)∧Qh W (s+1+1) #[.int .u64 ((goL 0 y d).getD 0:Nat)] 29)∧Qc (T3 s) W0 W)
  (OwnFrom.and (OwnFrom.and (OwnFrom.and (OwnFrom.and (ownFrom_pure _ _) (Yx _ _ _ _)) (Yx _ _ _ _)) (Yx _ _ _ _)) (Dr (Zv _)))
  (fun c=>OwnFrom.and (OwnFrom.and (ownFrom_pure _ _) (Yx _ _ _ _)) (Dr (Zv _)))
  ⟨⟨⟨⟨rfl,bY.o⟩,bR.o⟩,bA.o⟩,Zg _ _⟩
  (fun x a' W=>∃Bx,s+5≤Bx∧Qh W Bx #[.int .u64 x.s,.int .u64 x.n] 375∧a'={tmps:=#[.agg #[.int .u64 c.f,.int .u64 c.l,.int .u64 c.r],.int .u64 y,.pointer (some ⟨s,0,none⟩),.pointer (some ⟨s+1,0,none⟩),.pointer (some ⟨s+1+1,0,none⟩),.pointer (some ⟨s+1+1+1,0,none⟩),.pointer (some ⟨Bx,0,none⟩),undef,undef,undef,.int .u64 y,.bool false,.agg #[.int .u64 c.f,.int .u64 c.l,.int .u64 c.r],.func (.func 338) #[] #[.pointer (some ⟨s+1+1+1+1,0,none⟩)],.agg #[.int .u64 x.s,.int .u64 x.n],undef,undef,undef,undef,undef,undef,undef,undef,undef,undef,undef,undef,undef,undef,undef,undef,undef,undef,undef,undef,undef,undef,undef,undef,undef,undef,undef,undef],defers:=[]})
  (fun x a' _ X Y row hs hg hr=>by obtain⟨Bx,e1,e2,e3⟩:=hs;exact⟨Bx,e1,Yx W0.heap.size Bx (fun(_:Unit)=>#[.int .u64 x.s,.int .u64 x.n]) _ () X Y row e2 hg hr,e3⟩)
  ?assign ?body ?done ?stop
 case assign=> rintro l d x W K⟨⟨⟨⟨hp,U⟩,q⟩,R⟩,z⟩hK;dsimp only[pcE];gi_wp2;exact hK _ _ (Vg ((Zg Qb W).alloc _) (fun k h=>h.elim)) (Le.chg ((Zg Qb W).alloc _) (fun _ _ h=>h)) ⟨⟨⟨⟨hp,U.alloc _⟩,q.alloc _⟩,R.alloc _⟩,z.alloc _⟩ ⟨W.heap.size,by have:=z.size;omega,Qh.new W _ _,rfl⟩
 case body=>
  rintro l d x a' W hl a4⟨⟨⟨⟨hp,U⟩,q⟩,R⟩,z⟩⟨Bx,a3,bX,rfl⟩Xg;have HT:=O (Rs x.s x.n x.hs x.hn);have aa:=Yz;have am:=Qss y d;have ak:stA 0 d<18446744073709551616:=Qu6 d;have af:=Qhc x d 0 y;rw[hp]at af;have au:stY y (d++[x])=stY y d-min Xw (x.s*x.n):=by unfold stY;rw[List.foldl_append];rfl
  have aq:stA 0 (d++[x])=(stA 0 d+x.n)%18446744073709551616:=by unfold stA;rw[List.foldl_append];rfl
  have hx:=x.hs;have a6:=x.hn;rw[goL,goL]at af;have ae:min Xw (x.s*x.n)≥stY y d→stY y d≠0→0<x.s:=fun h1 h2=>Nat.pos_of_ne_zero fun h=>by rw[h,Nat.zero_mul]at h1;omega
  have hm:min Xw (x.s*x.n)≤Xw:=Nat.min_le_left _ _;generalize min Xw (x.s*x.n)=m at*;have HU:=fun(h:0<x.s)=>Qir (stY y d) x.s (by omega) hx h;have hu:upN (stY y d) x.s≤Xw:=Nat.min_le_right _ _;generalize upN (stY y d) x.s=u at*;generalize stY y d=y1 at*;generalize stA 0 d=a1 at*;generalize x.s=xs at*;generalize x.n=xn at*;have Z:=O af;have ao:=O au;have an:=O aq;have BY:=O U;have BR:=O q;have BA:=O R;have BX:=O bX;have HC:=O z;have sz:=z.size;clear af au aq U q R bX z hp;have y0:=Jf BY.o;have x0:=Q4 BX.o;obtain⟨x0,x1⟩:=x0;have hT:∀k,T3 s k→k<W0.heap.size:=fun k hk=>by rcases hk with h|h|h<;>omega
  have kp:∀w2,Qc (T3 s) W w2→Le (fun k=>k=s+1+1+1+1) W w2:=fun w2 h=>Le.chg h fun k e hk=>by subst e;rcases hk with h|h|h<;>omega
  have KP:=O kp;have ai:=O hT;clear kp hT;by_cases h1:y1≤m
  ·have d1:(y1:Int)≤(m:Int):=by omega
   have ax:decide (y1≤m)=true:=by simpa using h1
   by_cases h2:y1=0;·subst h2;rw[if_pos (Nat.zero_le _),if_pos rfl]at Z;clear HU ae hm am ak hu aa;gi_wp2_with (refine⟨trivial,?_⟩;gi_at_call 312;with_reducible refine(CallsIn.inRound l (callsIn_wide.2 (HT.o _))).mono ?_;rintro e w1⟨rfl,I⟩;have C1:=O I;have J:=O (I.blk BY.o (fun h=>h));have B:=O (I.blk BR.o (fun h=>h));have E:=O (I.blk BA.o (fun h=>h));have V:=O (I.blk BX.o (fun h=>h));have c0:=Jf J.o;have ap:=Jf E.o;have c2:=Jf B.o;obtain⟨c3,c4⟩:=Q4 V.o;have z0:=J.o.frozen;have z1:=E.o.frozen;have z2:=B.o.frozen;clear I);exact⟨Vg (C1.o.none.setCell _ (.inl (.inr (.inl rfl)))) ai.o,⟨⟨rfl,by rw[Z.o];rfl⟩,by rw[Z.o];exact B.o.set' 0 _ rfl⟩,(HC.o.aA C1.o.none).setCell _ (.inl (.inr (.inl rfl)))⟩
   ·rw[if_pos h1,if_neg h2]at Z;have HU:=O (HU (ae h1 h2));have d2:((y1:Int)==0)=false:=by simp;omega
    have ab:IntKind.u64.wrap ((a1:Int)+(u:Int))=(((a1+u)%18446744073709551616:Nat):Int):=by rw[IntKind.wrap_u64];omega
    generalize(a1+u)%18446744073709551616=v at ab Z;clear ae hm am ak hu aa h1 h2;gi_wp2_with (first|(refine⟨trivial,?_⟩;gi_at_call 312;with_reducible refine(CallsIn.inRound l (callsIn_wide.2 (HT.o _))).mono ?_;rintro e w1⟨rfl,I⟩;have C1:=O I;have J:=O (I.blk BY.o (fun h=>h));have B:=O (I.blk BR.o (fun h=>h));have E:=O (I.blk BA.o (fun h=>h));have V:=O (I.blk BX.o (fun h=>h));have c0:=Jf J.o;have ap:=Jf E.o;have c2:=Jf B.o;obtain⟨c3,c4⟩:=Q4 V.o;have z0:=J.o.frozen;have z1:=E.o.frozen;have z2:=B.o.frozen;clear I)|(refine⟨trivial,?_⟩;gi_at_call 311;with_reducible refine(CallsIn.inRound l (callsIn_wide.2 (HU.o _))).mono ?_;rintro e w2⟨rfl,d1⟩;have C2:=O (C1.o.aA d1);have aw:=O (d1.blk E.o (fun h=>h));have ah:=O (d1.blk B.o (fun h=>h));have q1:=Jf aw.o;have q2:=Jf ah.o;have q3:=ah.o.frozen;clear d1));exact⟨Vg (C2.o.none.setCell _ (.inl (.inr (.inl rfl)))) ai.o,⟨⟨rfl,by rw[Z.o];rfl⟩,by rw[Z.o];exact ah.o.set' 0 _ rfl⟩,(HC.o.aA C2.o.none).setCell _ (.inl (.inr (.inl rfl)))⟩
  ·have d1:¬(y1:Int)≥(m:Int)→True:=fun _=>trivial;have ax:decide (y1≤m)=false:=by simpa using h1
   have d2:¬(y1:Int)≤(m:Int):=by omega
   have av:IntKind.u64.wrap ((y1:Int)-(m:Int))=((y1-m:Nat):Int):=by rw[IntWalk.u64_in _ (by omega)];omega
   have ab:IntKind.u64.wrap ((a1:Int)+(xn:Int))=(((a1+xn)%18446744073709551616:Nat):Int):=by rw[IntKind.wrap_u64];omega
   rw[if_neg h1]at Z;generalize(a1+xn)%18446744073709551616=a2 at ab an Z;generalize y1-m=y2 at av ao Z;clear HU ae hm am ak hu aa h1 d1;gi_wp2_with (refine⟨trivial,?_⟩;gi_at_call 312;with_reducible refine(CallsIn.inRound l (callsIn_wide.2 (HT.o _))).mono ?_;rintro e w1⟨rfl,I⟩;have C1:=O I;have J:=O (I.blk BY.o (fun h=>h));have B:=O (I.blk BR.o (fun h=>h));have E:=O (I.blk BA.o (fun h=>h));have V:=O (I.blk BX.o (fun h=>h));have c0:=Jf J.o;have ap:=Jf E.o;have c2:=Jf B.o;obtain⟨c3,c4⟩:=Q4 V.o;have z0:=J.o.frozen;have z1:=E.o.frozen;have z2:=B.o.frozen;clear I);have a0:s+1≠s+1+1:=by omega
   have HW:=O (((C1.o.none (F:=T3 s)).setCell (a:=⟨s+1,0,none⟩) (.int .u64 y2) (.inl (.inl rfl))).setCell (a:=⟨s+1+1+1,0,none⟩) (.int .u64 a2) (.inl (.inr (.inr rfl))));refine⟨Vg HW.o ai.o,KP.o _ HW.o,⟨⟨⟨by rw[Z.o],?_⟩,?_⟩,?_⟩,HC.o.aA HW.o⟩;·rw[ao.o];exact(J.o.set' 0 _ rfl).other _ (by show s+1+1+1≠s+1;omega)
   ·exact(B.o.other _ (by show s+1≠s+1+1;omega)).other _ (by show s+1+1+1≠s+1+1;omega)
   ·rw[an.o];exact(E.o.other _ (by show s+1≠s+1+1+1;omega)).set' 0 _ rfl
 case done=>
  rintro D ys W hD rfl⟨⟨⟨⟨hp,U⟩,q⟩,R⟩,z⟩hK;have hv:U7 c y=9223372036854775808:=by rw[←HR.o,hp];rfl
  have Hv:=O hv;have a5:=q.lt;have ay:=z.size;have HC:=O ((C0.o.trans z (fun k hk=>.inr (by rw[←ac.o];rcases hk with h|h|h<;>omega))).setCell (a:=⟨s+1+1,0,none⟩) (.int .u64 9223372036854775808) (.inr (by rw[←ac.o];show s≤s+1+1;omega)));have BR:=O (q.set' 0 (.int .u64 9223372036854775808) rfl);have aj:Hi ((W.setCell ⟨s+1+1,0,none⟩ (.int .u64 9223372036854775808)).heap[D]? =some (.deferred (some []))):=O ((KeepsOthers.setCell W ⟨s+1+1,0,none⟩ (.int .u64 9223372036854775808)).same D _ hK rfl);have z0:=Jf q;have z1:=q.frozen 0;clear hp U R q z hv;gi_wp2;refine⟨by simp,.inl ⟨_,_,rfl,run_takeDeferred aj.o,?_⟩⟩;have hB:=Uc BR.o aj.o;have al:=Jf hB;refine⟨.int .u64 9223372036854775808,?_,by rw[Hv.o];rfl,Ud HC.o (by rw[←ac.o];omega) (Z2.1 aj.o).1⟩;clear hB;simp[results,Tryz.results331,go_sem,al]
 case stop=>
  rintro D c' d W hD ag⟨⟨⟨rfl,hv⟩,q⟩,z⟩hK;have ay:=z.size;have HC:=O (C0.o.trans z (fun k hk=>.inr (by rw[←ac.o];rcases hk with h|h|h<;>omega)));obtain⟨v,hv⟩:=Option.isSome_iff_exists.1 hv;have e:U7 c y=v:=by rw[←HR.o,Qki ag hv];rfl
  rw[hv]at q;have He:=O e;clear e hv ag;gi_wp2;refine⟨by simp,.inl ⟨_,_,rfl,run_takeDeferred hK,?_⟩⟩;have hB:=Uc q hK;have al:=Jf hB;refine⟨.int .u64 v,?_,by rw[He.o],Ud HC.o (by rw[←ac.o];omega) (Z2.1 hK).1⟩;clear hB;simp[results,Tryz.results331,go_sem,al]
end
end Go.Proofs.YtnnhmpehkbihnaaGreat
