/- A part of the proof: no condition. -/
import Derived.Test.YtigcnnkagkbflaaGreatYq01
namespace Go.Proofs.YtigcnnkagkbflaaGreat
set_option linter.unusedVariables false
set_option maxRecDepth 100000
set_option maxHeartbeats 4000000
open Go.RowKit
open Go.Proofs.Tryz
def cV(c:Jy):Value:=.agg #[ZU c.f,ZU c.l,ZU c.r]
theorem X8{P:Program}(c:Array TypeId)(t:TypeId)(k:IntKind)(a b:Int)(w):(Builtin.min_ c t #[.int k a,.int k b]).run P w=.ok (.int k (min a b)) w:=by
 have e:(if b<a then b else a)=min a b:=by split<;>omega
 rw[run_min_int2,e]
theorem Yd{P:Program}(c:Array TypeId)(t:TypeId)(k:IntKind)(a b:Int)(w):(Builtin.max_ c t #[.int k a,.int k b]).run P w=.ok (.int k (max a b)) w:=by
 have e:(if a<b then b else a)=max a b:=by split<;>omega
 rw[run_max_int2,e]
theorem Yz:Xw=4611686018427387904:=rfl
theorem Yf:Qq=9223372036854775808:=rfl
theorem Rs(a b:Nat)(ha:a<18446744073709551616)(z:b<18446744073709551616)(w):ZW 340 #[ZU a,ZU b] w (ZU (min Xw (a*b):Nat)) λw'=>Qc Qb w w':=by
 have c:=O (λw=>Dw a b w ha z);have k:min Xw (a*b)=min (a*b) Ca:=Nat.min_comm _ _;rw[k];by_cases h:a*b<18446744073709551616;·rw[Nat.div_eq_of_lt h,Nat.mod_eq_of_lt h]at c;have d:=O (λw=>Pd (a*b) w);generalize a*b=n at c d|-;generalize min n Ca=r at d|-;clear h ha z k;apply WH func340;go_wp2_with fail;apply Zz (c.o _);intro w1 q;go_wp2_with fail;apply Zz (d.o _);intro w2 u;go_wp2;go_ret;exact⟨rfl,(q.alloc _).aA u⟩
 .have B:0<a*b/18446744073709551616:=Nat.div_pos (by omega) (by decide);have E:min (a*b) Ca=4611686018427387904:=by rw[Na];omega
  rw[E];generalize a*b/18446744073709551616=I at c B;generalize a*b%18446744073709551616=K at c;have d:=O (λw=>Tg K w);have R:decide ((0:Int)<(I:Int))=true:=by simp;omega
  have J:decide (0<I)=true:=by simp;omega
  clear h ha z E B k;apply WH func340;go_wp2_with fail;apply Zz (c.o _);intro w1 q;go_wp2_with fail;apply Zz (d.o _);intro w2 u;go_wp2;go_ret;exact⟨rfl,(q.alloc _).aA u⟩
theorem Qiq(a b:Nat)(ha:a<=Xw)(w):ZW 364 #[ZU a,ZU b] w (ZU (a-b:Nat)) λw'=>Qc Qb w w':=by
 rw[Yz]at ha;by_cases h:a<b
 .have e:a-b=0:=by omega
  rw[e];apply WH func364;go_wp2;go_ret;exact⟨rfl,Zg _ _⟩
 .have c:=O (λw=>Pd (a-b) w);have e:min (a-b) Ca=a-b:=by rw[Na];omega
  rw[e]at c;have k:IntKind.u64.wrap ((a:Int)-(b:Int))=((a-b:Nat):Int):=by rw[IntWalk.u64_in _ (by omega)];omega
  have h':¬(a:Int)<(b:Int):=by omega
  generalize a-b=n at c k|-;clear e ha h;apply WH func364;go_wp2_with fail;apply Zz (c.o _);intro w2 d;go_wp2;go_ret;exact⟨rfl,d⟩
theorem L7(c:Jy)(w):ZW 265 #[cV c] w (.bool (decide (c.r<c.f))) λw'=>Qc Qb w w':=by unfold cV;apply WH func265;go_wp2;go_ret;exact⟨by simp,(Zg _ _).alloc _⟩
theorem Qgr(c:Jy)(k:c.May)(h:c.r<c.f)(w):ZW 336 #[cV c] w (.tuple #[ZU ((c.f-c.r)*c.l:Nat),.bool true]) λw'=>Qc Qb w w':=by
 have z:=O (λw=>L7 c w);have q:=O (λw=>Rs (c.f-c.r) c.l (by have:=k.hf;omega) (by have:=k.hl;omega) w);rw[decide_eq_true h]at z;have J:(c.f-c.r)*c.l<=1048576*1099511627776:=Nat.mul_le_mul (by have:=k.hf;omega) k.hl;rw[Nat.min_eq_right (by rw[Yz];omega)]at q;have K:IntKind.u64.wrap ((c.f:Int)-(c.r:Int))=((c.f-c.r:Nat):Int):=by have:=k.hf;rw[IntWalk.u64_in _ (by omega)];omega
 obtain⟨f,l,r⟩:=c;unfold cV at*;dsimp only at*;generalize(f-r)*l=n at q|-;generalize f-r=d at q K;clear J k h;apply WH func336;go_wp2_with fail;apply Zz (z.o _);intro w1 u;have E:=L6 (u.blk (Qh.new w _ _) (λh=>h));have R:=E;have B:=O (((Zg Qb w).alloc _).aA u);clear u;go_wp2_with fail;apply Zz (q.o _);intro w2 I;go_wp2;go_ret2;exact⟨rfl,B.o.aA I⟩
theorem Qpx(a:Nat)(ha:a<18446744073709551616)(w):ZW 339 #[ZU a,ZU 1,ZU 0] w (.tuple #[ZU 0,ZI 2]) λw'=>Qc Qb w w':=by
 have d:=O (λw=>Dw a 1 w ha (by omega));rw[Nat.mul_one,Nat.div_eq_of_lt ha,Nat.mod_eq_of_lt ha]at d;have B:=O (λw=>Qqp 0 0 (a:Int) w);clear ha;have E:Hi (∀w,ZW 343 #[.agg #[.func (.func 342) #[] #[]],ZU a,ZU 1,ZU 0] w (.tuple #[ZU 0,ZI 2]) λw'=>Qc Qb w w'):=O (by
  intro w;have q:=O ((Zg Qb w).alloc (.cells #[.func (.func 342) #[] #[]] 396));apply WH func343;go_wp2_with fail;apply Z9 (d.o _) (λ_ c=>q.o.aA c);intro w1 u;go_wp2_with fail;apply Z9 (B.o _) (λ_ k=>u.o.aA k);intro w2 z;go_wp2;exact bodyPost_ret (v:=.tuple #[ZU 0,ZI 2]) (by simp[results,Tryz.results343,go_sem]) rfl ⟨rfl,z.o⟩)
 apply WH func339;go_wp2_with fail;apply Zz (E.o _);intro w1 c;go_wp2;exact bodyPost_ret (v:=.tuple #[ZU 0,ZI 2]) (by simp[results,Tryz.results339,go_sem]) rfl ⟨rfl,c⟩
theorem Qmr{a c:Nat}(d:0<c)(ha:a<=Xw):upN a c=Tw a c:=by
 have h:=(D9 d (a:=a) (n:=a)).2 (Nat.le_mul_of_pos_left a d);have e:(a+c-1)/c=Tw a c:=by unfold Tw;rw[show a+(c-1)=a+c-1 by omega]
 unfold upN;rw[e,Nat.min_eq_left];exact Zp h ha
section
open Go.Shelf
attribute [local go_sem] Oper.semAt_some
structure Pc where
 s:Nat
 n:Nat
 hs:s<18446744073709551616
 hn:n<18446744073709551616
def pcE(x:Pc):Array Value:=#[.agg #[ZU x.s,ZU x.n]]
def Fo:Nat:=18446744073709551615
def pc1(c:Jy)(d:c.May):Pc:=⟨c.f,c.l,by have:=d.hf;omega,by have:=d.hl;omega⟩
def pc2(c:Jy)(d:c.May):Pc:=⟨c.r,Fo,by have:=d.hr;omega,by decide⟩
def pcs(c:Jy)(d:c.May):List Pc:=if c.l=0 then[pc2 c d]else[pc1 c d,pc2 c d]
theorem Qlh(n l B:Nat)(hn:1<=n)(c:Jy)(q:c.May)(J Jx:List Pc->World->Prop)
  (hY:∀d x W,J d W->d.length<2->YieldAt Fence.wide (n-1) prog l (pcE x) W λe R=>
   (e=.returned (.bool true)/\J (d++[x]) R/\Le (λk=>k=B) W R)\/(e=.returned (.bool false)/\Jx (d++[x]) R))
  (W) (hB:Qh W B #[ZU c.f,ZU c.l,ZU c.r] 27) (h0:J [] W):
  CallsIn Fence.wide n prog 366 #[.func (.yield l) #[] #[],ZP B] W λe R=>(∃v,e=.returned v)/\
   ((∃ys,ys=pcs c q/\J ys R)\/(∃d,d<+:pcs c q/\Jx d R)):=by
 have HB:=O hB;obtain⟨a0,a1,a2⟩:=L6 hB;by_cases hl:c.l=0
 .obtain⟨fn,ac,z,Z,hy,hR⟩:=hY [] (pc2 c q) W h0 (by simp);have K:Hi (pcs c q=[pc2 c q]):=O (if_pos hl);have hd:decide ((0:Int)<(c.l:Int))=false:=by simp;omega
  have ah:decide (0<c.l)=false:=by simp;omega
  clear hB hl hY;dsimp only[pcE,pc1,pc2]at hy;rw[show((Fo:Nat):Int)=18446744073709551615 from rfl]at hy;refine callsIn_of_wp func366 rfl trivial ?_ rfl;simp only[ntmps366,List.size_toArray,Zm,List.length_nil,Nat.reduceAdd,Nat.reduceSub,Array.replicate_succ,Array.replicate_zero,List.push_toArray,List.append_toArray,List.nil_append,List.cons_append];gi_wp2;refine⟨λ_ h=>(by cases h),?_⟩;gi_wp2;refine hR.mono ?_;rintro e W3(⟨rfl,E,I⟩|⟨rfl,u⟩);·gi_wp2;refine WB rfl rfl ?_;exact⟨⟨_,rfl⟩,.inl ⟨_,K.o.symm,E⟩⟩
  .gi_wp2;refine WB rfl rfl ?_;exact⟨⟨_,rfl⟩,.inr ⟨[pc2 c q],by rw[K.o];exact List.prefix_refl _,u⟩⟩
 .obtain⟨fn,ac,z,Z,hy,hR⟩:=hY [] (pc1 c q) W h0 (by simp);have K:Hi (pcs c q=[pc1 c q,pc2 c q]):=O (if_neg hl);have hd:decide ((0:Int)<(c.l:Int))=true:=by simp;omega
  have ah:decide (0<c.l)=true:=by simp;omega
  have HY:=O hY;clear hB hl hY;dsimp only[pcE,pc1,pc2]at hy;refine callsIn_of_wp func366 rfl trivial ?_ rfl;simp only[ntmps366,List.size_toArray,Zm,List.length_nil,Nat.reduceAdd,Nat.reduceSub,Array.replicate_succ,Array.replicate_zero,List.push_toArray,List.append_toArray,List.nil_append,List.cons_append];gi_wp2;refine hR.mono ?_;rintro e W3(⟨rfl,E,I⟩|⟨rfl,u⟩)
  .obtain⟨aj,ai,V,ae,ab,ag⟩:=HY.o _ (pc2 c q) W3 E (by simp);have U:=I.blk HB.o rfl;clear a0 a1 a2 I hy;obtain⟨a0,a1,a2⟩:=L6 U;dsimp only[pcE,pc1,pc2]at ab;rw[show((Fo:Nat):Int)=18446744073709551615 from rfl]at ab;clear U;gi_wp2;refine ag.mono ?_;rintro e W4(⟨rfl,af,ak⟩|⟨rfl,aa⟩);·gi_wp2;refine WB rfl rfl ?_;exact⟨⟨_,rfl⟩,.inl ⟨_,K.o.symm,af⟩⟩
   .gi_wp2;refine WB rfl rfl ?_;exact⟨⟨_,rfl⟩,.inr ⟨[pc1 c q,pc2 c q],by rw[K.o];exact List.prefix_refl _,aa⟩⟩
  .gi_wp2;refine WA rfl rfl ?_;exact⟨⟨_,rfl⟩,.inr ⟨[pc1 c q],by rw[K.o];simp,u⟩⟩
theorem Qfh(n B:Nat)(R:1<=n)(c:Jy)(d:c.May)(w)(E:Qh w B #[ZU c.f,ZU c.l,ZU c.r] 27):
  SeqStopsK Fence.wide n prog 366 #[ZP B] pcE (Le (λk=>k=B)) (λU=>U=pcs c d) (λq=>q<+:pcs c d) 2 w:=λl J u W I _ _ K z=>
 Qlh n l B R c d J u K W ((Qc.ofBelow (S:=Qb) I).blk E (λh=>h)) z
theorem Qgs(c:Jy)(w):ZW 365 #[cV c] w (.func (.func 366) #[] #[ZP w.heap.size]) λw'=>w'=w.alloc (.cells #[ZU c.f,ZU c.l,ZU c.r] 27):=by unfold cV;apply WH func365;exact WE
def goL:Nat->Nat->List Pc->Option Nat
 |_,_,[]=>none
 |a,y,x::r=>if y<=min Xw (x.s*x.n)then some (if y=0 then a else(a+upN y x.s)%18446744073709551616)else goL ((a+x.n)%18446744073709551616) (y-min Xw (x.s*x.n)) r
def stA(a:Nat)(l:List Pc):Nat:=l.foldl (λa x=>(a+x.n)%18446744073709551616) a
def stY(y:Nat)(l:List Pc):Nat:=l.foldl (λy x=>y-min Xw (x.s*x.n)) y
theorem Qhc(x:Pc):∀(l:List Pc)(a y:Nat),goL a y (l++[x])=match goL a y l with
  |some v=>some v
  |none=>goL (stA a l) (stY y l) [x]
 |[],a,y=>rfl
 |z::l,a,y=>by
  rw[List.cons_append,goL,goL];split;·rfl
  .rw[Qhc x l];rfl
theorem Qki{l:List Pc}:∀{c:List Pc}{a y v:Nat},c<+:l->goL a y c=some v->goL a y l=some v:=by
 induction l with
 |nil=> intro c a y v h e;rw[List.prefix_nil.1 h]at e;exact e
 |cons z l k=>
  intro c a y v h e;cases c with
  |nil=>cases e
  |cons u c=>
   obtain⟨rfl,h'⟩:=List.cons_prefix_cons.1 h;rw[goL]at e|-;split;·rename_i d;rw[if_pos d]at e;exact e
   .rename_i d;rw[if_neg d]at e;exact k h' e
theorem Qss(y:Nat):∀(l:List Pc),stY y l<=y
 |[]=>Zv _
 |x::l=>Zp (Qss _ l) (Nat.sub_le _ _)
def U7(c:Jy)(y:Nat):Nat:=if Xw<y then Qq else(c.reach y).getD Qq
theorem Qon(c:Jy)(q:c.May)(y:Nat)(V:y<=Xw):(goL 0 y (pcs c q)).getD Qq=U7 c y:=by
 have U:=Yz;have h1:=q.hf;have R:=q.hl;have h3:=q.hr;have aa:c.f*c.l<=1048576*1099511627776:=Nat.mul_le_mul h1 R;unfold U7;rw[if_neg (by omega)];have u:∀a z,a<=1099511627776->0<z\/a=0->z<=Xw->(goL a z [pc2 c q]).getD Qq=(if z=0 then a else if c.r=0 then Qq else a+Tw z c.r):=by
  intro a z ha hz K;rw[goL,goL];show(if z<=min Xw (c.r*Fo)then some (if z=0 then a else(a+upN z c.r)%18446744073709551616)else none).getD Qq=_;by_cases B:c.r=0
  .rw[B,Nat.zero_mul];by_cases k:z=0;·rw[if_pos (by omega),if_pos k,if_pos k];rfl
   .rw[if_neg (by omega),if_neg k,if_pos rfl];rfl
  .have hb:Xw<=c.r*Fo:=by have:1*Fo<=c.r*Fo:=Nat.mul_le_mul_right _ (by omega);have e:Fo=18446744073709551615:=rfl;omega
   rw[if_pos (by omega)];by_cases k:z=0;·rw[if_pos k,if_pos k];rfl
   .rw[if_neg k,if_neg k,if_neg B,Qmr (by omega) K];have:Tw z c.r<=z:=(D9 (by omega)).2 (Nat.le_mul_of_pos_left z (by omega));rw[Nat.mod_eq_of_lt (by omega)];rfl
 by_cases J:c.l=0
 .have e:pcs c q=[pc2 c q]:=if_pos J;have I:=q.h0 J;rw[e,u 0 y (by omega) (by omega) V];unfold Jy.reach;rw[I,J];simp only[Nat.mul_zero,Nat.zero_add,Nat.sub_zero];by_cases d:y=0;·rw[if_pos d,if_pos d];rfl
  .rw[if_neg d,if_neg d,if_neg (show¬y<=0 by omega)];by_cases B:c.r=0;·rw[if_pos B,if_pos B];rfl
   .rw[if_neg B,if_neg B];rfl
 .have e:pcs c q=[pc1 c q,pc2 c q]:=if_neg J;rw[e,goL];have Z:min Xw ((pc1 c q).s*(pc1 c q).n)=c.f*c.l:=by show min Xw (c.f*c.l)=_;omega
  rw[Z];unfold Jy.reach;by_cases E:y<=c.f*c.l
  .rw[if_pos E,if_pos E];by_cases d:y=0;·rw[if_pos d,if_pos d]
   .rw[if_neg d,if_neg d];have I:0<c.f:=Nat.pos_of_ne_zero λh=>by rw[h,Nat.zero_mul]at E;exact d (Nat.le_zero.1 E)
    show(some ((0+upN y c.f)%18446744073709551616)).getD Qq=_;rw[Qmr I V];have:Tw y c.f<=y:=(D9 I).2 (Nat.le_mul_of_pos_left y I);rw[Nat.zero_add,Nat.mod_eq_of_lt (by omega)]
  .have d:y≠0:=λh=>E (by rw[h];exact Nat.zero_le _);rw[if_neg E,if_neg d,if_neg E];show(goL ((0+c.l)%18446744073709551616) (y-c.f*c.l) [pc2 c q]).getD Qq=_;rw[Nat.zero_add,Nat.mod_eq_of_lt (by omega),u c.l (y-c.f*c.l) R (.inl (by omega)) (by omega),if_neg (show¬y-c.f*c.l=0 by omega)];by_cases B:c.r=0;·rw[if_pos B,if_pos B];rfl
   .rw[if_neg B,if_neg B];rfl
theorem Qu6:∀(l:List Pc),stA 0 l<18446744073709551616:=by
 have:∀(l:List Pc)(a:Nat),a<18446744073709551616->stA a l<18446744073709551616:=by
  intro l;induction l with
  |nil=>exact λa h=>h
  |cons x l c=>exact λa _=>c _ (Nat.mod_lt _ (by decide))
 exact λl=>this l 0 (by decide)
def T3(s:Nat):Fp:=λk=>k=s+1\/k=s+1+1\/k=s+1+1+1
theorem Aw(c:Jy)(hc:c.May)(y:Nat)(hy:y<=Xw)(w):ZW 359 #[cV c,ZU y] w (ZU (U7 c y:Nat)) λw'=>Qc Qb w w':=by
 have hd:¬(4611686018427387904:Int)<(y:Int):=by have:=Yz;omega
 have HP:=O (Qgs c);have HR:=O (Qon c hc y hy);refine callsIn_wide (n:=9).1 ?_;unfold cV at*;refine callsIn_of_wp_marks func359 rfl trivial ?_;simp only[ntmps359,List.size_toArray,Zm,List.length_nil,Nat.reduceAdd,Nat.reduceSub,Array.replicate_succ,Array.replicate_zero,List.push_toArray,List.append_toArray,List.nil_append,List.cons_append];gi_wp2_with (refine⟨trivial,?_⟩;gi_at_call 365;refine(callsIn_wide.2 (HP.o _)).mono ?_;rintro e w1⟨rfl,rfl⟩);obtain⟨s,hs⟩:=Zx (w.heap.size);have bY:=O ((((Qh.new (w.alloc (.cells #[ZU c.f,ZU c.l,ZU c.r] 27)) #[ZU y] 22).alloc (.cells #[ZU 0] 22)).alloc (.cells #[ZU 0] 22)).alloc (.cells #[ZU c.f,ZU c.l,ZU c.r] 27));have bR:=O (((Qh.new ((w.alloc (.cells #[ZU c.f,ZU c.l,ZU c.r] 27)).alloc (.cells #[ZU y] 22)) #[ZU 0] 22).alloc (.cells #[ZU 0] 22)).alloc (.cells #[ZU c.f,ZU c.l,ZU c.r] 27));have bA:=O ((Qh.new (((w.alloc (.cells #[ZU c.f,ZU c.l,ZU c.r] 27)).alloc (.cells #[ZU y] 22)).alloc (.cells #[ZU 0] 22)) #[ZU 0] 22).alloc (.cells #[ZU c.f,ZU c.l,ZU c.r] 27));have bC:=O (Qh.new ((((w.alloc (.cells #[ZU c.f,ZU c.l,ZU c.r] 27)).alloc (.cells #[ZU y] 22)).alloc (.cells #[ZU 0] 22)).alloc (.cells #[ZU 0] 22)) #[ZU c.f,ZU c.l,ZU c.r] 27);have C0:=O ((((((Zg Qb w).alloc (.cells #[ZU c.f,ZU c.l,ZU c.r] 27)).alloc (.cells #[ZU y] 22)).alloc (.cells #[ZU 0] 22)).alloc (.cells #[ZU 0] 22)).alloc (.cells #[ZU c.f,ZU c.l,ZU c.r] 27));have az:(((((w.alloc (.cells #[ZU c.f,ZU c.l,ZU c.r] 27)).alloc (.cells #[ZU y] 22)).alloc (.cells #[ZU 0] 22)).alloc (.cells #[ZU 0] 22)).alloc (.cells #[ZU c.f,ZU c.l,ZU c.r] 27)).heap.size=s+5:=by rw[hs];simp
 simp only[World.size_alloc,<-hs]at bY bR bA bC;rw[<-hs];obtain⟨W0,ar⟩:=Zx (((((w.alloc (.cells #[ZU c.f,ZU c.l,ZU c.r] 27)).alloc (.cells #[ZU y] 22)).alloc (.cells #[ZU 0] 22)).alloc (.cells #[ZU 0] 22)).alloc (.cells #[ZU c.f,ZU c.l,ZU c.r] 27));rw[<-ar]at bY bR bA bC C0 az|-;clear ar;have ac:=O hs;clear hs;refine wpIn_rangeFunc_ownH rfl (by decide) (gf:=366) (lb:=#[ZP (s+1+1+1+1)]) rfl trivial (enters_of func366 (by kernel_rfl) rfl)
  (Qfh 8 (s+1+1+1+1) (by decide) c hc W0 bC.o) (λh k=>h.trans k) (λW l o o' h1 h2 h3 h4=>Le.put (w:=W0) W l o o' h1 h2 h3 h4) (Below.refl _ _) (λ_=>rfl)
  (λd W=>((((goL 0 y d=none)/\Qh W (s+1) #[ZU (stY y d:Int)] 22)/\Qh W (s+1+1) #[ZU 0] 22)/\Qh W (s+1+1+1) #[ZU (stA 0 d:Int)] 22)/\Qc (T3 s) W0 W)
  (λc d W=>((c=.ret/\(goL 0 y d).isSome=true)/\Qh W (s+1+1) #[ZU ((goL 0 y d).getD 0:Nat)] 22)/\Qc (T3 s) W0 W)
  (OwnFrom.and (OwnFrom.and (OwnFrom.and (OwnFrom.and (ownFrom_pure _ _) (Yx _ _ _ _)) (Yx _ _ _ _)) (Yx _ _ _ _)) (Dr (Zv _)))
  (λc=>OwnFrom.and (OwnFrom.and (ownFrom_pure _ _) (Yx _ _ _ _)) (Dr (Zv _)))
  ⟨⟨⟨⟨rfl,bY.o⟩,bR.o⟩,bA.o⟩,Zg _ _⟩
  (λx a' W=>∃Bx,s+5<=Bx/\Qh W Bx #[ZU x.s,ZU x.n] 413/\a'={tmps:=#[.agg #[ZU c.f,ZU c.l,ZU c.r],ZU y,ZP s,ZP (s+1),ZP (s+1+1),ZP (s+1+1+1),ZP Bx,undef,undef,undef,ZU y,.bool false,.agg #[ZU c.f,ZU c.l,ZU c.r],.func (.func 366) #[] #[ZP (s+1+1+1+1)],.agg #[ZU x.s,ZU x.n],undef,undef,undef,undef,undef,undef,undef,undef,undef,undef,undef,undef,undef,undef,undef,undef,undef,undef,undef,undef,undef,undef,undef,undef,undef,undef,undef,undef],defers:=[]})
  (λx a' _ X Y a0 hs hg hr=>by obtain⟨Bx,e1,e2,e3⟩:=hs;exact⟨Bx,e1,Yx W0.heap.size Bx (λ(_:Unit)=>#[ZU x.s,ZU x.n]) _ () X Y a0 e2 hg hr,e3⟩)
  ?assign ?body ?done ?stop
 case assign=> rintro l d x W K⟨⟨⟨⟨hp,U⟩,q⟩,R⟩,z⟩hK;dsimp only[pcE];gi_wp2;exact hK _ _ (Vg ((Zg Qb W).alloc _) (λk h=>h.elim)) (Le.chg ((Zg Qb W).alloc _) (λ_ _ h=>h)) ⟨⟨⟨⟨hp,U.alloc _⟩,q.alloc _⟩,R.alloc _⟩,z.alloc _⟩ ⟨W.heap.size,by have:=z.size;omega,Qh.new W _ _,rfl⟩
 case body=>
  rintro l d x a' W hl a5⟨⟨⟨⟨hp,U⟩,q⟩,R⟩,z⟩⟨Bx,a4,bX,rfl⟩Xg;have HT:=O (Rs x.s x.n x.hs x.hn);have aa:=Yz;have am:=Qss y d;have ak:stA 0 d<18446744073709551616:=Qu6 d;have af:=Qhc x d 0 y;rw[hp]at af;have au:stY y (d++[x])=stY y d-min Xw (x.s*x.n):=by unfold stY;rw[List.foldl_append];rfl
  have aq:stA 0 (d++[x])=(stA 0 d+x.n)%18446744073709551616:=by unfold stA;rw[List.foldl_append];rfl
  have hx:=x.hs;have a7:=x.hn;rw[goL,goL]at af;have ae:min Xw (x.s*x.n)>=stY y d->stY y d≠0->0<x.s:=λh1 h2=>Nat.pos_of_ne_zero λh=>by rw[h,Nat.zero_mul]at h1;omega
  have hm:min Xw (x.s*x.n)<=Xw:=Nat.min_le_left _ _;generalize min Xw (x.s*x.n)=m at*;have HU:=λ(h:0<x.s)=>Qir (stY y d) x.s (by omega) hx h;have hu:upN (stY y d) x.s<=Xw:=Nat.min_le_right _ _;generalize upN (stY y d) x.s=u at*;generalize stY y d=y1 at*;generalize stA 0 d=a1 at*;generalize x.s=xs at*;generalize x.n=xn at*;have Z:=O af;have ao:=O au;have an:=O aq;have BY:=O U;have BR:=O q;have BA:=O R;have BX:=O bX;have HC:=O z;have sz:=z.size;clear af au aq U q R bX z hp;have y0:=Jf BY.o;have x0:=Q4 BX.o;have x0:=x0;have hT:∀k,T3 s k->k<W0.heap.size:=λk hk=>by rcases hk with h|h|h<;>omega
  have kp:∀w2,Qc (T3 s) W w2->Le (λk=>k=s+1+1+1+1) W w2:=λw2 h=>Le.chg h λk e hk=>by subst e;rcases hk with h|h|h<;>omega
  have KP:=O kp;have ai:=O hT;clear kp hT;by_cases h1:y1<=m
  .have d1:(y1:Int)<=(m:Int):=by omega
   have ax:decide (y1<=m)=true:=by simpa using h1
   by_cases h2:y1=0;·subst h2;rw[if_pos (Nat.zero_le _),if_pos rfl]at Z;clear HU ae hm am ak hu aa;gi_wp2_with (refine⟨trivial,?_⟩;gi_at_call 340;with_reducible refine(CallsIn.inRound l (callsIn_wide.2 (HT.o _))).mono ?_;rintro e w1⟨rfl,I⟩;have C1:=O I;have J:=O (I.blk BY.o (λh=>h));have B:=O (I.blk BR.o (λh=>h));have E:=O (I.blk BA.o (λh=>h));have V:=O (I.blk BX.o (λh=>h));have c0:=Jf J.o;have ap:=Jf E.o;have c2:=Jf B.o;have c3:=Q4 V.o;have z0:=J.o.frozen;have z1:=E.o.frozen;have z2:=B.o.frozen;clear I);exact⟨Vg (C1.o.none.setCell _ (.inl (.inr (.inl rfl)))) ai.o,⟨⟨rfl,by rw[Z.o];rfl⟩,by rw[Z.o];exact B.o.set' 0 _ rfl⟩,(HC.o.aA C1.o.none).setCell _ (.inl (.inr (.inl rfl)))⟩
   .rw[if_pos h1,if_neg h2]at Z;have HU:=O (HU (ae h1 h2));have d2:((y1:Int)==0)=false:=by simp;omega
    have ab:IntKind.u64.wrap ((a1:Int)+(u:Int))=(((a1+u)%18446744073709551616:Nat):Int):=by rw[IntKind.wrap_u64];omega
    generalize(a1+u)%18446744073709551616=v at ab Z;clear ae hm am ak hu aa h1 h2;gi_wp2_with (first|(refine⟨trivial,?_⟩;gi_at_call 340;with_reducible refine(CallsIn.inRound l (callsIn_wide.2 (HT.o _))).mono ?_;rintro e w1⟨rfl,I⟩;have C1:=O I;have J:=O (I.blk BY.o (λh=>h));have B:=O (I.blk BR.o (λh=>h));have E:=O (I.blk BA.o (λh=>h));have V:=O (I.blk BX.o (λh=>h));have c0:=Jf J.o;have ap:=Jf E.o;have c2:=Jf B.o;have c3:=Q4 V.o;have z0:=J.o.frozen;have z1:=E.o.frozen;have z2:=B.o.frozen;clear I)|(refine⟨trivial,?_⟩;gi_at_call 339;with_reducible refine(CallsIn.inRound l (callsIn_wide.2 (HU.o _))).mono ?_;rintro e w2⟨rfl,d1⟩;have C2:=O (C1.o.aA d1);have aw:=O (d1.blk E.o (λh=>h));have ah:=O (d1.blk B.o (λh=>h));have q1:=Jf aw.o;have q2:=Jf ah.o;have q3:=ah.o.frozen;clear d1));exact⟨Vg (C2.o.none.setCell _ (.inl (.inr (.inl rfl)))) ai.o,⟨⟨rfl,by rw[Z.o];rfl⟩,by rw[Z.o];exact ah.o.set' 0 _ rfl⟩,(HC.o.aA C2.o.none).setCell _ (.inl (.inr (.inl rfl)))⟩
  .have d1:¬(y1:Int)>=(m:Int)->True:=λ_=>trivial;have ax:decide (y1<=m)=false:=by simpa using h1
   have d2:¬(y1:Int)<=(m:Int):=by omega
   have av:IntKind.u64.wrap ((y1:Int)-(m:Int))=((y1-m:Nat):Int):=by rw[IntWalk.u64_in _ (by omega)];omega
   have ab:IntKind.u64.wrap ((a1:Int)+(xn:Int))=(((a1+xn)%18446744073709551616:Nat):Int):=by rw[IntKind.wrap_u64];omega
   rw[if_neg h1]at Z;generalize(a1+xn)%18446744073709551616=a2 at ab an Z;generalize y1-m=y2 at av ao Z;clear HU ae hm am ak hu aa h1 d1;gi_wp2_with (refine⟨trivial,?_⟩;gi_at_call 340;with_reducible refine(CallsIn.inRound l (callsIn_wide.2 (HT.o _))).mono ?_;rintro e w1⟨rfl,I⟩;have C1:=O I;have J:=O (I.blk BY.o (λh=>h));have B:=O (I.blk BR.o (λh=>h));have E:=O (I.blk BA.o (λh=>h));have V:=O (I.blk BX.o (λh=>h));have c0:=Jf J.o;have ap:=Jf E.o;have c2:=Jf B.o;have c3:=Q4 V.o;have z0:=J.o.frozen;have z1:=E.o.frozen;have z2:=B.o.frozen;clear I);have a3:s+1≠s+1+1:=by omega
   have HW:=O (((C1.o.none (F:=T3 s)).setCell (a:=⟨s+1,0,none⟩) (ZU y2) (.inl (.inl rfl))).setCell (a:=⟨s+1+1+1,0,none⟩) (ZU a2) (.inl (.inr (.inr rfl))));refine⟨Vg HW.o ai.o,KP.o _ HW.o,⟨⟨⟨by rw[Z.o],?_⟩,?_⟩,?_⟩,HC.o.aA HW.o⟩;·rw[ao.o];exact(J.o.set' 0 _ rfl).other _ (by show s+1+1+1≠s+1;omega)
   .exact(B.o.other _ (by show s+1≠s+1+1;omega)).other _ (by show s+1+1+1≠s+1+1;omega)
   .rw[an.o];exact(E.o.other _ (by show s+1≠s+1+1+1;omega)).set' 0 _ rfl
 case done=>
  rintro D ys W hD rfl⟨⟨⟨⟨hp,U⟩,q⟩,R⟩,z⟩hK;have hv:U7 c y=9223372036854775808:=by rw[<-HR.o,hp];rfl
  have Hv:=O hv;have a6:=q.lt;have ay:=z.size;have HC:=O ((C0.o.trans z (λk hk=>.inr (by rw[<-ac.o];rcases hk with h|h|h<;>omega))).setCell (a:=⟨s+1+1,0,none⟩) (ZU 9223372036854775808) (.inr (by rw[<-ac.o];show s<=s+1+1;omega)));have BR:=O (q.set' 0 (ZU 9223372036854775808) rfl);have aj:Hi ((W.setCell ⟨s+1+1,0,none⟩ (ZU 9223372036854775808)).heap[D]? =some (.deferred (some []))):=O ((KeepsOthers.setCell W ⟨s+1+1,0,none⟩ (ZU 9223372036854775808)).same D _ hK rfl);have z0:=Jf q;have z1:=q.frozen 0;clear hp U R q z hv;gi_wp2;refine⟨by simp,.inl ⟨_,_,rfl,run_takeDeferred aj.o,?_⟩⟩;have hB:=Uc BR.o aj.o;have al:=Jf hB;refine⟨ZU 9223372036854775808,?_,by rw[Hv.o];rfl,Ud HC.o (by rw[<-ac.o];omega) (Z2.1 aj.o).1⟩;clear hB;simp[results,Tryz.results359,go_sem,al]
 case stop=>
  rintro D c' d W hD ag⟨⟨⟨rfl,hv⟩,q⟩,z⟩hK;have ay:=z.size;have HC:=O (C0.o.trans z (λk hk=>.inr (by rw[<-ac.o];rcases hk with h|h|h<;>omega)));obtain⟨v,hv⟩:=Option.isSome_iff_exists.1 hv;have e:U7 c y=v:=by rw[<-HR.o,Qki ag hv];rfl
  rw[hv]at q;have He:=O e;clear e hv ag;gi_wp2;refine⟨by simp,.inl ⟨_,_,rfl,run_takeDeferred hK,?_⟩⟩;have hB:=Uc q hK;have al:=Jf hB;refine⟨ZU v,?_,by rw[He.o],Ud HC.o (by rw[<-ac.o];omega) (Z2.1 hK).1⟩;clear hB;simp[results,Tryz.results359,go_sem,al]
end
end Go.Proofs.YtigcnnkagkbflaaGreat
