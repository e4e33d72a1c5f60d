/- A part of the proof: no condition. -/
import Derived.Test.YtnnhmpehkbihnaaGreatPp03
import Derived.RangeFuncNested
import Derived.RangeFuncBound
import Derived.RangeFuncCalls
import Derived.RangeFuncLeaves
import Derived.Shelf.Abstract
import Derived.Shelf.RegionOpen
import Derived.OwnWalkIn
import Derived.TacticsInMore
import Derived.LoopNIn
import Derived.LoopIn
import Derived.Deep.DrawnRows
import Derived.Deep.DeepCutAuto
namespace Go.Proofs.YtnnhmpehkbihnaaGreat
set_option linter.unusedVariables false
set_option maxRecDepth 100000
set_option maxHeartbeats 4000000
open Go.RowKit
open Go.Proofs.Tryz
section
attribute [local go_sem] Qq
attribute [local go_sem ↓] Xe Xn
def Qvk(b H:Nat)(w:World)(r:Jo)(x h1 u c q Y d n:Nat)(i:Value)(wr:World):Prop:=
 (i=.int .i64 0∧Qh wr b (Qap r x h1 u n) 297∧Qh wr H #[.int .u64 (Y:Int),.int .u64 (d:Int)] 319∧Qc (fun k=>k=b) w wr)∨
 (i=.int .i64 1∧Qh wr b (Qap r x c u n) 297∧Qh wr H #[.int .u64 (c:Int),.int .u64 (d:Int)] 319∧Qc (fun k=>k=b) w wr)∨
 (i=.int .i64 2∧Qh wr b (Qap r x c q n) 297∧Qh wr H #[.int .u64 (c:Int),.int .u64 (q:Int)] 319∧Qc (fun k=>k=b) w wr)
def Lm(p:Bool)(a o:Nat):Nat:=if p then min a o else o
theorem Qi6{p:Bool}{n:Nat}(d:p=decide ((0:Int)<(n:Int)))(a o:Nat):(decide (0<n)=true∧decide (a<o)=true∧Lm p a o=a)∨(decide (0<n)=true∧decide (a<o)=false∧Lm p a o=o)∨(decide (0<n)=false∧Lm p a o=o):=by
 unfold Lm;subst d;by_cases h:0<n
 ·have h':(0:Int)<(n:Int):=by omega
  rw[if_pos (by simpa using h)];by_cases c:a<o;·exact .inl ⟨by simpa using h,by simpa using c,by omega⟩
  ·exact .inr (.inl ⟨by simpa using h,by simpa using c,by omega⟩)
 ·rw[if_neg (by simpa using h)];exact .inr (.inr ⟨by simpa using h,rfl⟩)
theorem Qpi{w:World}{F:Fp}{b:Nat}{r:Jo}(h:Hg w F b r)(hn:r.l.length<4611686018427387904)(x y:Nat)(hx:x<18446744073709551616)(hy:y<18446744073709551616):
  Cl 304 #[ptr b,.int .u64 (x:Int),.int .u64 (y:Int)] w fun e w'=>e=.returned (.tuple #[])∧Hg w' (Qn F w w') b (r.start x y)∧Qc F w w':=by
 have hm:=h.may;have ab:=h.ok.last;obtain⟨X,hX⟩:=Zx (max (min x Qx) (Zp r.l));obtain⟨Y,hY⟩:=Zx (min y Jz);obtain⟨p,hp⟩:∃p:Bool,p=decide ((0:Int)<(r.l.length:Int)):=⟨_,rfl⟩;have K:r.l=[]↔p=false:=by rw[hp];cases r.l<;>simp
 obtain⟨c,ac⟩:=Zx (min Jz (Y+(r.c.f-r.c.r)*r.c.l));obtain⟨d,hd⟩:=Zx (X-Zp r.l);have e1:=r.start_h1 h.ok x y;have e2:=r.start_h2 h.ok x y;rw[←hX,←hd,←hY]at e1 e2;rw[←ac]at e2;obtain⟨a1,ae⟩:=Zx (Kp r.h1 r.c.f d);obtain⟨q,af⟩:=Zx (Kp r.h2 r.c.r d);rw[←ae]at e1;rw[←af]at e2;have f1:(r.start x y).h1=Lm p a1 Y:=by
  rw[e1];unfold Lm;cases p;·rw[if_pos (K.2 rfl)];simp
  ·rw[if_neg (fun h=>by have:=K.1 h;cases this)];simp
 have f2:(r.start x y).h2=Lm p q c:=by
  rw[e2];unfold Lm;cases p;·rw[if_pos (K.2 rfl)];simp
  ·rw[if_neg (fun h=>by have:=K.1 h;cases this)];simp
 clear e1 e2 K;have ao:=Xu;have ap:=Hx;have ak:(r.c.f-r.c.r)*r.c.l≤1048576*1099511627776:=Nat.mul_le_mul (by have:=hm.hf;omega) hm.hl;have HB:=O (Dz r.c);rw[decide_eq_true h.bent]at HB;have HU:=O (Ql6 r.c hm h.bent);have HP:=O (Qax Y ((r.c.f-r.c.r)*r.c.l) (by omega) (by omega));rw[show Qfe Y ((r.c.f-r.c.r)*r.c.l)=c by rw[ac];exact Nat.min_comm _ _]at HP;have A1:=O (Ql8 r.c.f r.h1 d (by have:=hm.hf;omega) r.h1_cap (by omega));have A2:=O (Ql8 r.c.r r.h2 d (by have:=hm.hr;omega) r.h2_cap (by omega));rw[←ae]at A1;rw[←af]at A2;have ag:∀w',Qh w' b (Qap r X (Lm p a1 Y) (Lm p q c) (r.l.length+1:Int)) 297→Qc (fun k=>k=b) w w'→Hg w' (Qn F w w') b (r.start x y)∧Qc F w w':=fun w' E hc=>by
  have ai:Qc F w w':=hc.sub (fun k hk=>by rw[hk];exact h.own);refine⟨⟨h.bd.ext ai,.inl h.own,hm,h.bent,h.ok.start x y,h.rise.start h.ok x y,?_⟩,ai⟩;rw[f1,f2];have e3:Zp (r.start x y).l=X:=by rw[hX];exact Hn _ _ _
  rw[e3];have e4:((r.start x y).l.length:Int)=(r.l.length+1:Int):=by simp[Jo.start,Un]
  rw[e4];exact E
 have HF:=O ag;have B0:=O h.blk;have am:=B0.out.lt;have au:IntKind.u64.wrap ((X:Int)-(Zp r.l:Int))=(d:Int):=by rw[IntWalk.u64_in _ (by omega)];omega
 have av:max (min (x:Int) 9223372036854775808) (Zp r.l:Int)=(X:Int):=by omega
 have ar:min (y:Int) 4611686018427387904=(Y:Int):=by omega
 unfold ptr cV at*;have N1:(decide (0<r.l.length)=true∧decide (a1<Y)=true∧Lm p a1 Y=a1)∨(decide (0<r.l.length)=true∧decide (a1<Y)=false∧Lm p a1 Y=Y)∨(decide (0<r.l.length)=false∧Lm p a1 Y=Y):=Qi6 hp a1 Y;have N2:(decide (0<r.l.length)=true∧decide (q<c)=true∧Lm p q c=q)∨(decide (0<r.l.length)=true∧decide (q<c)=false∧Lm p q c=c)∨(decide (0<r.l.length)=false∧Lm p q c=c):=Qi6 hp q c;have aj:=O N1;have aq:=O N2;clear N1 N2;generalize Lm p a1 Y=n1 at*;generalize Lm p q c=n2 at*;generalize r.l.length=n at*;generalize r.h1=al at*;generalize r.h2=an at*;generalize Zp r.l=x0 at*;generalize(r.c.f-r.c.r)*r.c.l=ov at*;clear ag f1 f2 ae af hm h ak ac ao ap hX hY hd hp ab;obtain⟨Z,a1,q,R,U,a5,V,a7,a8⟩:=Qh9 B0.out;go_enter func304,ntmps304;go_wp2_with fail;refine(HB.out _).mono ?_;rintro e w1⟨rfl,c1⟩;have C1:=O c1;have B1:=O (c1.blk B0.out (fun h=>h));clear c1 Z a1 q R U a5 V a7 a8;obtain⟨Z,a1,q,R,U,a5,V,a7,a8⟩:=Qh9 B1.out;go_wp2_with fail;refine(HU.out _).mono ?_;rintro e w2⟨rfl,c2⟩;have C2:=O (C1.out.trans' c2);have B2:=O (c2.blk B1.out (fun h=>h));clear c2 C1 B1 Z a1 q R U a5 V a7 a8;go_wp2_with fail;with_reducible refine(HP.out _).mono ?_
 rintro e w3⟨rfl,c3⟩;have C3:=O ((C2.out.trans' c3).alloc (.cells #[.int .u64 (Y:Int),.int .u64 (c:Int)] 319));have L3:=O (Qh.new w3 #[.int .u64 (Y:Int),.int .u64 (c:Int)] 319);have B3:=O ((c3.blk B2.out (fun h=>h)).alloc (.cells #[.int .u64 (Y:Int),.int .u64 (c:Int)] 319));have hH:b<w3.heap.size:=Nat.lt_of_lt_of_le am ((C2.out.trans' c3).size);have aa:=(C2.out.trans' c3).size;clear c3 C2 B2;obtain⟨H,ah⟩:=Zx (w3.heap.size);go_wp2_with fail;rw[←ah]at L3 hH aa⊢;obtain⟨W,hW⟩:=Zx (w3.alloc (.cells #[.int .u64 (Y:Int),.int .u64 (c:Int)] 319));rw[←hW]at L3 B3 C3⊢;clear hW ah;go_quiet (fail);go_wp2;go_loopw [52] (fun i wr=>Qvk b H w r x0 al an n1 n2 Y c n i wr) (fun i _=>2-(intOf i).toNat);case atStart=>exact .inl ⟨rfl,B3.out,L3.out,C3.out.none.drewN _⟩
 case round=>
  rcases hrel with hrel|hrel|hrel
  ·obtain⟨rfl,E,hh,hc⟩:=hrel;have C4:=O hc;have B4:=O E;have L4:=O hh;clear E hh hc;obtain⟨Z,u,z,R,U,a5,V,a7,a8⟩:=Qh9 B4.out;obtain⟨g0,g1⟩:=Qz L4.out;have i0:∀w,(Instr.index 353 (.agg #[.pointer (some ⟨b,5,none⟩),.pointer (some ⟨b,7,none⟩)]) (.int .i64 0)).run prog w=.ok (.pointer (some ⟨b,5,none⟩)) w:=fun _=>by kernel_rfl
   go_wp2_with fail;with_reducible refine(A1.out _).mono ?_
   rintro e w4⟨rfl,J⟩;have C5:=O (C4.out.trans' J.none);have B:=O (J.blk B4.out (fun h=>h));have I:=O (J.blk L4.out (fun h=>h));have s5:=O J.size;clear J Z u z R U a5 V a7 a8 g0 g1;obtain⟨Z,u,z,R,U,a5,V,a7,a8⟩:=Qh9 B.out;obtain⟨g0,g1⟩:=Qz I.out;have zb:=B.out.frozen;have zH:=I.out.frozen;have s6:=B.out.lt;rcases aj.out with⟨q1,q2,rfl⟩|⟨q1,q2,rfl⟩|⟨q1,rfl⟩
   ·go_wp2;go_roundw;case rel=>exact .inr (.inl ⟨rfl,(B.out.other _ (Nat.ne_of_gt hH)).set' 6 _ rfl,(I.out.set' 0 _ rfl).other _ (Nat.ne_of_lt hH),(C5.out.setCell _ (.inr aa)).setCell _ (.inl rfl)⟩)
    case measure=>decide
   ·go_wp2;go_roundw;case rel=>exact .inr (.inl ⟨rfl,B.out.set' 6 _ rfl,I.out.other _ (Nat.ne_of_lt hH),C5.out.setCell _ (.inl rfl)⟩)
    case measure=>decide
   ·go_wp2;go_roundw;case rel=>exact .inr (.inl ⟨rfl,B.out.set' 6 _ rfl,I.out.other _ (Nat.ne_of_lt hH),C5.out.setCell _ (.inl rfl)⟩)
    case measure=>decide
  ·obtain⟨rfl,E,hh,hc⟩:=hrel;have C4:=O hc;have B4:=O E;have L4:=O hh;clear E hh hc;obtain⟨Z,u,z,R,U,a5,V,a7,a8⟩:=Qh9 B4.out;obtain⟨g0,g1⟩:=Qz L4.out;have i0:∀w,(Instr.index 353 (.agg #[.pointer (some ⟨b,5,none⟩),.pointer (some ⟨b,7,none⟩)]) (.int .i64 1)).run prog w=.ok (.pointer (some ⟨b,7,none⟩)) w:=fun _=>by kernel_rfl
   go_wp2_with fail;with_reducible refine(A2.out _).mono ?_
   rintro e w4⟨rfl,J⟩;have C5:=O (C4.out.trans' J.none);have B:=O (J.blk B4.out (fun h=>h));have I:=O (J.blk L4.out (fun h=>h));have s5:=O J.size;clear J Z u z R U a5 V a7 a8 g0 g1;obtain⟨Z,u,z,R,U,a5,V,a7,a8⟩:=Qh9 B.out;obtain⟨g0,g1⟩:=Qz I.out;have zb:=B.out.frozen;have zH:=I.out.frozen;have s6:=B.out.lt;rcases aq.out with⟨q1,q2,rfl⟩|⟨q1,q2,rfl⟩|⟨q1,rfl⟩
   ·go_wp2;go_roundw;case rel=>exact .inr (.inr ⟨rfl,(B.out.other _ (Nat.ne_of_gt hH)).set' 8 _ rfl,(I.out.set' 1 _ rfl).other _ (Nat.ne_of_lt hH),(C5.out.setCell _ (.inr aa)).setCell _ (.inl rfl)⟩)
    case measure=>decide
   ·go_wp2;go_roundw;case rel=>exact .inr (.inr ⟨rfl,B.out.set' 8 _ rfl,I.out.other _ (Nat.ne_of_lt hH),C5.out.setCell _ (.inl rfl)⟩)
    case measure=>decide
   ·go_wp2;go_roundw;case rel=>exact .inr (.inr ⟨rfl,B.out.set' 8 _ rfl,I.out.other _ (Nat.ne_of_lt hH),C5.out.setCell _ (.inl rfl)⟩)
    case measure=>decide
  ·obtain⟨rfl,E,hh,hc⟩:=hrel;have zb:=E.frozen;obtain⟨Z,u,z,R,U,a5,V,a7,a8⟩:=Qh9 E;go_wp2;exact bodyPost_end (results_none rfl _ _ _) rfl ⟨rfl,HF.out _ ((E.set' 4 _ rfl).set' 3 _ rfl) ((hc.setCell _ (.inl rfl)).setCell _ (.inl rfl))⟩
end
section
open Go.Shelf
def Db(T:Fp)(W c:World):Prop:=∀b o,T b→W.heap[b]? =some o→(o.isCells=true∨o.isWalk=true)→c.heap[b]? =some o
theorem Db.trans{T:Fp}{A B C:World}(h:Db T A B)(k:Db T B C):Db T A C:=fun b o c h1 d=>k b o c (h b o c h1 d) d
theorem Db.put{T:Fp}{w:World}(W:World)(l:Nat)(o u:Obj)(_:w.heap.size≤l)(h:W.heap[l]? =some o)(h1:o.isCells=false)(z:o.isWalk=false):Db T W (W.putObj l u):=by
 intro b q _ c k;have d:b≠l:=by rintro rfl;rw[h]at c;obtain rfl:=Option.some.inj c;rw[h1,z]at k;simp at k
 exact(World.grownBy.block (grownBy_putObj' W l u) b (Array.getElem?_eq_some_iff.1 c).1 (fun e=>d (Option.some.inj e))).trans c
theorem Db.chg{T S:Fp}{W c:World}(h:Qc S W c)(q:∀k,T k→S k→False):Db T W c:=fun b o d h1 _=>h.heap h1 (fun hs=>q b d hs)
theorem Db.blk{T:Fp}{W c:World}{b:Nat}{cs:Array Value}{t:TypeId}(h:Db T W c)(d:Qh W b cs t)(k:T b):Qh c b cs t:=h b _ k d (.inl rfl)
theorem Xr{β:Type}(B b:Nat)(f:β→Array Value)(t:TypeId):OwnFrom B (fun s W=>Qh W b (f s) t):=fun s W k row hs c hr=>by refine(c.block b hs.lt (fun e=>?_)).trans hs;obtain⟨_,o,h1,d⟩:=hr b e.symm;rw[show W.heap[b]? =some (.cells (f s) t (0,0))from hs]at h1;obtain rfl:=Option.some.inj h1;cases d
theorem U4{β:Type}{B:Nat}{S:Fp}{w:World}(q:w.heap.size≤B):OwnFrom B (fun(_:β)W=>Qc S w W):=fun s W d row hs c hr=>hs.grown c fun k e=>.inr (by have:=(hr k e).1;omega)
theorem Y7{B:Nat}{S:Fp}{W c:World}(h:Qc S W c)(d:∀k,S k→k<B):KeepsFrom B W c:=⟨h.size,fun k o q h1 _=>h.heap h1 (fun hs=>by have:=d k hs;omega)⟩
theorem Vq{S:Fp}{w W:World}{D:Nat}(h:Qc S w W)(c:w.heap.size≤D)(hW:D<W.heap.size):Qc S w (W.putObj D (.deferred none)):=h.grown (grownBy_putObj' W D _) fun k e=>.inr (by cases e;exact c)
theorem Vr{W:World}{b D:Nat}{cs:Array Value}{t:TypeId}(h:Qh W b cs t)(c:W.heap[D]? =some (.deferred (some []))):Qh (W.putObj D (.deferred none)) b cs t:=by refine(World.grownBy.block (grownBy_putObj' W D _) b h.lt (fun e=>?_)).trans h;cases e;rw[show W.heap[b]? =some (.cells cs t (0,0))from h]at c;cases c
end
section
open Go.Shelf
attribute [local go_sem] Oper.semAt_some
structure Pc where
 s:Nat
 n:Nat
 hs:s<18446744073709551616
 hn:n<18446744073709551616
def pcE(x:Pc):Array Value:=#[.agg #[.int .u64 (x.s:Int),.int .u64 (x.n:Int)]]
def Qd6:Nat:=18446744073709551615
def pc1(c:Z6)(hc:c.May):Pc:=⟨c.f,c.l,by have:=hc.hf;omega,by have:=hc.hl;omega⟩
def pc2(c:Z6)(hc:c.May):Pc:=⟨c.r,Qd6,by have:=hc.hr;omega,by decide⟩
def pcs(c:Z6)(hc:c.May):List Pc:=if c.l=0 then[pc2 c hc]else[pc1 c hc,pc2 c hc]
theorem Qpj(n l B:Nat)(hn:1≤n)(c:Z6)(hc:c.May)(J Jx:List Pc→World→Prop)
  (hY:∀d x W,J d W→d.length<2→YieldAt Fence.wide (n-1) prog l (pcE x) W fun e K=>
   (e=.returned (.bool true)∧J (d++[x]) K∧Db (fun k=>k=B) W K)∨(e=.returned (.bool false)∧Jx (d++[x]) K))
  (W:World) (hB:Qh W B #[.int .u64 (c.f:Int),.int .u64 (c.l:Int),.int .u64 (c.r:Int)] 38) (h0:J [] W):
  CallsIn Fence.wide n prog 338 #[.func (.yield l) #[] #[],.pointer (some ⟨B,0,none⟩)] W fun e K=>(∃v,e=.returned v)∧
   ((∃ys,ys=pcs c hc∧J ys K)∨(∃d,d<+:pcs c hc∧Jx d K)):=by
 have HB:=O hB;obtain⟨a0,a1,a2⟩:=Dy hB;by_cases hl:c.l=0
 ·obtain⟨fn,V,u,aa,R,hR⟩:=hY [] (pc2 c hc) W h0 (by simp);have I:Hid (pcs c hc=[pc2 c hc]):=O (if_pos hl);have hd:decide ((0:Int)<(c.l:Int))=false:=by simp;omega
  have ae:decide (0<c.l)=false:=by simp;omega
  clear hB hl hY;dsimp only[pcE,pc1,pc2]at R;rw[show((Qd6:Nat):Int)=18446744073709551615 from rfl]at R;refine callsIn_of_wp func338 rfl trivial ?_ rfl;simp only[ntmps338,List.size_toArray,List.length_cons,List.length_nil,Nat.reduceAdd,Nat.reduceSub,Array.replicate_succ,Array.replicate_zero,List.push_toArray,List.append_toArray,List.nil_append,List.cons_append];gi_wp2;refine⟨fun _ h=>(by cases h),?_⟩;gi_wp2;refine hR.mono ?_;rintro e W3(⟨rfl,E,z⟩|⟨rfl,q⟩);·gi_wp2;refine bodyPost_end (results_none rfl _ _ _) rfl ?_;exact⟨⟨_,rfl⟩,.inl ⟨_,I.out.symm,E⟩⟩
  ·gi_wp2;refine bodyPost_end (results_none rfl _ _ _) rfl ?_;exact⟨⟨_,rfl⟩,.inr ⟨[pc2 c hc],by rw[I.out];exact List.prefix_refl _,q⟩⟩
 ·obtain⟨fn,V,u,aa,R,hR⟩:=hY [] (pc1 c hc) W h0 (by simp);have I:Hid (pcs c hc=[pc1 c hc,pc2 c hc]):=O (if_neg hl);have hd:decide ((0:Int)<(c.l:Int))=true:=by simp;omega
  have ae:decide (0<c.l)=true:=by simp;omega
  have HY:=O hY;clear hB hl hY;dsimp only[pcE,pc1,pc2]at R;refine callsIn_of_wp func338 rfl trivial ?_ rfl;simp only[ntmps338,List.size_toArray,List.length_cons,List.length_nil,Nat.reduceAdd,Nat.reduceSub,Array.replicate_succ,Array.replicate_zero,List.push_toArray,List.append_toArray,List.nil_append,List.cons_append];gi_wp2;refine hR.mono ?_;rintro e W3(⟨rfl,E,z⟩|⟨rfl,q⟩)
  ·obtain⟨aj,af,U,ai,ac,ah⟩:=HY.out _ (pc2 c hc) W3 E (by simp);have ab:=z.blk HB.out rfl;clear a0 a1 a2 z R;obtain⟨a0,a1,a2⟩:=Dy ab;dsimp only[pcE,pc1,pc2]at ac;rw[show((Qd6:Nat):Int)=18446744073709551615 from rfl]at ac;clear ab;gi_wp2;refine ah.mono ?_;rintro e W4(⟨rfl,ag,ak⟩|⟨rfl,Z⟩);·gi_wp2;refine bodyPost_end (results_none rfl _ _ _) rfl ?_;exact⟨⟨_,rfl⟩,.inl ⟨_,I.out.symm,ag⟩⟩
   ·gi_wp2;refine bodyPost_end (results_none rfl _ _ _) rfl ?_;exact⟨⟨_,rfl⟩,.inr ⟨[pc1 c hc,pc2 c hc],by rw[I.out];exact List.prefix_refl _,Z⟩⟩
  ·gi_wp2;refine bodyPost_ret (results_none rfl _ _ _) rfl ?_;exact⟨⟨_,rfl⟩,.inr ⟨[pc1 c hc],by rw[I.out];simp,q⟩⟩
theorem Qkg(n B:Nat)(hn:1≤n)(c:Z6)(hc:c.May)(w:World)(E:Qh w B #[.int .u64 (c.f:Int),.int .u64 (c.l:Int),.int .u64 (c.r:Int)] 38):
  SeqStopsK Fence.wide n prog 338 #[.pointer (some ⟨B,0,none⟩)] pcE (Db (fun k=>k=B)) (fun u=>u=pcs c hc) (fun d=>d<+:pcs c hc) 2 w:=fun l J z W hW _ _ q h0=>
 Qpj n l B hn c hc J z q W ((Qc.ofBelow (S:=Qb) hW).blk E (fun h=>h)) h0
theorem Qmb(c:Z6)(w:World):Cl 337 #[cV c] w fun e w'=>e=.returned (.func (.func 338) #[] #[.pointer (some ⟨w.heap.size,0,none⟩)])∧w'=w.alloc (.cells #[.int .u64 (c.f:Int),.int .u64 (c.l:Int),.int .u64 (c.r:Int)] 38):=by unfold cV;go_enter func337,ntmps337;go_wp2;go_ret;exact⟨rfl,rfl⟩
def goL:Nat→Nat→List Pc→Option Nat
 |_,_,[]=>none
 |a,y,x::r=>if y≤min Jz (x.s*x.n)then some (if y=0 then a else(a+upN y x.s)%18446744073709551616)else goL ((a+x.n)%18446744073709551616) (y-min Jz (x.s*x.n)) r
def stA(a:Nat)(l:List Pc):Nat:=l.foldl (fun a x=>(a+x.n)%18446744073709551616) a
def stY(y:Nat)(l:List Pc):Nat:=l.foldl (fun y x=>y-min Jz (x.s*x.n)) y
theorem Qmc(x:Pc):∀(l:List Pc)(a y:Nat),goL a y (l++[x])=match goL a y l with
  |some v=>some v
  |none=>goL (stA a l) (stY y l) [x]
 |[],a,y=>rfl
 |z::l,a,y=>by
  rw[List.cons_append,goL,goL];split;·rfl
  ·rw[Qmc x l];rfl
theorem Qpk{l:List Pc}:∀{c:List Pc}{a y v:Nat},c<+:l→goL a y c=some v→goL a y l=some v:=by
 induction l with
 |nil=> intro c a y v h e;rw[List.prefix_nil.1 h]at e;exact e
 |cons z l k=>
  intro c a y v h e;cases c with
  |nil=>cases e
  |cons u c=>
   obtain⟨rfl,h'⟩:=List.cons_prefix_cons.1 h;rw[goL]at e⊢;split;·rename_i d;rw[if_pos d]at e;exact e
   ·rename_i d;rw[if_neg d]at e;exact k h' e
theorem Qvl(y:Nat):∀(l:List Pc),stY y l≤y
 |[]=>Nat.le_refl _
 |x::l=>Nat.le_trans (Qvl _ l) (Nat.sub_le _ _)
def Hh(c:Z6)(y:Nat):Nat:=if Jz<y then Qx else(c.reach y).getD Qx
theorem Qsz(c:Z6)(hc:c.May)(y:Nat)(I:y≤Jz):(goL 0 y (pcs c hc)).getD Qx=Hh c y:=by
 have E:=Xu;have h1:=hc.hf;have J:=hc.hl;have Z:=hc.hr;have K:c.f*c.l≤1048576*1099511627776:=Nat.mul_le_mul h1 J;unfold Hh;rw[if_neg (by omega)];have q:∀a z,a≤1099511627776→0<z∨a=0→z≤Jz→(goL a z [pc2 c hc]).getD Qx=(if z=0 then a else if c.r=0 then Qx else a+Qay z c.r):=by
  intro a z ha V B;rw[goL,goL];show(if z≤min Jz (c.r*Qd6)then some (if z=0 then a else(a+upN z c.r)%18446744073709551616)else none).getD Qx=_;by_cases hr:c.r=0
  ·rw[hr,Nat.zero_mul];by_cases k:z=0;·rw[if_pos (by omega),if_pos k,if_pos k];rfl
   ·rw[if_neg (by omega),if_neg k,if_pos rfl];rfl
  ·have U:Jz≤c.r*Qd6:=by have:1*Qd6≤c.r*Qd6:=Nat.mul_le_mul_right _ (by omega);have e:Qd6=18446744073709551615:=rfl;omega
   rw[if_pos (by omega)];by_cases k:z=0;·rw[if_pos k,if_pos k];rfl
   ·rw[if_neg k,if_neg k,if_neg hr,Qph (by omega) B];have:Qay z c.r≤z:=(Oc (by omega)).2 (Nat.le_mul_of_pos_left z (by omega));rw[Nat.mod_eq_of_lt (by omega)];rfl
 by_cases hl:c.l=0
 ·have e:pcs c hc=[pc2 c hc]:=if_pos hl;have hf:=hc.h0 hl;rw[e,q 0 y (by omega) (by omega) I];unfold Z6.reach;rw[hf,hl];simp only[Nat.mul_zero,Nat.zero_add,Nat.sub_zero];by_cases d:y=0;·rw[if_pos d,if_pos d];rfl
  ·rw[if_neg d,if_neg d,if_neg (show¬y≤0 by omega)];by_cases hr:c.r=0;·rw[if_pos hr,if_pos hr];rfl
   ·rw[if_neg hr,if_neg hr];rfl
 ·have e:pcs c hc=[pc1 c hc,pc2 c hc]:=if_neg hl;rw[e,goL];have R:min Jz ((pc1 c hc).s*(pc1 c hc).n)=c.f*c.l:=by show min Jz (c.f*c.l)=_;omega
  rw[R];unfold Z6.reach;by_cases u:y≤c.f*c.l
  ·rw[if_pos u,if_pos u];by_cases d:y=0;·rw[if_pos d,if_pos d]
   ·rw[if_neg d,if_neg d];have hf:0<c.f:=Nat.pos_of_ne_zero fun h=>by rw[h,Nat.zero_mul]at u;exact d (Nat.le_zero.1 u)
    show(some ((0+upN y c.f)%18446744073709551616)).getD Qx=_;rw[Qph hf I];have:Qay y c.f≤y:=(Oc hf).2 (Nat.le_mul_of_pos_left y hf);rw[Nat.zero_add,Nat.mod_eq_of_lt (by omega)]
  ·have d:y≠0:=fun h=>u (by rw[h];exact Nat.zero_le _);rw[if_neg u,if_neg d,if_neg u];show(goL ((0+c.l)%18446744073709551616) (y-c.f*c.l) [pc2 c hc]).getD Qx=_;rw[Nat.zero_add,Nat.mod_eq_of_lt (by omega),q c.l (y-c.f*c.l) J (.inl (by omega)) (by omega),if_neg (show¬y-c.f*c.l=0 by omega)];by_cases hr:c.r=0;·rw[if_pos hr,if_pos hr];rfl
   ·rw[if_neg hr,if_neg hr];rfl
theorem Qy5:∀(l:List Pc),stA 0 l<18446744073709551616:=by
 have:∀(l:List Pc)(a:Nat),a<18446744073709551616→stA a l<18446744073709551616:=by
  intro l;induction l with
  |nil=>exact fun a h=>h
  |cons x l c=>exact fun a _=>c _ (Nat.mod_lt _ (by decide))
 exact fun l=>this l 0 (by decide)
def T3(s:Nat):Fp:=fun k=>k=s+1∨k=s+1+1∨k=s+1+1+1
theorem Qfo(c:Z6)(hc:c.May)(y:Nat)(hy:y≤Jz)(w:World):Cl 331 #[cV c,.int .u64 (y:Int)] w fun e w'=>e=.returned (.int .u64 (Hh c y:Nat))∧Qc Qb w w':=by
 have hd:¬(4611686018427387904:Int)<(y:Int):=by have:=Xu;omega
 have HP:=O (Qmb c);have HR:=O (Qsz c hc y hy);refine callsIn_wide (n:=9).1 ?_;unfold cV at*;refine callsIn_of_wp_marks func331 rfl trivial ?_;simp only[ntmps331,List.size_toArray,List.length_cons,List.length_nil,Nat.reduceAdd,Nat.reduceSub,Array.replicate_succ,Array.replicate_zero,List.push_toArray,List.append_toArray,List.nil_append,List.cons_append];gi_wp2_with (refine⟨trivial,?_⟩;gi_at_call 337;refine(callsIn_wide.2 (HP.out _)).mono ?_;rintro e w1⟨rfl,rfl⟩);obtain⟨s,hs⟩:=Zx (w.heap.size);have bY:=O ((((Qh.new (w.alloc (.cells #[.int .u64 (c.f:Int),.int .u64 (c.l:Int),.int .u64 (c.r:Int)] 38)) #[.int .u64 (y:Int)] 29).alloc (.cells #[.int .u64 0] 29)).alloc (.cells #[.int .u64 0] 29)).alloc (.cells #[.int .u64 (c.f:Int),.int .u64 (c.l:Int),.int .u64 (c.r:Int)] 38));have bR:=O (((Qh.new ((w.alloc (.cells #[.int .u64 (c.f:Int),.int .u64 (c.l:Int),.int .u64 (c.r:Int)] 38)).alloc (.cells #[.int .u64 (y:Int)] 29)) #[.int .u64 0] 29).alloc (.cells #[.int .u64 0] 29)).alloc (.cells #[.int .u64 (c.f:Int),.int .u64 (c.l:Int),.int .u64 (c.r:Int)] 38));have bA:=O ((Qh.new (((w.alloc (.cells #[.int .u64 (c.f:Int),.int .u64 (c.l:Int),.int .u64 (c.r:Int)] 38)).alloc (.cells #[.int .u64 (y:Int)] 29)).alloc (.cells #[.int .u64 0] 29)) #[.int .u64 0] 29).alloc (.cells #[.int .u64 (c.f:Int),.int .u64 (c.l:Int),.int .u64 (c.r:Int)] 38));have bC:=O (Qh.new ((((w.alloc (.cells #[.int .u64 (c.f:Int),.int .u64 (c.l:Int),.int .u64 (c.r:Int)] 38)).alloc (.cells #[.int .u64 (y:Int)] 29)).alloc (.cells #[.int .u64 0] 29)).alloc (.cells #[.int .u64 0] 29)) #[.int .u64 (c.f:Int),.int .u64 (c.l:Int),.int .u64 (c.r:Int)] 38);have C0:=O ((((((Qc.refl Qb w).alloc (.cells #[.int .u64 (c.f:Int),.int .u64 (c.l:Int),.int .u64 (c.r:Int)] 38)).alloc (.cells #[.int .u64 (y:Int)] 29)).alloc (.cells #[.int .u64 0] 29)).alloc (.cells #[.int .u64 0] 29)).alloc (.cells #[.int .u64 (c.f:Int),.int .u64 (c.l:Int),.int .u64 (c.r:Int)] 38));have ax:(((((w.alloc (.cells #[.int .u64 (c.f:Int),.int .u64 (c.l:Int),.int .u64 (c.r:Int)] 38)).alloc (.cells #[.int .u64 (y:Int)] 29)).alloc (.cells #[.int .u64 0] 29)).alloc (.cells #[.int .u64 0] 29)).alloc (.cells #[.int .u64 (c.f:Int),.int .u64 (c.l:Int),.int .u64 (c.r:Int)] 38)).heap.size=s+5:=by rw[hs];simp
 simp only[World.size_alloc,←hs]at bY bR bA bC;rw[←hs];obtain⟨W0,an⟩:=Zx (((((w.alloc (.cells #[.int .u64 (c.f:Int),.int .u64 (c.l:Int),.int .u64 (c.r:Int)] 38)).alloc (.cells #[.int .u64 (y:Int)] 29)).alloc (.cells #[.int .u64 0] 29)).alloc (.cells #[.int .u64 0] 29)).alloc (.cells #[.int .u64 (c.f:Int),.int .u64 (c.l:Int),.int .u64 (c.r:Int)] 38));rw[←an]at bY bR bA bC C0 ax⊢;clear an;have V:=O hs;clear hs;refine wpIn_rangeFunc_ownH rfl (by decide) (gf:=338) (lb:=#[.pointer (some ⟨s+1+1+1+1,0,none⟩)]) rfl trivial (enters_of func338 (by kernel_rfl) rfl)
  (Qkg 8 (s+1+1+1+1) (by decide) c hc W0 bC.out) (fun h k=>h.trans k) (fun W l o o' h1 h2 h3 h4=>Db.put (w:=W0) W l o o' h1 h2 h3 h4) (Below.refl _ _) (fun _=>rfl)
  (fun d W=>((((goL 0 y d=none)∧Qh W (s+1) #[.int .u64 (stY y d:Int)] 29)∧Qh W (s+1+1) #[.int .u64 0] 29)∧Qh W (s+1+1+1) #[.int .u64 (stA 0 d:Int)] 29)∧Qc (T3 s) W0 W)
  (fun c d W=>((c=.ret∧(goL 0 y d).isSome=true)∧Qh W (s+1+1) #[.int .u64 ((goL 0 y d).getD 0:Nat)] 29)∧Qc (T3 s) W0 W)
  (OwnFrom.and (OwnFrom.and (OwnFrom.and (OwnFrom.and (ownFrom_pure _ _) (Xr _ _ _ _)) (Xr _ _ _ _)) (Xr _ _ _ _)) (U4 (Nat.le_refl _)))
  (fun c=>OwnFrom.and (OwnFrom.and (ownFrom_pure _ _) (Xr _ _ _ _)) (U4 (Nat.le_refl _)))
  ⟨⟨⟨⟨rfl,bY.out⟩,bR.out⟩,bA.out⟩,Qc.refl _ _⟩
  (fun x a' W=>∃Bx,s+5≤Bx∧Qh W Bx #[.int .u64 (x.s:Int),.int .u64 (x.n:Int)] 375∧a'={tmps:=#[.agg #[.int .u64 (c.f:Int),.int .u64 (c.l:Int),.int .u64 (c.r:Int)],.int .u64 (y:Int),.pointer (some ⟨s,0,none⟩),.pointer (some ⟨s+1,0,none⟩),.pointer (some ⟨s+1+1,0,none⟩),.pointer (some ⟨s+1+1+1,0,none⟩),.pointer (some ⟨Bx,0,none⟩),undef,undef,undef,.int .u64 (y:Int),.bool false,.agg #[.int .u64 (c.f:Int),.int .u64 (c.l:Int),.int .u64 (c.r:Int)],.func (.func 338) #[] #[.pointer (some ⟨s+1+1+1+1,0,none⟩)],.agg #[.int .u64 (x.s:Int),.int .u64 (x.n:Int)],undef,undef,undef,undef,undef,undef,undef,undef,undef,undef,undef,undef,undef,undef,undef,undef,undef,undef,undef,undef,undef,undef,undef,undef,undef,undef,undef,undef],defers:=[]})
  (fun x a' _ X Y row hs hg hr=>by obtain⟨Bx,e1,e2,e3⟩:=hs;exact⟨Bx,e1,Xr W0.heap.size Bx (fun(_:Unit)=>#[.int .u64 (x.s:Int),.int .u64 (x.n:Int)]) _ () X Y row e2 hg hr,e3⟩)
  ?assign ?body ?done ?stop
 case assign=> rintro l d x W K⟨⟨⟨⟨hp,R⟩,z⟩,U⟩,q⟩hK;dsimp only[pcE];gi_wp2;exact hK _ _ (Y7 ((Qc.refl Qb W).alloc _) (fun k h=>h.elim)) (Db.chg ((Qc.refl Qb W).alloc _) (fun _ _ h=>h)) ⟨⟨⟨⟨hp,R.alloc _⟩,z.alloc _⟩,U.alloc _⟩,q.alloc _⟩ ⟨W.heap.size,by have:=q.size;omega,Qh.new W _ _,rfl⟩
 case body=>
  rintro l d x a' W hl a5⟨⟨⟨⟨hp,R⟩,z⟩,U⟩,q⟩⟨Bx,a6,bX,rfl⟩Jl;have HT:=O (Lt x.s x.n x.hs x.hn);have ac:=Xu;have ak:=Qvl y d;have al:stA 0 d<18446744073709551616:=Qy5 d;have ae:=Qmc x d 0 y;rw[hp]at ae;have au:stY y (d++[x])=stY y d-min Jz (x.s*x.n):=by unfold stY;rw[List.foldl_append];rfl
  have ao:stA 0 (d++[x])=(stA 0 d+x.n)%18446744073709551616:=by unfold stA;rw[List.foldl_append];rfl
  have hx:=x.hs;have a3:=x.hn;rw[goL,goL]at ae;have af:min Jz (x.s*x.n)≥stY y d→stY y d≠0→0<x.s:=fun h1 h2=>Nat.pos_of_ne_zero fun h=>by rw[h,Nat.zero_mul]at h1;omega
  have hm:min Jz (x.s*x.n)≤Jz:=Nat.min_le_left _ _;generalize min Jz (x.s*x.n)=m at*;have HU:=fun(h:0<x.s)=>Qlz (stY y d) x.s (by omega) hx h;have hu:upN (stY y d) x.s≤Jz:=Nat.min_le_right _ _;generalize upN (stY y d) x.s=u at*;generalize stY y d=Z at*;generalize stA 0 d=a1 at*;generalize x.s=xs at*;generalize x.n=xn at*;have HS:=O ae;have aq:=O au;have av:=O ao;have BY:=O R;have BR:=O z;have BA:=O U;have BX:=O bX;have HC:=O q;have sz:=q.size;clear ae au ao R z U bX q hp;have y0:=Zv BY.out;have x0:=Qz BX.out;obtain⟨x0,x1⟩:=x0;have hT:∀k,T3 s k→k<W0.heap.size:=fun k hk=>by rcases hk with h|h|h<;>omega
  have kp:∀w2,Qc (T3 s) W w2→Db (fun k=>k=s+1+1+1+1) W w2:=fun w2 h=>Db.chg h fun k e hk=>by subst e;rcases hk with h|h|h<;>omega
  have KP:=O kp;have ai:=O hT;clear kp hT;by_cases h1:Z≤m
  ·have d1:(Z:Int)≤(m:Int):=by omega
   have az:decide (Z≤m)=true:=by simpa using h1
   by_cases h2:Z=0;·subst h2;rw[if_pos (Nat.zero_le _),if_pos rfl]at HS;clear HU af hm ak al hu ac;gi_wp2_with (refine⟨trivial,?_⟩;gi_at_call 312;with_reducible refine(CallsIn.inRound l (callsIn_wide.2 (HT.out _))).mono ?_;rintro e w1⟨rfl,I⟩;have C1:=O I;have J:=O (I.blk BY.out (fun h=>h));have B:=O (I.blk BR.out (fun h=>h));have E:=O (I.blk BA.out (fun h=>h));have ab:=O (I.blk BX.out (fun h=>h));have c0:=Zv J.out;have ap:=Zv E.out;have c2:=Zv B.out;obtain⟨c3,c4⟩:=Qz ab.out;have z0:=J.out.frozen;have z1:=E.out.frozen;have z2:=B.out.frozen;clear I);exact⟨Y7 (C1.out.none.setCell _ (.inl (.inr (.inl rfl)))) ai.out,⟨⟨rfl,by rw[HS.out];rfl⟩,by rw[HS.out];exact B.out.set' 0 _ rfl⟩,(HC.out.trans' C1.out.none).setCell _ (.inl (.inr (.inl rfl)))⟩
   ·rw[if_pos h1,if_neg h2]at HS;have HU:=O (HU (af h1 h2));have d2:((Z:Int)==0)=false:=by simp;omega
    have aa:IntKind.u64.wrap ((a1:Int)+(u:Int))=(((a1+u)%18446744073709551616:Nat):Int):=by rw[IntKind.wrap_u64];omega
    generalize(a1+u)%18446744073709551616=v at aa HS;clear af hm ak al hu ac h1 h2;gi_wp2_with (first|(refine⟨trivial,?_⟩;gi_at_call 312;with_reducible refine(CallsIn.inRound l (callsIn_wide.2 (HT.out _))).mono ?_;rintro e w1⟨rfl,I⟩;have C1:=O I;have J:=O (I.blk BY.out (fun h=>h));have B:=O (I.blk BR.out (fun h=>h));have E:=O (I.blk BA.out (fun h=>h));have ab:=O (I.blk BX.out (fun h=>h));have c0:=Zv J.out;have ap:=Zv E.out;have c2:=Zv B.out;obtain⟨c3,c4⟩:=Qz ab.out;have z0:=J.out.frozen;have z1:=E.out.frozen;have z2:=B.out.frozen;clear I)|(refine⟨trivial,?_⟩;gi_at_call 311;with_reducible refine(CallsIn.inRound l (callsIn_wide.2 (HU.out _))).mono ?_;rintro e w2⟨rfl,d1⟩;have C2:=O (C1.out.trans' d1);have aw:=O (d1.blk E.out (fun h=>h));have ah:=O (d1.blk B.out (fun h=>h));have q1:=Zv aw.out;have q2:=Zv ah.out;have q3:=ah.out.frozen;clear d1));exact⟨Y7 (C2.out.none.setCell _ (.inl (.inr (.inl rfl)))) ai.out,⟨⟨rfl,by rw[HS.out];rfl⟩,by rw[HS.out];exact ah.out.set' 0 _ rfl⟩,(HC.out.trans' C2.out.none).setCell _ (.inl (.inr (.inl rfl)))⟩
  ·have d1:¬(Z:Int)≥(m:Int)→True:=fun _=>trivial;have az:decide (Z≤m)=false:=by simpa using h1
   have d2:¬(Z:Int)≤(m:Int):=by omega
   have ar:IntKind.u64.wrap ((Z:Int)-(m:Int))=((Z-m:Nat):Int):=by rw[IntWalk.u64_in _ (by omega)];omega
   have aa:IntKind.u64.wrap ((a1:Int)+(xn:Int))=(((a1+xn)%18446744073709551616:Nat):Int):=by rw[IntKind.wrap_u64];omega
   rw[if_neg h1]at HS;generalize(a1+xn)%18446744073709551616=a2 at aa av HS;generalize Z-m=y2 at ar aq HS;clear HU af hm ak al hu ac h1 d1;gi_wp2_with (refine⟨trivial,?_⟩;gi_at_call 312;with_reducible refine(CallsIn.inRound l (callsIn_wide.2 (HT.out _))).mono ?_;rintro e w1⟨rfl,I⟩;have C1:=O I;have J:=O (I.blk BY.out (fun h=>h));have B:=O (I.blk BR.out (fun h=>h));have E:=O (I.blk BA.out (fun h=>h));have ab:=O (I.blk BX.out (fun h=>h));have c0:=Zv J.out;have ap:=Zv E.out;have c2:=Zv B.out;obtain⟨c3,c4⟩:=Qz ab.out;have z0:=J.out.frozen;have z1:=E.out.frozen;have z2:=B.out.frozen;clear I);have a0:s+1≠s+1+1:=by omega
   have HW:=O (((C1.out.none (F:=T3 s)).setCell (a:=⟨s+1,0,none⟩) (.int .u64 (y2:Int)) (.inl (.inl rfl))).setCell (a:=⟨s+1+1+1,0,none⟩) (.int .u64 (a2:Int)) (.inl (.inr (.inr rfl))));refine⟨Y7 HW.out ai.out,KP.out _ HW.out,⟨⟨⟨by rw[HS.out],?_⟩,?_⟩,?_⟩,HC.out.trans' HW.out⟩;·rw[aq.out];exact(J.out.set' 0 _ rfl).other _ (by show s+1+1+1≠s+1;omega)
   ·exact(B.out.other _ (by show s+1≠s+1+1;omega)).other _ (by show s+1+1+1≠s+1+1;omega)
   ·rw[av.out];exact(E.out.other _ (by show s+1≠s+1+1+1;omega)).set' 0 _ rfl
 case done=>
  rintro D ys W hD rfl⟨⟨⟨⟨hp,R⟩,z⟩,U⟩,q⟩hK;have hv:Hh c y=9223372036854775808:=by rw[←HR.out,hp];rfl
  have Hv:=O hv;have a4:=z.lt;have ay:=q.size;have HC:=O ((C0.out.trans q (fun k hk=>.inr (by rw[←V.out];rcases hk with h|h|h<;>omega))).setCell (a:=⟨s+1+1,0,none⟩) (.int .u64 9223372036854775808) (.inr (by rw[←V.out];show s≤s+1+1;omega)));have BR:=O (z.set' 0 (.int .u64 9223372036854775808) rfl);have aj:Hid ((W.setCell ⟨s+1+1,0,none⟩ (.int .u64 9223372036854775808)).heap[D]? =some (.deferred (some []))):=O ((KeepsOthers.setCell W ⟨s+1+1,0,none⟩ (.int .u64 9223372036854775808)).same D _ hK rfl);have z0:=Zv z;have z1:=z.frozen 0;clear hp R U z q hv;gi_wp2;refine⟨by simp,.inl ⟨_,_,rfl,run_takeDeferred aj.out,?_⟩⟩;have hB:=Vr BR.out aj.out;have am:=Zv hB;refine⟨.int .u64 9223372036854775808,?_,by rw[Hv.out];rfl,Vq HC.out (by rw[←V.out];omega) (Array.getElem?_eq_some_iff.1 aj.out).1⟩;clear hB;simp[results,Tryz.results331,go_sem,am]
 case stop=>
  rintro D c' d W hD ag⟨⟨⟨rfl,hv⟩,z⟩,q⟩hK;have ay:=q.size;have HC:=O (C0.out.trans q (fun k hk=>.inr (by rw[←V.out];rcases hk with h|h|h<;>omega)));obtain⟨v,hv⟩:=Option.isSome_iff_exists.1 hv;have e:Hh c y=v:=by rw[←HR.out,Qpk ag hv];rfl
  rw[hv]at z;have He:=O e;clear e hv ag;gi_wp2;refine⟨by simp,.inl ⟨_,_,rfl,run_takeDeferred hK,?_⟩⟩;have hB:=Vr z hK;have am:=Zv hB;refine⟨.int .u64 (v:Int),?_,by rw[He.out],Vq HC.out (by rw[←V.out];omega) (Array.getElem?_eq_some_iff.1 hK).1⟩;clear hB;simp[results,Tryz.results331,go_sem,am]
end
section
attribute [local go_sem] Qq
attribute [local go_sem ↓] Xe Xn
def Qc0(c:Z6)(n:Int)(x:Nat)(v:Value):Array Value:=#[.int .u64 (c.f:Int),.int .u64 (c.l:Int),.int .u64 (c.r:Int),.bool true,.int .i64 n,.int .u64 (x:Int),v]
theorem Qc1{w:World}{b:Nat}{t:TypeId}{v0 v1 v2 v3 v4 v5 v6:Value}(h:Qh w b #[v0,v1,v2,v3,v4,v5,v6] t):w.cell? ⟨b,0,none⟩=some v0∧w.cell? ⟨b,1,none⟩=some v1∧w.cell? ⟨b,2,none⟩=some v2∧w.cell? ⟨b,3,none⟩=some v3∧w.cell? ⟨b,4,none⟩=some v4∧w.cell? ⟨b,5,none⟩=some v5∧w.cell? ⟨b,6,none⟩=some v6:=by simp only[h.cell];exact⟨rfl,rfl,rfl,rfl,rfl,rfl,rfl⟩
def kV(k:Nat×Nat):Value:=.agg #[.int .u64 (k.1:Int),.int .u64 (k.2:Int)]
theorem Qi7(m n:Nat)(hn:n<18446744073709551616)(w:World)(h:m+n<340282366920938463463374607431768211456):
  Cl 256 #[.agg #[.int .u64 ((m/18446744073709551616:Nat):Int),.int .u64 ((m%18446744073709551616:Nat):Int)],.agg #[.int .u64 0,.int .u64 (n:Int)]] w
   fun e w'=>e=.returned (.tuple #[Qiq (m+n),.int .i64 0])∧Qc Qb w w':=by
 have:=Qcw m n w h;rw[Nat.div_eq_of_lt hn,Nat.mod_eq_of_lt hn]at this;exact this
theorem Qfp{w:World}{b:Nat}{c:Z6}{n:Int}{x:Nat}{v:Value}(hc:c.May)(hB:Qh w b (Qc0 c n x v) 300)(k:Nat×Nat)(t:Nat)(hk:k.1≤t)(ht:t<18446744073709551616)(hy:k.2≤Jz):
  Cl 334 #[ptr b,kV k,.int .u64 (t:Int)] w fun e w'=>e=.returned (Qiq (Vo c t k))∧Qc Qb w w':=by
 obtain⟨q,u⟩:=k;have B:=Xu;dsimp only at hk hy;have hm:c.r*(t-q)≤1048576*18446744073709551616:=Nat.mul_le_mul hc.hr (by omega);have HM:=O (fun w=>Uz c.r (t-q) w (by have:=hc.hr;omega) (by omega));have I:=O (fun w=>Qi7 (c.r*(t-q)) u (by omega) w (by omega));have e:Vo c t (q,u)=c.r*(t-q)+u:=by unfold Vo;rw[Nat.add_comm]
 rw[e];have hs:IntKind.u64.wrap ((t:Int)-(q:Int))=((t-q:Nat):Int):=by rw[IntWalk.u64_in _ (by omega)];omega
 clear hk ht hy B hm e;generalize c.r*(t-q)=p at*;generalize t-q=d at*;unfold Qiq kV ptr at*;dsimp only;generalize(((p+u)/18446744073709551616:Nat):Int)=q1 at I⊢;generalize(((p+u)%18446744073709551616:Nat):Int)=q0 at I⊢;generalize((p/18446744073709551616:Nat):Int)=p1 at HM I;generalize((p%18446744073709551616:Nat):Int)=p0 at HM I;have B0:=O hB;have aa:=hB.lt;obtain⟨s,z⟩:=Zx (w.heap.size);have R:=O ((Qh.new w #[.int .u64 (q:Int),.int .u64 (u:Int)] 369).alloc (.cells #[.int .u64 0,.int .u64 0] 291));have K:=O (Qh.new (w.alloc (.cells #[.int .u64 (q:Int),.int .u64 (u:Int)] 369)) #[.int .u64 0,.int .u64 0] 291);have S0:=O ((B0.out.alloc (.cells #[.int .u64 (q:Int),.int .u64 (u:Int)] 369)).alloc (.cells #[.int .u64 0,.int .u64 0] 291));have Z:=O (((Qc.refl Qb w).alloc (.cells #[.int .u64 (q:Int),.int .u64 (u:Int)] 369)).alloc (.cells #[.int .u64 0,.int .u64 0] 291));simp only[World.size_alloc,←z]at R K;go_enter func334,ntmps334;go_wp2;rw[←z];obtain⟨W,hW⟩:=Zx ((w.alloc (.cells #[.int .u64 (q:Int),.int .u64 (u:Int)] 369)).alloc (.cells #[.int .u64 0,.int .u64 0] 291));rw[←hW]at R K S0 Z⊢;have HS:=O z;clear hW z aa;have E:=O (fun(w':World)(h:Qc Qb W w')=>(⟨(Qc1 (h.blk S0.out (fun h=>h))).2.2.1,(Qz (h.blk R.out (fun h=>h))).1,(Qz (h.blk R.out (fun h=>h))).2⟩:w'.cell? ⟨b,2,none⟩=some (.int .u64 (c.r:Int))∧w'.cell? ⟨s,0,none⟩=some (.int .u64 (q:Int))∧w'.cell? ⟨s,1,none⟩=some (.int .u64 (u:Int))));go_region_held3 (fun w':World=>w'.cell? ⟨b,2,none⟩=some (.int .u64 (c.r:Int))∧w'.cell? ⟨s,0,none⟩=some (.int .u64 (q:Int))∧w'.cell? ⟨s,1,none⟩=some (.int .u64 (u:Int))) (exact E.out _ (by(repeat' (first|(with_reducible first|exact Zg _ _|assumption|refine Zh ?_ _|refine Zi ?_ _|refine Zj ?_ |refine Zk ?_ _ ?_ |(apply Or.inl;rfl))|(apply Or.inl;simp;done)|(apply Or.inr;simp;first|done|omega))))) (first|(go_at_call 243;with_reducible refine(HM.out _).mono ?_;rintro e w2⟨rfl,d2⟩;have c2:Qc Qb W w2:=Qc.trans' (by(repeat' (first|(with_reducible first|exact Zg _ _|assumption|refine Zh ?_ _|refine Zi ?_ _|refine Zj ?_ |refine Zk ?_ _ ?_ |(apply Or.inl;rfl))|(apply Or.inl;simp;done)|(apply Or.inr;simp;first|done|omega)))) d2;have z2:=c2.size;(try(have V:=d2.blk (Qh.new _ #[.int .u64 0,.int .u64 0] 291).drew (fun h=>h);obtain⟨u0,u1⟩:=Qz V;have u2:=V.frozen));clear d2)|(go_at_call 256;with_reducible refine(I.out _).mono ?_;rintro e w3⟨rfl,J⟩;have c3:Qc Qb W w3:=Qc.trans' (by(repeat' (first|(with_reducible first|exact Zg _ _|assumption|refine Zh ?_ _|refine Zi ?_ _|refine Zj ?_ |refine Zk ?_ _ ?_ |(apply Or.inl;rfl))|(apply Or.inl;simp;done)|(apply Or.inr;simp;first|done|omega)))) J;have z3:=c3.size;(try(first|have g3:=J.blk V (fun h=>h)|have g3:=J.blk (Qh.new _ #[.int .u64 0,.int .u64 0] 291) (fun h=>h));obtain⟨u3,u4⟩:=Qz g3;have u5:=g3.frozen);clear J));all_goals have U:=c3.blk K.out (fun h=>h)
 all_goals obtain⟨r0,r1⟩:=Qz U
 all_goals have r2:=U.frozen
 all_goals have zs:=K.out.lt
 all_goals have ac:=U.lt
 all_goals have n1:¬s+1=W.heap.size:=by omega
 all_goals have n2:¬W.heap.size=s+1:=by omega
 all_goals have n3:¬s+1=w2.heap.size:=by omega
 all_goals have n4:¬w2.heap.size=s+1:=by omega
 all_goals go_wp2
 all_goals refine bodyPost_ret (v:=.agg #[.int .u64 q1,.int .u64 q0]) ?_ rfl ⟨rfl,?_⟩
 all_goals first|(simp[*,results,Tryz.results334,go_sem];done)|skip
 all_goals have cw:=Z.out.trans' c3
 all_goals have ab:=HS.out
 all_goals have ae:=Z.out.size
 all_goals clear r0 r1 r2 n1 n2 n3 n4
 all_goals(repeat' (first|(with_reducible first|exact Zg _ _|assumption|refine Zh ?_ _|refine Zi ?_ _|refine Zj ?_ |refine Zk ?_ _ ?_ |(apply Or.inl;rfl))|(apply Or.inl;simp;done)|(apply Or.inr;simp;first|done|omega)))
theorem Qi8{w:World}{b:Nat}{c:Z6}{n:Int}{x:Nat}{v:Value}(hc:c.May)(hB:Qh w b (Qc0 c n x v) 300)(k:Nat×Nat)(t:Nat)(hk:k.1≤t)(ht:t<18446744073709551616)(hy:k.2≤Jz):
  Cl 333 #[ptr b,kV k,.int .u64 (t:Int)] w fun e w'=>e=.returned (Qiq (Kw c t k))∧Qc Qb w w':=by
 obtain⟨E,I⟩:=k;have ac:=Xu;dsimp only at hk hy;obtain⟨d,hd⟩:=Zx (t-E);obtain⟨m,hm⟩:=Zx (min d c.l);have h1:=hc.hf;have h2:=hc.hr;have h3:=hc.hl;have e:Kw c t (E,I)=c.f*m+c.r*(d-m)+I:=by unfold Kw Z6.at;rw[←hd,←hm];omega
 have hP:c.f*m≤1048576*18446744073709551616:=Nat.mul_le_mul h1 (by omega);have hQ:c.r*(d-m)≤1048576*18446744073709551616:=Nat.mul_le_mul h2 (by omega);have aa:=O (fun w=>Uz c.f m w (by omega) (by omega));have ab:=O (fun w=>Uz c.r (d-m) w (by omega) (by omega));have u:=O (fun w=>Qcw (c.f*m) (c.r*(d-m)) w (by omega));have B:=O (fun w=>Qi7 (c.f*m+c.r*(d-m)) I (by omega) w (by omega));rw[e];have hs:IntKind.u64.wrap ((t:Int)-(E:Int))=(d:Int):=by rw[IntWalk.u64_in _ (by omega)];omega
 have ak:IntKind.u64.wrap ((d:Int)-(m:Int))=((d-m:Nat):Int):=by rw[IntWalk.u64_in _ (by omega)];omega
 have al:min (d:Int) (c.l:Int)=(m:Int):=by omega
 clear hk ht hy ac e h1 h2 h3 hP hQ;generalize c.f*m=P at*;generalize c.r*(d-m)=Q at*;generalize d-m=d2 at*;clear hd hm;unfold Qiq kV ptr at*;dsimp only;generalize(((P+Q+I)/18446744073709551616:Nat):Int)=q1 at B⊢;generalize(((P+Q+I)%18446744073709551616:Nat):Int)=q0 at B⊢;generalize(((P+Q)/18446744073709551616:Nat):Int)=s1 at u B;generalize(((P+Q)%18446744073709551616:Nat):Int)=s0 at u B;generalize((P/18446744073709551616:Nat):Int)=p1 at aa u;generalize((P%18446744073709551616:Nat):Int)=p0 at aa u;generalize((Q/18446744073709551616:Nat):Int)=r1 at ab u;generalize((Q%18446744073709551616:Nat):Int)=r0 at ab u;have B0:=O hB;have ah:=hB.lt;obtain⟨s,U⟩:=Zx (w.heap.size);have K0:=O ((Qh.new w #[.int .u64 (E:Int),.int .u64 (I:Int)] 369).alloc (.cells #[.int .u64 0,.int .u64 0] 291));have R0:=O (Qh.new (w.alloc (.cells #[.int .u64 (E:Int),.int .u64 (I:Int)] 369)) #[.int .u64 0,.int .u64 0] 291);have S0:=O ((B0.out.alloc (.cells #[.int .u64 (E:Int),.int .u64 (I:Int)] 369)).alloc (.cells #[.int .u64 0,.int .u64 0] 291));have C0:=O (((Qc.refl Qb w).alloc (.cells #[.int .u64 (E:Int),.int .u64 (I:Int)] 369)).alloc (.cells #[.int .u64 0,.int .u64 0] 291));simp only[World.size_alloc,←U]at K0 R0;go_enter func333,ntmps333;go_wp2;rw[←U];obtain⟨W,hW⟩:=Zx ((w.alloc (.cells #[.int .u64 (E:Int),.int .u64 (I:Int)] 369)).alloc (.cells #[.int .u64 0,.int .u64 0] 291));rw[←hW]at K0 R0 S0 C0⊢;have HS:=O U;clear hW U ah;have E1:=fun x=>Qc1 (Qk (S:=Qb) S0.out (fun h=>h) x);have E2:=fun x=>Qz (Qk (S:=Qb) K0.out (fun h=>h) x);try dsimp only[Qc0]at E1
 refine Qr [] [0,1,2,3,4,5,6,7,8,9] [10] [] (Qw (Qb) (W)) (by kernel_rfl) (by kernel_rfl) ?_ (Qd (by(repeat' (first|(with_reducible first|exact Zg _ _|assumption|refine Zh ?_ _|refine Zi ?_ _|refine Zj ?_ |refine Zk ?_ _ ?_ |(apply Or.inl;rfl))|(apply Or.inl;simp;done)|(apply Or.inr;simp;first|done|omega))))) ?_;·exact fun _ _ _ _ _ h=>h
 simp only[pick,Zf,Ze,Zd];refine Qf ?_;iterate 10 (refine Ql (fun K hK=>?_);go_simp;refine hK _ ?_;clear hK K)
 refine Qf ?_;intro _ ag;obtain⟨xo,af⟩:=ag;subst af;simp only[Zn];have J:=O (Qu Qb W xo);generalize Qw Qb W xo=W1 at J⊢;clear E1 E2;go_wp2;refine⟨Qd J.out,?_⟩;have K1:=O (J.out.blk K0.out (fun h=>h));have R1:=O (J.out.blk R0.out (fun h=>h));have S1:=O (J.out.blk S0.out (fun h=>h));have C1:=O (C0.out.trans' J.out);clear K0 R0 S0 C0 J;have V:=O (fun(w':World)(h:Qc Qb W1 w')=>(⟨(Qc1 (h.blk S1.out (fun h=>h))).1,(Qc1 (h.blk S1.out (fun h=>h))).2.2.1,(Qz (h.blk K1.out (fun h=>h))).1⟩:w'.cell? ⟨b,0,none⟩=some (.int .u64 (c.f:Int))∧w'.cell? ⟨b,2,none⟩=some (.int .u64 (c.r:Int))∧w'.cell? ⟨s,0,none⟩=some (.int .u64 (E:Int))));go_wp2;go_cut [8] (fun s8 wz=>∃q,s8=.pointer (some ⟨q,0,none⟩)∧W1.heap.size≤q∧Qh wz q #[.int .u64 s1,.int .u64 s0] 291∧Qc Qb W1 wz)
 case first=>
  go_region_held3 (fun w':World=>w'.cell? ⟨b,0,none⟩=some (.int .u64 (c.f:Int))∧w'.cell? ⟨b,2,none⟩=some (.int .u64 (c.r:Int))∧w'.cell? ⟨s,0,none⟩=some (.int .u64 (E:Int))) (exact V.out _ (by(repeat' (first|(with_reducible first|exact Zg _ _|assumption|refine Zh ?_ _|refine Zi ?_ _|refine Zj ?_ |refine Zk ?_ _ ?_ |(apply Or.inl;rfl))|(apply Or.inl;simp;done)|(apply Or.inr;simp;first|done|omega))))) (first|(go_at_call 243;with_reducible refine(aa.out _).mono ?_;rintro e w2⟨rfl,d2⟩;have c2:Qc Qb W1 w2:=Qc.trans' (by(repeat' (first|(with_reducible first|exact Zg _ _|assumption|refine Zh ?_ _|refine Zi ?_ _|refine Zj ?_ |refine Zk ?_ _ ?_ |(apply Or.inl;rfl))|(apply Or.inl;simp;done)|(apply Or.inr;simp;first|done|omega)))) d2;have z2:=c2.size;(try(first|have g2:=d2.blk (Qh.new _ #[.int .u64 0,.int .u64 0] 291) (fun h=>h)|have g2:=d2.blk (Qh.new _ #[.int .u64 0,.int .u64 0] 291).drew (fun h=>h));obtain⟨u2,v2⟩:=Qz g2;have f2:=g2.frozen);clear d2)|(go_at_call 243;with_reducible refine(ab.out _).mono ?_;rintro e w3⟨rfl,d3⟩;have J:Qc Qb W1 w3:=Qc.trans' (by(repeat' (first|(with_reducible first|exact Zg _ _|assumption|refine Zh ?_ _|refine Zi ?_ _|refine Zj ?_ |refine Zk ?_ _ ?_ |(apply Or.inl;rfl))|(apply Or.inl;simp;done)|(apply Or.inr;simp;first|done|omega)))) d3;have z3:=J.size;(try(first|have g3:=d3.blk g2 (fun h=>h)|have g3:=d3.blk (Qh.new _ #[.int .u64 0,.int .u64 0] 291) (fun h=>h)|have g3:=d3.blk (Qh.new _ #[.int .u64 0,.int .u64 0] 291).drew (fun h=>h));obtain⟨u3,v3⟩:=Qz g3;have f3:=g3.frozen);clear d3)|(go_at_call 256;with_reducible refine(u.out _).mono ?_;rintro e w4⟨rfl,d4⟩;have c4:Qc Qb W1 w4:=Qc.trans' (by(repeat' (first|(with_reducible first|exact Zg _ _|assumption|refine Zh ?_ _|refine Zi ?_ _|refine Zj ?_ |refine Zk ?_ _ ?_ |(apply Or.inl;rfl))|(apply Or.inl;simp;done)|(apply Or.inr;simp;first|done|omega)))) d4;have z4:=c4.size;(try(first|have g4:=d4.blk g3 (fun h=>h)|have g4:=d4.blk (Qh.new _ #[.int .u64 0,.int .u64 0] 291) (fun h=>h)|have g4:=d4.blk (Qh.new _ #[.int .u64 0,.int .u64 0] 291).drew (fun h=>h));obtain⟨u4,v4⟩:=Qz g4;have f4:=g4.frozen);clear d4));all_goals go_wp2_with fail
  all_goals go_meet
  all_goals refine⟨_,rfl,?_,?_,?_⟩
  all_goals first|exact(g4.set' 0 _ rfl).set' 1 _ rfl|exact Qh.new _ _ _|skip
  all_goals first|omega|skip
  all_goals(repeat' (first|(with_reducible first|exact Zg _ _|assumption|refine Zh ?_ _|refine Zi ?_ _|refine Zj ?_ |refine Zk ?_ _ ?_ |(apply Or.inl;rfl))|(apply Or.inl;simp;done)|(apply Or.inr;simp;first|done|omega)))
 case rest=>
  obtain⟨q,rfl,hq,R,z⟩:=hcut;obtain⟨W2,hW2⟩:=Zx wc;rw[←hW2]at R z⊢;clear hW2;have S2:=O (z.blk S1.out (fun h=>h));have K2:=O (z.blk K1.out (fun h=>h));have R2:=O (z.blk R1.out (fun h=>h));have C2:=O (C1.out.trans' z);have Q2:=O R;have ae:s+1<q:=Nat.lt_of_lt_of_le R1.out.lt hq;have Z:=O ae;obtain⟨y0,y1⟩:=Qz K2.out;obtain⟨y2,y3⟩:=Qz R;clear R z V hq ae;go_wp2_with fail;with_reducible refine(B.out _).mono ?_
  rintro e w5⟨rfl,d5⟩;have C3:=O (C2.out.trans' d5);have Q3:=O (d5.blk Q2.out (fun h=>h));have R3:=O (d5.blk R2.out (fun h=>h));clear d5 y0 y1 y2 y3;obtain⟨y2,y3⟩:=Qz Q3.out;obtain⟨y4,y5⟩:=Qz R3.out;have y6:=Q3.out.frozen;have y7:=R3.out.frozen;have n1:¬s+1=q:=by have:=Z.out;omega
  have n2:¬q=s+1:=by have:=Z.out;omega
  go_wp2;refine bodyPost_ret (v:=.agg #[.int .u64 q1,.int .u64 q0]) ?_ rfl ⟨rfl,?_⟩;·simp[*,results,Tryz.results333,go_sem]
  ·have cw:=C3.out;have ai:=HS.out;have aj:=Z.out;clear y2 y3 y4 y5 y6 y7 n1 n2;(repeat' (first|(with_reducible first|exact Zg _ _|assumption|refine Zh ?_ _|refine Zi ?_ _|refine Zj ?_ |refine Zk ?_ _ ?_ |(apply Or.inl;rfl))|(apply Or.inl;simp;done)|(apply Or.inr;simp;first|done|omega)))
end
end Go.Proofs.YtnnhmpehkbihnaaGreat
