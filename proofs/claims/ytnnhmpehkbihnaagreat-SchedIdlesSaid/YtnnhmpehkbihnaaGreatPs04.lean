/- A part of the proof: no condition. -/
import Derived.Test.YtnnhmpehkbihnaaGreatPs03
import Derived.RangeFuncNested
import Derived.RangeFuncBound
import Derived.RangeFuncCalls
import Derived.RangeFuncLeaves
import Derived.Shelf.Abstract
import Derived.Shelf.RegionOpen
import Derived.OwnWalkIn
import Derived.TacticsInMore
import Derived.LoopNIn
import Derived.LoopIn
import Derived.Deep.DrawnRows
import Derived.Deep.DeepCutAuto
namespace Go.Proofs.YtnnhmpehkbihnaaGreat
set_option linter.unusedVariables false
set_option maxRecDepth 100000
set_option maxHeartbeats 4000000
open Go.RowKit
open Go.Proofs.Tryz
section
attribute [local go_sem] Qp
attribute [local go_sem ↓] X8 Yd
def Qqv(b H:Nat)(w:World)(r:Xh)(x h1 d c q Y u n:Nat)(i:Value)(wr:World):Prop:=
 (i=.int .i64 0∧Qh wr b (Pk r x h1 d n) 297∧Qh wr H #[.int .u64 Y,.int .u64 u] 319∧Qc (fun k=>k=b) w wr)∨
 (i=.int .i64 1∧Qh wr b (Pk r x c d n) 297∧Qh wr H #[.int .u64 c,.int .u64 u] 319∧Qc (fun k=>k=b) w wr)∨
 (i=.int .i64 2∧Qh wr b (Pk r x c q n) 297∧Qh wr H #[.int .u64 c,.int .u64 q] 319∧Qc (fun k=>k=b) w wr)
def Po(p:Bool)(a o:Nat):Nat:=if p then min a o else o
theorem Qdp{p:Bool}{n:Nat}(d:p=decide ((0:Int)<(n:Int)))(a o:Nat):(decide (0<n)=true∧decide (a<o)=true∧Po p a o=a)∨(decide (0<n)=true∧decide (a<o)=false∧Po p a o=o)∨(decide (0<n)=false∧Po p a o=o):=by
 unfold Po;subst d;by_cases h:0<n
 ·have h':(0:Int)<(n:Int):=by omega
  rw[if_pos (by simpa using h)];by_cases c:a<o;·exact .inl ⟨by simpa using h,by simpa using c,by omega⟩
  ·exact .inr (.inl ⟨by simpa using h,by simpa using c,by omega⟩)
 ·rw[if_neg (by simpa using h)];exact .inr (.inr ⟨by simpa using h,rfl⟩)
theorem Qjz{w}{F:Fp}{b:Nat}{r:Xh}(h:Ve w F b r)(hn:r.l.length<4611686018427387904)(x y:Nat)(hx:x<18446744073709551616)(hy:y<18446744073709551616):
  Cl 304 #[ptr b,.int .u64 x,.int .u64 y] w fun e w'=>e=.returned (.tuple #[])∧Ve w' (Qn F w w') b (r.start x y)∧Qc F w w':=by
 have hm:=h.may;have ae:=h.ok.last;obtain⟨X,hX⟩:=Zx (max (min x Qq) (Ji r.l));obtain⟨Y,hY⟩:=Zx (min y Xw);obtain⟨p,hp⟩:∃p:Bool,p=decide ((0:Int)<(r.l.length:Int)):=⟨_,rfl⟩;have K:r.l=[]↔p=false:=by rw[hp];cases r.l<;>simp
 obtain⟨c,af⟩:=Zx (min Xw (Y+(r.c.f-r.c.r)*r.c.l));obtain⟨d,hd⟩:=Zx (X-Ji r.l);have e1:=r.start_h1 h.ok x y;have e2:=r.start_h2 h.ok x y;rw[←hX,←hd,←hY]at e1 e2;rw[←af]at e2;obtain⟨a1,ab⟩:=Zx (Hb r.h1 r.c.f d);obtain⟨q,ac⟩:=Zx (Hb r.h2 r.c.r d);rw[←ab]at e1;rw[←ac]at e2;have f1:(r.start x y).h1=Po p a1 Y:=by
  rw[e1];unfold Po;cases p;·rw[if_pos (K.2 rfl)];simp
  ·rw[if_neg (fun h=>by have:=K.1 h;cases this)];simp
 have f2:(r.start x y).h2=Po p q c:=by
  rw[e2];unfold Po;cases p;·rw[if_pos (K.2 rfl)];simp
  ·rw[if_neg (fun h=>by have:=K.1 h;cases this)];simp
 clear e1 e2 K;have ao:=Yz;have aq:=Yf;have ap:(r.c.f-r.c.r)*r.c.l≤1048576*1099511627776:=Nat.mul_le_mul (by have:=hm.hf;omega) hm.hl;have HB:=O (L7 r.c);rw[decide_eq_true h.bent]at HB;have HU:=O (Qgr r.c hm h.bent);have HP:=O (Mm Y ((r.c.f-r.c.r)*r.c.l) (by omega) (by omega));rw[show Qa6 Y ((r.c.f-r.c.r)*r.c.l)=c by rw[af];exact Nat.min_comm _ _]at HP;have A1:=O (Qgl r.c.f r.h1 d (by have:=hm.hf;omega) r.h1_cap (by omega));have A2:=O (Qgl r.c.r r.h2 d (by have:=hm.hr;omega) r.h2_cap (by omega));rw[←ab]at A1;rw[←ac]at A2;have ag:∀w',Qh w' b (Pk r X (Po p a1 Y) (Po p q c) (r.l.length+1:Int)) 297→Qc (fun k=>k=b) w w'→Ve w' (Qn F w w') b (r.start x y)∧Qc F w w':=fun w' J hc=>by
  have ai:Qc F w w':=hc.sub (fun k hk=>by rw[hk];exact h.own);refine⟨⟨h.bd.ext ai,.inl h.own,hm,h.bent,h.ok.start x y,h.rise.start h.ok x y,?_⟩,ai⟩;rw[f1,f2];have e3:Ji (r.start x y).l=X:=by rw[hX];exact Of _ _ _
  rw[e3];have e4:((r.start x y).l.length:Int)=(r.l.length+1:Int):=by simp[Xh.start,Dg]
  rw[e4];exact J
 have HF:=O ag;have B0:=O h.blk;have an:=B0.o.lt;have av:IntKind.u64.wrap ((X:Int)-(Ji r.l:Int))=(d:Int):=by rw[IntWalk.u64_in _ (by omega)];omega
 have ar:max (min (x:Int) 9223372036854775808) (Ji r.l:Int)=(X:Int):=by omega
 have au:min (y:Int) 4611686018427387904=(Y:Int):=by omega
 unfold ptr cV at*;have N1:(decide (0<r.l.length)=true∧decide (a1<Y)=true∧Po p a1 Y=a1)∨(decide (0<r.l.length)=true∧decide (a1<Y)=false∧Po p a1 Y=Y)∨(decide (0<r.l.length)=false∧Po p a1 Y=Y):=Qdp hp a1 Y;have N2:(decide (0<r.l.length)=true∧decide (q<c)=true∧Po p q c=q)∨(decide (0<r.l.length)=true∧decide (q<c)=false∧Po p q c=c)∨(decide (0<r.l.length)=false∧Po p q c=c):=Qdp hp q c;have aj:=O N1;have ak:=O N2;clear N1 N2;generalize Po p a1 Y=n1 at*;generalize Po p q c=n2 at*;generalize r.l.length=n at*;generalize r.h1=al at*;generalize r.h2=am at*;generalize Ji r.l=x0 at*;generalize(r.c.f-r.c.r)*r.c.l=ov at*;clear ag f1 f2 ab ac hm h ap af ao aq hX hY hd hp ae;obtain⟨R,a1,q,U,V,Z,a6,a7,a8⟩:=Av B0.o;go_enter func304,ntmps304;go_wp2_with fail;refine Zz (HB.o _) ?_;intro w1 c1;have C1:=O c1;have B1:=O (c1.blk B0.o (fun h=>h));clear c1 R a1 q U V Z a6 a7 a8;obtain⟨R,a1,q,U,V,Z,a6,a7,a8⟩:=Av B1.o;go_wp2_with fail;refine Zz (HU.o _) ?_;intro w2 c2;have C2:=O (C1.o.aA c2);have B2:=O (c2.blk B1.o (fun h=>h));clear c2 C1 B1 R a1 q U V Z a6 a7 a8;go_wp2_with fail;with_reducible refine Zz (HP.o _) ?_
 intro w3 c3;have C3:=O ((C2.o.aA c3).alloc (.cells #[.int .u64 Y,.int .u64 c] 319));have L3:=O (Qh.new w3 #[.int .u64 Y,.int .u64 c] 319);have B3:=O ((c3.blk B2.o (fun h=>h)).alloc (.cells #[.int .u64 Y,.int .u64 c] 319));have hH:b<w3.heap.size:=Nat.lt_of_lt_of_le an ((C2.o.aA c3).size);have aa:=(C2.o.aA c3).size;clear c3 C2 B2;obtain⟨H,ah⟩:=Zx (w3.heap.size);go_wp2_with fail;rw[←ah]at L3 hH aa⊢;obtain⟨W,hW⟩:=Zx (w3.alloc (.cells #[.int .u64 Y,.int .u64 c] 319));rw[←hW]at L3 B3 C3⊢;clear hW ah;go_quiet (fail);go_wp2;go_loopw [52] (fun i wr=>Qqv b H w r x0 al am n1 n2 Y c n i wr) (fun i _=>2-(intOf i).toNat);case atStart=>exact .inl ⟨rfl,B3.o,L3.o,C3.o.none.drewN _⟩
 case round=>
  rcases hrel with hrel|hrel|hrel
  ·obtain⟨rfl,J,hh,hc⟩:=hrel;have C4:=O hc;have B4:=O J;have L4:=O hh;clear J hh hc;obtain⟨R,z,B,U,V,Z,a6,a7,a8⟩:=Av B4.o;obtain⟨g0,g1⟩:=Q4 L4.o;have i0:∀w,(Instr.index 353 (.agg #[.pointer (some ⟨b,5,none⟩),.pointer (some ⟨b,7,none⟩)]) (.int .i64 0)).run prog w=.ok (.pointer (some ⟨b,5,none⟩)) w:=fun _=>by kernel_rfl
   go_wp2_with fail;with_reducible refine Zz (A1.o _) ?_
   intro w4 I;have C5:=O (C4.o.aA I.none);have u:=O (I.blk B4.o (fun h=>h));have E:=O (I.blk L4.o (fun h=>h));have s5:=O I.size;clear I R z B U V Z a6 a7 a8 g0 g1;obtain⟨R,z,B,U,V,Z,a6,a7,a8⟩:=Av u.o;obtain⟨g0,g1⟩:=Q4 E.o;have zb:=u.o.frozen;have zH:=E.o.frozen;have s6:=u.o.lt;rcases aj.o with⟨q1,q2,rfl⟩|⟨q1,q2,rfl⟩|⟨q1,rfl⟩
   ·go_wp2;go_roundw;case rel=>exact .inr (.inl ⟨rfl,(u.o.other _ (Nat.ne_of_gt hH)).set' 6 _ rfl,(E.o.set' 0 _ rfl).other _ (Nat.ne_of_lt hH),(C5.o.setCell _ (.inr aa)).setCell _ (.inl rfl)⟩)
    case measure=>decide
   ·go_wp2;go_roundw;case rel=>exact .inr (.inl ⟨rfl,u.o.set' 6 _ rfl,E.o.other _ (Nat.ne_of_lt hH),C5.o.setCell _ (.inl rfl)⟩)
    case measure=>decide
   ·go_wp2;go_roundw;case rel=>exact .inr (.inl ⟨rfl,u.o.set' 6 _ rfl,E.o.other _ (Nat.ne_of_lt hH),C5.o.setCell _ (.inl rfl)⟩)
    case measure=>decide
  ·obtain⟨rfl,J,hh,hc⟩:=hrel;have C4:=O hc;have B4:=O J;have L4:=O hh;clear J hh hc;obtain⟨R,z,B,U,V,Z,a6,a7,a8⟩:=Av B4.o;obtain⟨g0,g1⟩:=Q4 L4.o;have i0:∀w,(Instr.index 353 (.agg #[.pointer (some ⟨b,5,none⟩),.pointer (some ⟨b,7,none⟩)]) (.int .i64 1)).run prog w=.ok (.pointer (some ⟨b,7,none⟩)) w:=fun _=>by kernel_rfl
   go_wp2_with fail;with_reducible refine Zz (A2.o _) ?_
   intro w4 I;have C5:=O (C4.o.aA I.none);have u:=O (I.blk B4.o (fun h=>h));have E:=O (I.blk L4.o (fun h=>h));have s5:=O I.size;clear I R z B U V Z a6 a7 a8 g0 g1;obtain⟨R,z,B,U,V,Z,a6,a7,a8⟩:=Av u.o;obtain⟨g0,g1⟩:=Q4 E.o;have zb:=u.o.frozen;have zH:=E.o.frozen;have s6:=u.o.lt;rcases ak.o with⟨q1,q2,rfl⟩|⟨q1,q2,rfl⟩|⟨q1,rfl⟩
   ·go_wp2;go_roundw;case rel=>exact .inr (.inr ⟨rfl,(u.o.other _ (Nat.ne_of_gt hH)).set' 8 _ rfl,(E.o.set' 1 _ rfl).other _ (Nat.ne_of_lt hH),(C5.o.setCell _ (.inr aa)).setCell _ (.inl rfl)⟩)
    case measure=>decide
   ·go_wp2;go_roundw;case rel=>exact .inr (.inr ⟨rfl,u.o.set' 8 _ rfl,E.o.other _ (Nat.ne_of_lt hH),C5.o.setCell _ (.inl rfl)⟩)
    case measure=>decide
   ·go_wp2;go_roundw;case rel=>exact .inr (.inr ⟨rfl,u.o.set' 8 _ rfl,E.o.other _ (Nat.ne_of_lt hH),C5.o.setCell _ (.inl rfl)⟩)
    case measure=>decide
  ·obtain⟨rfl,J,hh,hc⟩:=hrel;have zb:=J.frozen;obtain⟨R,z,B,U,V,Z,a6,a7,a8⟩:=Av J;go_wp2;exact bodyPost_end (results_none rfl _ _ _) rfl ⟨rfl,HF.o _ ((J.set' 4 _ rfl).set' 3 _ rfl) ((hc.setCell _ (.inl rfl)).setCell _ (.inl rfl))⟩
end
section
open Go.Shelf
def Le(T:Fp)(W c:World):Prop:=∀b o,T b→W.heap[b]? =some o→(o.isCells=true∨o.isWalk=true)→c.heap[b]? =some o
theorem Le.trans{T:Fp}{A B C}(h:Le T A B)(k:Le T B C):Le T A C:=fun b o d h1 c=>k b o d (h b o d h1 c) c
theorem Le.put{T:Fp}{w:World}(W:World)(l:Nat)(o u:Obj)(_:w.heap.size≤l)(h:W.heap[l]? =some o)(h1:o.isCells=false)(z:o.isWalk=false):Le T W (W.putObj l u):=by
 intro b q _ c k;have d:b≠l:=by rintro rfl;rw[h]at c;obtain rfl:=Zs c;rw[h1,z]at k;simp at k
 exact(World.grownBy.block (grownBy_putObj' W l u) b (Z2.1 c).1 (fun e=>d (Zs e))).trans c
theorem Le.chg{T S:Fp}{W W'}(h:Qc S W W')(d:∀k,T k→S k→False):Le T W W':=fun b o c h1 _=>h.heap h1 (fun hs=>d b c hs)
theorem Le.blk{T:Fp}{W W'}{b:Nat}{cs:Array Value}{t:TypeId}(h:Le T W W')(d:Qh W b cs t)(c:T b):Qh W' b cs t:=h b _ c d (.inl rfl)
theorem Yx{β:Type}(B b:Nat)(f:β→Array Value)(t:TypeId):OwnFrom B (fun s W=>Qh W b (f s) t):=fun s W k row hs d hr=>by refine(d.block b hs.lt (fun e=>?_)).trans hs;obtain⟨_,o,h1,c⟩:=hr b e.symm;rw[show W.heap[b]? =some (.cells (f s) t (0,0))from hs]at h1;obtain rfl:=Zs h1;cases c
theorem Dr{β:Type}{B:Nat}{S:Fp}{w:World}(q:w.heap.size≤B):OwnFrom B (fun(_:β)W=>Qc S w W):=fun s W d row hs c hr=>hs.grown c fun k e=>.inr (by have:=(hr k e).1;omega)
theorem Vg{B:Nat}{S:Fp}{W W'}(h:Qc S W W')(c:∀k,S k→k<B):KeepsFrom B W W':=⟨h.size,fun k o d h1 _=>h.heap h1 (fun hs=>by have:=c k hs;omega)⟩
theorem Ud{S:Fp}{w W}{D:Nat}(h:Qc S w W)(c:w.heap.size≤D)(hW:D<W.heap.size):Qc S w (W.putObj D (.deferred none)):=h.grown (grownBy_putObj' W D _) fun k e=>.inr (by cases e;exact c)
theorem Uc{W}{b D:Nat}{cs:Array Value}{t:TypeId}(h:Qh W b cs t)(c:W.heap[D]? =some (.deferred (some []))):Qh (W.putObj D (.deferred none)) b cs t:=by refine(World.grownBy.block (grownBy_putObj' W D _) b h.lt (fun e=>?_)).trans h;cases e;rw[show W.heap[b]? =some (.cells cs t (0,0))from h]at c;cases c
end
section
open Go.Shelf
attribute [local go_sem] Oper.semAt_some
structure Pc where
 s:Nat
 n:Nat
 hs:s<18446744073709551616
 hn:n<18446744073709551616
def pcE(x:Pc):Array Value:=#[.agg #[.int .u64 x.s,.int .u64 x.n]]
def Fo:Nat:=18446744073709551615
def pc1(c:Jy)(hc:c.May):Pc:=⟨c.f,c.l,by have:=hc.hf;omega,by have:=hc.hl;omega⟩
def pc2(c:Jy)(hc:c.May):Pc:=⟨c.r,Fo,by have:=hc.hr;omega,by decide⟩
def pcs(c:Jy)(hc:c.May):List Pc:=if c.l=0 then[pc2 c hc]else[pc1 c hc,pc2 c hc]
theorem Qlh(n l B:Nat)(hn:1≤n)(c:Jy)(hc:c.May)(J Jx:List Pc→World→Prop)
  (hY:∀d x W,J d W→d.length<2→YieldAt Fence.wide (n-1) prog l (pcE x) W fun e K=>
   (e=.returned (.bool true)∧J (d++[x]) K∧Le (fun k=>k=B) W K)∨(e=.returned (.bool false)∧Jx (d++[x]) K))
  (W) (hB:Qh W B #[.int .u64 c.f,.int .u64 c.l,.int .u64 c.r] 38) (h0:J [] W):
  CallsIn Fence.wide n prog 338 #[.func (.yield l) #[] #[],.pointer (some ⟨B,0,none⟩)] W fun e K=>(∃v,e=.returned v)∧
   ((∃ys,ys=pcs c hc∧J ys K)∨(∃d,d<+:pcs c hc∧Jx d K)):=by
 have HB:=O hB;obtain⟨a0,a1,a2⟩:=L6 hB;by_cases hl:c.l=0
 ·obtain⟨fn,ab,u,V,hy,hR⟩:=hY [] (pc2 c hc) W h0 (by simp);have I:Hi (pcs c hc=[pc2 c hc]):=O (if_pos hl);have hd:decide ((0:Int)<(c.l:Int))=false:=by simp;omega
  have ag:decide (0<c.l)=false:=by simp;omega
  clear hB hl hY;dsimp only[pcE,pc1,pc2]at hy;rw[show((Fo:Nat):Int)=18446744073709551615 from rfl]at hy;refine callsIn_of_wp func338 rfl trivial ?_ rfl;simp only[ntmps338,List.size_toArray,Zm,List.length_nil,Nat.reduceAdd,Nat.reduceSub,Array.replicate_succ,Array.replicate_zero,List.push_toArray,List.append_toArray,List.nil_append,List.cons_append];gi_wp2;refine⟨fun _ h=>(by cases h),?_⟩;gi_wp2;refine hR.mono ?_;rintro e W3(⟨rfl,z,E⟩|⟨rfl,q⟩);·gi_wp2;refine bodyPost_end (results_none rfl _ _ _) rfl ?_;exact⟨⟨_,rfl⟩,.inl ⟨_,I.o.symm,z⟩⟩
  ·gi_wp2;refine bodyPost_end (results_none rfl _ _ _) rfl ?_;exact⟨⟨_,rfl⟩,.inr ⟨[pc2 c hc],by rw[I.o];exact List.prefix_refl _,q⟩⟩
 ·obtain⟨fn,ab,u,V,hy,hR⟩:=hY [] (pc1 c hc) W h0 (by simp);have I:Hi (pcs c hc=[pc1 c hc,pc2 c hc]):=O (if_neg hl);have hd:decide ((0:Int)<(c.l:Int))=true:=by simp;omega
  have ag:decide (0<c.l)=true:=by simp;omega
  have HY:=O hY;clear hB hl hY;dsimp only[pcE,pc1,pc2]at hy;refine callsIn_of_wp func338 rfl trivial ?_ rfl;simp only[ntmps338,List.size_toArray,Zm,List.length_nil,Nat.reduceAdd,Nat.reduceSub,Array.replicate_succ,Array.replicate_zero,List.push_toArray,List.append_toArray,List.nil_append,List.cons_append];gi_wp2;refine hR.mono ?_;rintro e W3(⟨rfl,z,E⟩|⟨rfl,q⟩)
  ·obtain⟨ai,ah,U,ac,aa,af⟩:=HY.o _ (pc2 c hc) W3 z (by simp);have R:=E.blk HB.o rfl;clear a0 a1 a2 E hy;obtain⟨a0,a1,a2⟩:=L6 R;dsimp only[pcE,pc1,pc2]at aa;rw[show((Fo:Nat):Int)=18446744073709551615 from rfl]at aa;clear R;gi_wp2;refine af.mono ?_;rintro e W4(⟨rfl,ae,aj⟩|⟨rfl,Z⟩);·gi_wp2;refine bodyPost_end (results_none rfl _ _ _) rfl ?_;exact⟨⟨_,rfl⟩,.inl ⟨_,I.o.symm,ae⟩⟩
   ·gi_wp2;refine bodyPost_end (results_none rfl _ _ _) rfl ?_;exact⟨⟨_,rfl⟩,.inr ⟨[pc1 c hc,pc2 c hc],by rw[I.o];exact List.prefix_refl _,Z⟩⟩
  ·gi_wp2;refine bodyPost_ret (results_none rfl _ _ _) rfl ?_;exact⟨⟨_,rfl⟩,.inr ⟨[pc1 c hc],by rw[I.o];simp,q⟩⟩
theorem Qfh(n B:Nat)(hn:1≤n)(c:Jy)(hc:c.May)(w)(u:Qh w B #[.int .u64 c.f,.int .u64 c.l,.int .u64 c.r] 38):
  SeqStopsK Fence.wide n prog 338 #[.pointer (some ⟨B,0,none⟩)] pcE (Le (fun k=>k=B)) (fun E=>E=pcs c hc) (fun d=>d<+:pcs c hc) 2 w:=fun l J q W hW _ _ z h0=>
 Qlh n l B hn c hc J q z W ((Qc.ofBelow (S:=Qb) hW).blk u (fun h=>h)) h0
theorem Qgs(c:Jy)(w):Cl 337 #[cV c] w fun e w'=>e=.returned (.func (.func 338) #[] #[.pointer (some ⟨w.heap.size,0,none⟩)])∧w'=w.alloc (.cells #[.int .u64 c.f,.int .u64 c.l,.int .u64 c.r] 38):=by unfold cV;go_enter func337,ntmps337;go_wp2;go_ret;exact⟨rfl,rfl⟩
def D7:Nat→Nat→List Pc→Option Nat
 |_,_,[]=>none
 |a,y,x::r=>if y≤min Xw (x.s*x.n)then some (if y=0 then a else(a+upN y x.s)%18446744073709551616)else D7 ((a+x.n)%18446744073709551616) (y-min Xw (x.s*x.n)) r
def stA(a:Nat)(l:List Pc):Nat:=l.foldl (fun a x=>(a+x.n)%18446744073709551616) a
def stY(y:Nat)(l:List Pc):Nat:=l.foldl (fun y x=>y-min Xw (x.s*x.n)) y
theorem Qhc(x:Pc):∀(l:List Pc)(a y:Nat),D7 a y (l++[x])=match D7 a y l with
  |some v=>some v
  |none=>D7 (stA a l) (stY y l) [x]
 |[],a,y=>rfl
 |z::l,a,y=>by
  rw[List.cons_append,D7,D7];split;·rfl
  ·rw[Qhc x l];rfl
theorem Qki{l:List Pc}:∀{c:List Pc}{a y v:Nat},c<+:l→D7 a y c=some v→D7 a y l=some v:=by
 induction l with
 |nil=> intro c a y v h e;rw[List.prefix_nil.1 h]at e;exact e
 |cons z l k=>
  intro c a y v h e;cases c with
  |nil=>cases e
  |cons u c=>
   obtain⟨rfl,h'⟩:=List.cons_prefix_cons.1 h;rw[D7]at e⊢;split;·rename_i d;rw[if_pos d]at e;exact e
   ·rename_i d;rw[if_neg d]at e;exact k h' e
theorem Qss(y:Nat):∀(l:List Pc),stY y l≤y
 |[]=>Zv _
 |x::l=>Zp (Qss _ l) (Nat.sub_le _ _)
def U7(c:Jy)(y:Nat):Nat:=if Xw<y then Qq else(c.reach y).getD Qq
theorem Qon(c:Jy)(hc:c.May)(y:Nat)(J:y≤Xw):(D7 0 y (pcs c hc)).getD Qq=U7 c y:=by
 have I:=Yz;have h1:=hc.hf;have E:=hc.hl;have U:=hc.hr;have R:c.f*c.l≤1048576*1099511627776:=Nat.mul_le_mul h1 E;unfold U7;rw[if_neg (by omega)];have q:∀a z,a≤1099511627776→0<z∨a=0→z≤Xw→(D7 a z [pc2 c hc]).getD Qq=(if z=0 then a else if c.r=0 then Qq else a+Tw z c.r):=by
  intro a z ha Z B;rw[D7,D7];show(if z≤min Xw (c.r*Fo)then some (if z=0 then a else(a+upN z c.r)%18446744073709551616)else none).getD Qq=_;by_cases hr:c.r=0
  ·rw[hr,Nat.zero_mul];by_cases k:z=0;·rw[if_pos (by omega),if_pos k,if_pos k];rfl
   ·rw[if_neg (by omega),if_neg k,if_pos rfl];rfl
  ·have V:Xw≤c.r*Fo:=by have:1*Fo≤c.r*Fo:=Nat.mul_le_mul_right _ (by omega);have e:Fo=18446744073709551615:=rfl;omega
   rw[if_pos (by omega)];by_cases k:z=0;·rw[if_pos k,if_pos k];rfl
   ·rw[if_neg k,if_neg k,if_neg hr,Qmr (by omega) B];have:Tw z c.r≤z:=(D9 (by omega)).2 (Nat.le_mul_of_pos_left z (by omega));rw[Nat.mod_eq_of_lt (by omega)];rfl
 by_cases hl:c.l=0
 ·have e:pcs c hc=[pc2 c hc]:=if_pos hl;have hf:=hc.h0 hl;rw[e,q 0 y (by omega) (by omega) J];unfold Jy.reach;rw[hf,hl];simp only[Nat.mul_zero,Nat.zero_add,Nat.sub_zero];by_cases d:y=0;·rw[if_pos d,if_pos d];rfl
  ·rw[if_neg d,if_neg d,if_neg (show¬y≤0 by omega)];by_cases hr:c.r=0;·rw[if_pos hr,if_pos hr];rfl
   ·rw[if_neg hr,if_neg hr];rfl
 ·have e:pcs c hc=[pc1 c hc,pc2 c hc]:=if_neg hl;rw[e,D7];have K:min Xw ((pc1 c hc).s*(pc1 c hc).n)=c.f*c.l:=by show min Xw (c.f*c.l)=_;omega
  rw[K];unfold Jy.reach;by_cases u:y≤c.f*c.l
  ·rw[if_pos u,if_pos u];by_cases d:y=0;·rw[if_pos d,if_pos d]
   ·rw[if_neg d,if_neg d];have hf:0<c.f:=Nat.pos_of_ne_zero fun h=>by rw[h,Nat.zero_mul]at u;exact d (Nat.le_zero.1 u)
    show(some ((0+upN y c.f)%18446744073709551616)).getD Qq=_;rw[Qmr hf J];have:Tw y c.f≤y:=(D9 hf).2 (Nat.le_mul_of_pos_left y hf);rw[Nat.zero_add,Nat.mod_eq_of_lt (by omega)]
  ·have d:y≠0:=fun h=>u (by rw[h];exact Nat.zero_le _);rw[if_neg u,if_neg d,if_neg u];show(D7 ((0+c.l)%18446744073709551616) (y-c.f*c.l) [pc2 c hc]).getD Qq=_;rw[Nat.zero_add,Nat.mod_eq_of_lt (by omega),q c.l (y-c.f*c.l) E (.inl (by omega)) (by omega),if_neg (show¬y-c.f*c.l=0 by omega)];by_cases hr:c.r=0;·rw[if_pos hr,if_pos hr];rfl
   ·rw[if_neg hr,if_neg hr];rfl
theorem Qu6:∀(l:List Pc),stA 0 l<18446744073709551616:=by
 have:∀(l:List Pc)(a:Nat),a<18446744073709551616→stA a l<18446744073709551616:=by
  intro l;induction l with
  |nil=>exact fun a h=>h
  |cons x l c=>exact fun a _=>c _ (Nat.mod_lt _ (by decide))
 exact fun l=>this l 0 (by decide)
def T3(s:Nat):Fp:=fun k=>k=s+1∨k=s+1+1∨k=s+1+1+1
theorem Aw(c:Jy)(hc:c.May)(y:Nat)(hy:y≤Xw)(w):Cl 331 #[cV c,.int .u64 y] w fun e w'=>e=.returned (.int .u64 (U7 c y:Nat))∧Qc Qb w w':=by
 have hd:¬(4611686018427387904:Int)<(y:Int):=by have:=Yz;omega
 have HP:=O (Qgs c);have HR:=O (Qon c hc y hy);refine callsIn_wide (n:=9).1 ?_;unfold cV at*;refine callsIn_of_wp_marks func331 rfl trivial ?_;simp only[ntmps331,List.size_toArray,Zm,List.length_nil,Nat.reduceAdd,Nat.reduceSub,Array.replicate_succ,Array.replicate_zero,List.push_toArray,List.append_toArray,List.nil_append,List.cons_append];gi_wp2_with (refine⟨trivial,?_⟩;gi_at_call 337;refine(callsIn_wide.2 (HP.o _)).mono ?_;rintro e w1⟨rfl,rfl⟩);obtain⟨s,hs⟩:=Zx (w.heap.size);have bY:=O ((((Qh.new (w.alloc (.cells #[.int .u64 c.f,.int .u64 c.l,.int .u64 c.r] 38)) #[.int .u64 y] 29).alloc (.cells #[.int .u64 0] 29)).alloc (.cells #[.int .u64 0] 29)).alloc (.cells #[.int .u64 c.f,.int .u64 c.l,.int .u64 c.r] 38));have bR:=O (((Qh.new ((w.alloc (.cells #[.int .u64 c.f,.int .u64 c.l,.int .u64 c.r] 38)).alloc (.cells #[.int .u64 y] 29)) #[.int .u64 0] 29).alloc (.cells #[.int .u64 0] 29)).alloc (.cells #[.int .u64 c.f,.int .u64 c.l,.int .u64 c.r] 38));have bA:=O ((Qh.new (((w.alloc (.cells #[.int .u64 c.f,.int .u64 c.l,.int .u64 c.r] 38)).alloc (.cells #[.int .u64 y] 29)).alloc (.cells #[.int .u64 0] 29)) #[.int .u64 0] 29).alloc (.cells #[.int .u64 c.f,.int .u64 c.l,.int .u64 c.r] 38));have bC:=O (Qh.new ((((w.alloc (.cells #[.int .u64 c.f,.int .u64 c.l,.int .u64 c.r] 38)).alloc (.cells #[.int .u64 y] 29)).alloc (.cells #[.int .u64 0] 29)).alloc (.cells #[.int .u64 0] 29)) #[.int .u64 c.f,.int .u64 c.l,.int .u64 c.r] 38);have C0:=O ((((((Zg Qb w).alloc (.cells #[.int .u64 c.f,.int .u64 c.l,.int .u64 c.r] 38)).alloc (.cells #[.int .u64 y] 29)).alloc (.cells #[.int .u64 0] 29)).alloc (.cells #[.int .u64 0] 29)).alloc (.cells #[.int .u64 c.f,.int .u64 c.l,.int .u64 c.r] 38));have az:(((((w.alloc (.cells #[.int .u64 c.f,.int .u64 c.l,.int .u64 c.r] 38)).alloc (.cells #[.int .u64 y] 29)).alloc (.cells #[.int .u64 0] 29)).alloc (.cells #[.int .u64 0] 29)).alloc (.cells #[.int .u64 c.f,.int .u64 c.l,.int .u64 c.r] 38)).heap.size=s+5:=by rw[hs];simp
 simp only[World.size_alloc,←hs]at bY bR bA bC;rw[←hs];obtain⟨W0,ar⟩:=Zx (((((w.alloc (.cells #[.int .u64 c.f,.int .u64 c.l,.int .u64 c.r] 38)).alloc (.cells #[.int .u64 y] 29)).alloc (.cells #[.int .u64 0] 29)).alloc (.cells #[.int .u64 0] 29)).alloc (.cells #[.int .u64 c.f,.int .u64 c.l,.int .u64 c.r] 38));rw[←ar]at bY bR bA bC C0 az⊢;clear ar;have ac:=O hs;clear hs;refine wpIn_rangeFunc_ownH rfl (by decide) (gf:=338) (lb:=#[.pointer (some ⟨s+1+1+1+1,0,none⟩)]) rfl trivial (enters_of func338 (by kernel_rfl) rfl)
  (Qfh 8 (s+1+1+1+1) (by decide) c hc W0 bC.o) (fun h k=>h.trans k) (fun W l o o' h1 h2 h3 h4=>Le.put (w:=W0) W l o o' h1 h2 h3 h4) (Below.refl _ _) (fun _=>rfl)
  (fun d W=>((((D7 0 y d=none)∧Qh W (s+1) #[.int .u64 (stY y d:Int)] 29)∧Qh W (s+1+1) #[.int .u64 0] 29)∧Qh W (s+1+1+1) #[.int .u64 (stA 0 d:Int)] 29)∧Qc (T3 s) W0 W)
  (fun c d W=>((c=.ret∧(D7 0 y d).isSome=true)∧Qh W (s+1+1) #[.int .u64 ((D7 0 y d).getD 0:Nat)] 29)∧Qc (T3 s) W0 W)
  (OwnFrom.and (OwnFrom.and (OwnFrom.and (OwnFrom.and (ownFrom_pure _ _) (Yx _ _ _ _)) (Yx _ _ _ _)) (Yx _ _ _ _)) (Dr (Zv _)))
  (fun c=>OwnFrom.and (OwnFrom.and (ownFrom_pure _ _) (Yx _ _ _ _)) (Dr (Zv _)))
  ⟨⟨⟨⟨rfl,bY.o⟩,bR.o⟩,bA.o⟩,Zg _ _⟩
  (fun x a' W=>∃Bx,s+5≤Bx∧Qh W Bx #[.int .u64 x.s,.int .u64 x.n] 375∧a'={tmps:=#[.agg #[.int .u64 c.f,.int .u64 c.l,.int .u64 c.r],.int .u64 y,.pointer (some ⟨s,0,none⟩),.pointer (some ⟨s+1,0,none⟩),.pointer (some ⟨s+1+1,0,none⟩),.pointer (some ⟨s+1+1+1,0,none⟩),.pointer (some ⟨Bx,0,none⟩),undef,undef,undef,.int .u64 y,.bool false,.agg #[.int .u64 c.f,.int .u64 c.l,.int .u64 c.r],.func (.func 338) #[] #[.pointer (some ⟨s+1+1+1+1,0,none⟩)],.agg #[.int .u64 x.s,.int .u64 x.n],undef,undef,undef,undef,undef,undef,undef,undef,undef,undef,undef,undef,undef,undef,undef,undef,undef,undef,undef,undef,undef,undef,undef,undef,undef,undef,undef,undef],defers:=[]})
  (fun x a' _ X Y row hs hg hr=>by obtain⟨Bx,e1,e2,e3⟩:=hs;exact⟨Bx,e1,Yx W0.heap.size Bx (fun(_:Unit)=>#[.int .u64 x.s,.int .u64 x.n]) _ () X Y row e2 hg hr,e3⟩)
  ?assign ?body ?done ?stop
 case assign=> rintro l d x W K⟨⟨⟨⟨hp,U⟩,q⟩,R⟩,z⟩hK;dsimp only[pcE];gi_wp2;exact hK _ _ (Vg ((Zg Qb W).alloc _) (fun k h=>h.elim)) (Le.chg ((Zg Qb W).alloc _) (fun _ _ h=>h)) ⟨⟨⟨⟨hp,U.alloc _⟩,q.alloc _⟩,R.alloc _⟩,z.alloc _⟩ ⟨W.heap.size,by have:=z.size;omega,Qh.new W _ _,rfl⟩
 case body=>
  rintro l d x a' W hl a4⟨⟨⟨⟨hp,U⟩,q⟩,R⟩,z⟩⟨Bx,a3,bX,rfl⟩Xg;have HT:=O (Rs x.s x.n x.hs x.hn);have aa:=Yz;have am:=Qss y d;have ak:stA 0 d<18446744073709551616:=Qu6 d;have af:=Qhc x d 0 y;rw[hp]at af;have au:stY y (d++[x])=stY y d-min Xw (x.s*x.n):=by unfold stY;rw[List.foldl_append];rfl
  have aq:stA 0 (d++[x])=(stA 0 d+x.n)%18446744073709551616:=by unfold stA;rw[List.foldl_append];rfl
  have hx:=x.hs;have a6:=x.hn;rw[D7,D7]at af;have ae:min Xw (x.s*x.n)≥stY y d→stY y d≠0→0<x.s:=fun h1 h2=>Nat.pos_of_ne_zero fun h=>by rw[h,Nat.zero_mul]at h1;omega
  have hm:min Xw (x.s*x.n)≤Xw:=Nat.min_le_left _ _;generalize min Xw (x.s*x.n)=m at*;have HU:=fun(h:0<x.s)=>Qir (stY y d) x.s (by omega) hx h;have hu:upN (stY y d) x.s≤Xw:=Nat.min_le_right _ _;generalize upN (stY y d) x.s=u at*;generalize stY y d=y1 at*;generalize stA 0 d=a1 at*;generalize x.s=xs at*;generalize x.n=xn at*;have Z:=O af;have ao:=O au;have an:=O aq;have BY:=O U;have BR:=O q;have BA:=O R;have BX:=O bX;have HC:=O z;have sz:=z.size;clear af au aq U q R bX z hp;have y0:=Jf BY.o;have x0:=Q4 BX.o;obtain⟨x0,x1⟩:=x0;have hT:∀k,T3 s k→k<W0.heap.size:=fun k hk=>by rcases hk with h|h|h<;>omega
  have kp:∀w2,Qc (T3 s) W w2→Le (fun k=>k=s+1+1+1+1) W w2:=fun w2 h=>Le.chg h fun k e hk=>by subst e;rcases hk with h|h|h<;>omega
  have KP:=O kp;have ai:=O hT;clear kp hT;by_cases h1:y1≤m
  ·have d1:(y1:Int)≤(m:Int):=by omega
   have ax:decide (y1≤m)=true:=by simpa using h1
   by_cases h2:y1=0;·subst h2;rw[if_pos (Nat.zero_le _),if_pos rfl]at Z;clear HU ae hm am ak hu aa;gi_wp2_with (refine⟨trivial,?_⟩;gi_at_call 312;with_reducible refine(CallsIn.inRound l (callsIn_wide.2 (HT.o _))).mono ?_;rintro e w1⟨rfl,I⟩;have C1:=O I;have J:=O (I.blk BY.o (fun h=>h));have B:=O (I.blk BR.o (fun h=>h));have E:=O (I.blk BA.o (fun h=>h));have V:=O (I.blk BX.o (fun h=>h));have c0:=Jf J.o;have ap:=Jf E.o;have c2:=Jf B.o;obtain⟨c3,c4⟩:=Q4 V.o;have z0:=J.o.frozen;have z1:=E.o.frozen;have z2:=B.o.frozen;clear I);exact⟨Vg (C1.o.none.setCell _ (.inl (.inr (.inl rfl)))) ai.o,⟨⟨rfl,by rw[Z.o];rfl⟩,by rw[Z.o];exact B.o.set' 0 _ rfl⟩,(HC.o.aA C1.o.none).setCell _ (.inl (.inr (.inl rfl)))⟩
   ·rw[if_pos h1,if_neg h2]at Z;have HU:=O (HU (ae h1 h2));have d2:((y1:Int)==0)=false:=by simp;omega
    have ab:IntKind.u64.wrap ((a1:Int)+(u:Int))=(((a1+u)%18446744073709551616:Nat):Int):=by rw[IntKind.wrap_u64];omega
    generalize(a1+u)%18446744073709551616=v at ab Z;clear ae hm am ak hu aa h1 h2;gi_wp2_with (first|(refine⟨trivial,?_⟩;gi_at_call 312;with_reducible refine(CallsIn.inRound l (callsIn_wide.2 (HT.o _))).mono ?_;rintro e w1⟨rfl,I⟩;have C1:=O I;have J:=O (I.blk BY.o (fun h=>h));have B:=O (I.blk BR.o (fun h=>h));have E:=O (I.blk BA.o (fun h=>h));have V:=O (I.blk BX.o (fun h=>h));have c0:=Jf J.o;have ap:=Jf E.o;have c2:=Jf B.o;obtain⟨c3,c4⟩:=Q4 V.o;have z0:=J.o.frozen;have z1:=E.o.frozen;have z2:=B.o.frozen;clear I)|(refine⟨trivial,?_⟩;gi_at_call 311;with_reducible refine(CallsIn.inRound l (callsIn_wide.2 (HU.o _))).mono ?_;rintro e w2⟨rfl,d1⟩;have C2:=O (C1.o.aA d1);have aw:=O (d1.blk E.o (fun h=>h));have ah:=O (d1.blk B.o (fun h=>h));have q1:=Jf aw.o;have q2:=Jf ah.o;have q3:=ah.o.frozen;clear d1));exact⟨Vg (C2.o.none.setCell _ (.inl (.inr (.inl rfl)))) ai.o,⟨⟨rfl,by rw[Z.o];rfl⟩,by rw[Z.o];exact ah.o.set' 0 _ rfl⟩,(HC.o.aA C2.o.none).setCell _ (.inl (.inr (.inl rfl)))⟩
  ·have d1:¬(y1:Int)≥(m:Int)→True:=fun _=>trivial;have ax:decide (y1≤m)=false:=by simpa using h1
   have d2:¬(y1:Int)≤(m:Int):=by omega
   have av:IntKind.u64.wrap ((y1:Int)-(m:Int))=((y1-m:Nat):Int):=by rw[IntWalk.u64_in _ (by omega)];omega
   have ab:IntKind.u64.wrap ((a1:Int)+(xn:Int))=(((a1+xn)%18446744073709551616:Nat):Int):=by rw[IntKind.wrap_u64];omega
   rw[if_neg h1]at Z;generalize(a1+xn)%18446744073709551616=a2 at ab an Z;generalize y1-m=y2 at av ao Z;clear HU ae hm am ak hu aa h1 d1;gi_wp2_with (refine⟨trivial,?_⟩;gi_at_call 312;with_reducible refine(CallsIn.inRound l (callsIn_wide.2 (HT.o _))).mono ?_;rintro e w1⟨rfl,I⟩;have C1:=O I;have J:=O (I.blk BY.o (fun h=>h));have B:=O (I.blk BR.o (fun h=>h));have E:=O (I.blk BA.o (fun h=>h));have V:=O (I.blk BX.o (fun h=>h));have c0:=Jf J.o;have ap:=Jf E.o;have c2:=Jf B.o;obtain⟨c3,c4⟩:=Q4 V.o;have z0:=J.o.frozen;have z1:=E.o.frozen;have z2:=B.o.frozen;clear I);have a0:s+1≠s+1+1:=by omega
   have HW:=O (((C1.o.none (F:=T3 s)).setCell (a:=⟨s+1,0,none⟩) (.int .u64 y2) (.inl (.inl rfl))).setCell (a:=⟨s+1+1+1,0,none⟩) (.int .u64 a2) (.inl (.inr (.inr rfl))));refine⟨Vg HW.o ai.o,KP.o _ HW.o,⟨⟨⟨by rw[Z.o],?_⟩,?_⟩,?_⟩,HC.o.aA HW.o⟩;·rw[ao.o];exact(J.o.set' 0 _ rfl).other _ (by show s+1+1+1≠s+1;omega)
   ·exact(B.o.other _ (by show s+1≠s+1+1;omega)).other _ (by show s+1+1+1≠s+1+1;omega)
   ·rw[an.o];exact(E.o.other _ (by show s+1≠s+1+1+1;omega)).set' 0 _ rfl
 case done=>
  rintro D ys W hD rfl⟨⟨⟨⟨hp,U⟩,q⟩,R⟩,z⟩hK;have hv:U7 c y=9223372036854775808:=by rw[←HR.o,hp];rfl
  have Hv:=O hv;have a5:=q.lt;have ay:=z.size;have HC:=O ((C0.o.trans z (fun k hk=>.inr (by rw[←ac.o];rcases hk with h|h|h<;>omega))).setCell (a:=⟨s+1+1,0,none⟩) (.int .u64 9223372036854775808) (.inr (by rw[←ac.o];show s≤s+1+1;omega)));have BR:=O (q.set' 0 (.int .u64 9223372036854775808) rfl);have aj:Hi ((W.setCell ⟨s+1+1,0,none⟩ (.int .u64 9223372036854775808)).heap[D]? =some (.deferred (some []))):=O ((KeepsOthers.setCell W ⟨s+1+1,0,none⟩ (.int .u64 9223372036854775808)).same D _ hK rfl);have z0:=Jf q;have z1:=q.frozen 0;clear hp U R q z hv;gi_wp2;refine⟨by simp,.inl ⟨_,_,rfl,run_takeDeferred aj.o,?_⟩⟩;have hB:=Uc BR.o aj.o;have al:=Jf hB;refine⟨.int .u64 9223372036854775808,?_,by rw[Hv.o];rfl,Ud HC.o (by rw[←ac.o];omega) (Z2.1 aj.o).1⟩;clear hB;simp[results,Tryz.results331,go_sem,al]
 case stop=>
  rintro D c' d W hD ag⟨⟨⟨rfl,hv⟩,q⟩,z⟩hK;have ay:=z.size;have HC:=O (C0.o.trans z (fun k hk=>.inr (by rw[←ac.o];rcases hk with h|h|h<;>omega)));obtain⟨v,hv⟩:=Option.isSome_iff_exists.1 hv;have e:U7 c y=v:=by rw[←HR.o,Qki ag hv];rfl
  rw[hv]at q;have He:=O e;clear e hv ag;gi_wp2;refine⟨by simp,.inl ⟨_,_,rfl,run_takeDeferred hK,?_⟩⟩;have hB:=Uc q hK;have al:=Jf hB;refine⟨.int .u64 v,?_,by rw[He.o],Ud HC.o (by rw[←ac.o];omega) (Z2.1 hK).1⟩;clear hB;simp[results,Tryz.results331,go_sem,al]
end
section
attribute [local go_sem] Qp
attribute [local go_sem ↓] X8 Yd
def Pq(c:Jy)(n:Int)(x:Nat)(v:Value):Array Value:=#[.int .u64 c.f,.int .u64 c.l,.int .u64 c.r,.bool true,.int .i64 n,.int .u64 x,v]
theorem Tu{w}{b:Nat}{t:TypeId}{v0 v1 v2 v3 v4 v5 v6:Value}(h:Qh w b #[v0,v1,v2,v3,v4,v5,v6] t):w.cell? ⟨b,0,none⟩=some v0∧w.cell? ⟨b,1,none⟩=some v1∧w.cell? ⟨b,2,none⟩=some v2∧w.cell? ⟨b,3,none⟩=some v3∧w.cell? ⟨b,4,none⟩=some v4∧w.cell? ⟨b,5,none⟩=some v5∧w.cell? ⟨b,6,none⟩=some v6:=by simp only[h.cell];exact⟨rfl,rfl,rfl,rfl,rfl,rfl,rfl⟩
def kV(k:Nat×Nat):Value:=.agg #[.int .u64 k.1,.int .u64 k.2]
theorem Qej(m n:Nat)(hn:n<18446744073709551616)(w)(h:m+n<340282366920938463463374607431768211456):
  Cl 256 #[.agg #[.int .u64 ((m/18446744073709551616:Nat):Int),.int .u64 ((m%18446744073709551616:Nat):Int)],.agg #[.int .u64 0,.int .u64 n]] w
   fun e w'=>e=.returned (.tuple #[Qek (m+n),.int .i64 0])∧Qc Qb w w':=by
 have:=Fg m n w h;rw[Nat.div_eq_of_lt hn,Nat.mod_eq_of_lt hn]at this;exact this
theorem Qbv{w}{b:Nat}{c:Jy}{n:Int}{x:Nat}{v:Value}(hc:c.May)(hB:Qh w b (Pq c n x v) 300)(k:Nat×Nat)(t:Nat)(hk:k.1≤t)(ht:t<18446744073709551616)(hy:k.2≤Xw):
  Cl 334 #[ptr b,kV k,.int .u64 t] w fun e w'=>e=.returned (Qek (Ug c t k))∧Qc Qb w w':=by
 obtain⟨q,u⟩:=k;have I:=Yz;dsimp only at hk hy;have hm:c.r*(t-q)≤1048576*18446744073709551616:=Nat.mul_le_mul hc.hr (by omega);have V:=O (fun w=>Dw c.r (t-q) w (by have:=hc.hr;omega) (by omega));have B:=O (fun w=>Qej (c.r*(t-q)) u (by omega) w (by omega));have e:Ug c t (q,u)=c.r*(t-q)+u:=by unfold Ug;rw[Nat.add_comm]
 rw[e];have hs:IntKind.u64.wrap ((t:Int)-(q:Int))=((t-q:Nat):Int):=by rw[IntWalk.u64_in _ (by omega)];omega
 clear hk ht hy I hm e;generalize c.r*(t-q)=p at*;generalize t-q=d at*;unfold Qek kV ptr at*;dsimp only;generalize(((p+u)/18446744073709551616:Nat):Int)=q1 at B⊢;generalize(((p+u)%18446744073709551616:Nat):Int)=q0 at B⊢;generalize((p/18446744073709551616:Nat):Int)=p1 at V B;generalize((p%18446744073709551616:Nat):Int)=p0 at V B;have B0:=O hB;have aa:=hB.lt;obtain⟨s,z⟩:=Zx (w.heap.size);have J:=O ((Qh.new w #[.int .u64 q,.int .u64 u] 369).alloc (.cells #[.int .u64 0,.int .u64 0] 291));have K:=O (Qh.new (w.alloc (.cells #[.int .u64 q,.int .u64 u] 369)) #[.int .u64 0,.int .u64 0] 291);have S0:=O ((B0.o.alloc (.cells #[.int .u64 q,.int .u64 u] 369)).alloc (.cells #[.int .u64 0,.int .u64 0] 291));have U:=O (((Zg Qb w).alloc (.cells #[.int .u64 q,.int .u64 u] 369)).alloc (.cells #[.int .u64 0,.int .u64 0] 291));simp only[World.size_alloc,←z]at J K;go_enter func334,ntmps334;go_wp2;rw[←z];obtain⟨W,hW⟩:=Zx ((w.alloc (.cells #[.int .u64 q,.int .u64 u] 369)).alloc (.cells #[.int .u64 0,.int .u64 0] 291));rw[←hW]at J K S0 U⊢;have HS:=O z;clear hW z aa;have E:=O (fun(w')(h:Qc Qb W w')=>(⟨(Tu (h.blk S0.o (fun h=>h))).2.2.1,(Q4 (h.blk J.o (fun h=>h))).1,(Q4 (h.blk J.o (fun h=>h))).2⟩:w'.cell? ⟨b,2,none⟩=some (.int .u64 c.r)∧w'.cell? ⟨s,0,none⟩=some (.int .u64 q)∧w'.cell? ⟨s,1,none⟩=some (.int .u64 u)));go_region_held3 (fun w':World=>w'.cell? ⟨b,2,none⟩=some (.int .u64 c.r)∧w'.cell? ⟨s,0,none⟩=some (.int .u64 q)∧w'.cell? ⟨s,1,none⟩=some (.int .u64 u)) (exact E.o _ (by(repeat' (first|(with_reducible first|exact Zg _ _|assumption|refine Zh ?_ _|refine Zi ?_ _|refine Zj ?_|refine Zk ?_ _ ?_|(apply Or.inl;rfl))|(apply Or.inl;simp;done)|(apply Or.inr;simp;first|done|omega))))) (first|(go_at_call 243;with_reducible refine(V.o _).mono ?_;rintro e w2⟨rfl,d2⟩;have c2:Qc Qb W w2:=Qc.aA (by(repeat' (first|(with_reducible first|exact Zg _ _|assumption|refine Zh ?_ _|refine Zi ?_ _|refine Zj ?_|refine Zk ?_ _ ?_|(apply Or.inl;rfl))|(apply Or.inl;simp;done)|(apply Or.inr;simp;first|done|omega)))) d2;have z2:=c2.size;(try(have g2:=d2.blk (Qh.new _ #[.int .u64 0,.int .u64 0] 291).drew (fun h=>h);obtain⟨u0,u1⟩:=Q4 g2;have u2:=g2.frozen));clear d2)|(go_at_call 256;with_reducible refine(B.o _).mono ?_;rintro e w3⟨rfl,R⟩;have c3:Qc Qb W w3:=Qc.aA (by(repeat' (first|(with_reducible first|exact Zg _ _|assumption|refine Zh ?_ _|refine Zi ?_ _|refine Zj ?_|refine Zk ?_ _ ?_|(apply Or.inl;rfl))|(apply Or.inl;simp;done)|(apply Or.inr;simp;first|done|omega)))) R;have z3:=c3.size;(try(first|have g3:=R.blk g2 (fun h=>h)|have g3:=R.blk (Qh.new _ #[.int .u64 0,.int .u64 0] 291) (fun h=>h));obtain⟨u3,u4⟩:=Q4 g3;have u5:=g3.frozen);clear R));all_goals have Z:=c3.blk K.o (fun h=>h)
 all_goals obtain⟨r0,r1⟩:=Q4 Z
 all_goals have r2:=Z.frozen
 all_goals have zs:=K.o.lt
 all_goals have ae:=Z.lt
 all_goals have n1:¬s+1=W.heap.size:=by omega
 all_goals have n2:¬W.heap.size=s+1:=by omega
 all_goals have n3:¬s+1=w2.heap.size:=by omega
 all_goals have n4:¬w2.heap.size=s+1:=by omega
 all_goals go_wp2
 all_goals refine bodyPost_ret (v:=.agg #[.int .u64 q1,.int .u64 q0]) ?_ rfl ⟨rfl,?_⟩
 all_goals first|(simp[*,results,Tryz.results334,go_sem];done)|skip
 all_goals have cw:=U.o.aA c3
 all_goals have ab:=HS.o
 all_goals have ac:=U.o.size
 all_goals clear r0 r1 r2 n1 n2 n3 n4
 all_goals(repeat' (first|(with_reducible first|exact Zg _ _|assumption|refine Zh ?_ _|refine Zi ?_ _|refine Zj ?_|refine Zk ?_ _ ?_|(apply Or.inl;rfl))|(apply Or.inl;simp;done)|(apply Or.inr;simp;first|done|omega)))
theorem Qee{w}{b:Nat}{c:Jy}{n:Int}{x:Nat}{v:Value}(hc:c.May)(hB:Qh w b (Pq c n x v) 300)(k:Nat×Nat)(t:Nat)(hk:k.1≤t)(ht:t<18446744073709551616)(hy:k.2≤Xw):
  Cl 333 #[ptr b,kV k,.int .u64 t] w fun e w'=>e=.returned (Qek (Hg c t k))∧Qc Qb w w':=by
 obtain⟨E,I⟩:=k;have ac:=Yz;dsimp only at hk hy;obtain⟨d,hd⟩:=Zx (t-E);obtain⟨m,hm⟩:=Zx (min d c.l);have h1:=hc.hf;have h2:=hc.hr;have h3:=hc.hl;have e:Hg c t (E,I)=c.f*m+c.r*(d-m)+I:=by unfold Hg Jy.at;rw[←hd,←hm];omega
 have hP:c.f*m≤1048576*18446744073709551616:=Nat.mul_le_mul h1 (by omega);have hQ:c.r*(d-m)≤1048576*18446744073709551616:=Nat.mul_le_mul h2 (by omega);have Z:=O (fun w=>Dw c.f m w (by omega) (by omega));have aa:=O (fun w=>Dw c.r (d-m) w (by omega) (by omega));have u:=O (fun w=>Fg (c.f*m) (c.r*(d-m)) w (by omega));have B:=O (fun w=>Qej (c.f*m+c.r*(d-m)) I (by omega) w (by omega));rw[e];have hs:IntKind.u64.wrap ((t:Int)-(E:Int))=(d:Int):=by rw[IntWalk.u64_in _ (by omega)];omega
 have aj:IntKind.u64.wrap ((d:Int)-(m:Int))=((d-m:Nat):Int):=by rw[IntWalk.u64_in _ (by omega)];omega
 have ak:min (d:Int) (c.l:Int)=(m:Int):=by omega
 clear hk ht hy ac e h1 h2 h3 hP hQ;generalize c.f*m=P at*;generalize c.r*(d-m)=Q at*;generalize d-m=d2 at*;clear hd hm;unfold Qek kV ptr at*;dsimp only;generalize(((P+Q+I)/18446744073709551616:Nat):Int)=q1 at B⊢;generalize(((P+Q+I)%18446744073709551616:Nat):Int)=q0 at B⊢;generalize(((P+Q)/18446744073709551616:Nat):Int)=s1 at u B;generalize(((P+Q)%18446744073709551616:Nat):Int)=s0 at u B;generalize((P/18446744073709551616:Nat):Int)=p1 at Z u;generalize((P%18446744073709551616:Nat):Int)=p0 at Z u;generalize((Q/18446744073709551616:Nat):Int)=r1 at aa u;generalize((Q%18446744073709551616:Nat):Int)=r0 at aa u;have B0:=O hB;have ag:=hB.lt;obtain⟨s,U⟩:=Zx (w.heap.size);have K0:=O ((Qh.new w #[.int .u64 E,.int .u64 I] 369).alloc (.cells #[.int .u64 0,.int .u64 0] 291));have R0:=O (Qh.new (w.alloc (.cells #[.int .u64 E,.int .u64 I] 369)) #[.int .u64 0,.int .u64 0] 291);have S0:=O ((B0.o.alloc (.cells #[.int .u64 E,.int .u64 I] 369)).alloc (.cells #[.int .u64 0,.int .u64 0] 291));have C0:=O (((Zg Qb w).alloc (.cells #[.int .u64 E,.int .u64 I] 369)).alloc (.cells #[.int .u64 0,.int .u64 0] 291));simp only[World.size_alloc,←U]at K0 R0;go_enter func333,ntmps333;go_wp2;rw[←U];obtain⟨W,hW⟩:=Zx ((w.alloc (.cells #[.int .u64 E,.int .u64 I] 369)).alloc (.cells #[.int .u64 0,.int .u64 0] 291));rw[←hW]at K0 R0 S0 C0⊢;have HS:=O U;clear hW U ag;have E1:=fun x=>Tu (Qk (S:=Qb) S0.o (fun h=>h) x);have E2:=fun x=>Q4 (Qk (S:=Qb) K0.o (fun h=>h) x);try dsimp only[Pq]at E1
 refine Qu [] [0,1,2,3,4,5,6,7,8,9] [10] [] (Qz (Qb) (W)) Zq (by kernel_rfl) (fun _ _ _ _ _ h=>h) (Qd (Zj (Zg _ _))) ?_;simp only[pick,Zf,Ze,Zd];refine Qg ?_;iterate 10 (refine Ql (fun K hK=>?_);go_simp;refine hK _ ?_;clear hK K)
 refine Qg ?_;intro _ ah;obtain⟨xo,af⟩:=ah;subst af;simp only[Jd];have J:=O (Qv Qb W xo);generalize Qz Qb W xo=W1 at J⊢;clear E1 E2;go_wp2;refine⟨Qd J.o,?_⟩;have K1:=O (J.o.blk K0.o (fun h=>h));have R1:=O (J.o.blk R0.o (fun h=>h));have S1:=O (J.o.blk S0.o (fun h=>h));have C1:=O (C0.o.aA J.o);clear K0 R0 S0 C0 J;have V:=O (fun(w')(h:Qc Qb W1 w')=>(⟨(Tu (h.blk S1.o (fun h=>h))).1,(Tu (h.blk S1.o (fun h=>h))).2.2.1,(Q4 (h.blk K1.o (fun h=>h))).1⟩:w'.cell? ⟨b,0,none⟩=some (.int .u64 c.f)∧w'.cell? ⟨b,2,none⟩=some (.int .u64 c.r)∧w'.cell? ⟨s,0,none⟩=some (.int .u64 E)));go_wp2;go_cut [8] (fun s8 wz=>∃q,s8=.pointer (some ⟨q,0,none⟩)∧W1.heap.size≤q∧Qh wz q #[.int .u64 s1,.int .u64 s0] 291∧Qc Qb W1 wz)
 case first=>
  go_region_held3 (fun w':World=>w'.cell? ⟨b,0,none⟩=some (.int .u64 c.f)∧w'.cell? ⟨b,2,none⟩=some (.int .u64 c.r)∧w'.cell? ⟨s,0,none⟩=some (.int .u64 E)) (exact V.o _ (by(repeat' (first|(with_reducible first|exact Zg _ _|assumption|refine Zh ?_ _|refine Zi ?_ _|refine Zj ?_|refine Zk ?_ _ ?_|(apply Or.inl;rfl))|(apply Or.inl;simp;done)|(apply Or.inr;simp;first|done|omega))))) (first|(go_at_call 243;with_reducible refine(Z.o _).mono ?_;rintro e w2⟨rfl,d2⟩;have c2:Qc Qb W1 w2:=Qc.aA (by(repeat' (first|(with_reducible first|exact Zg _ _|assumption|refine Zh ?_ _|refine Zi ?_ _|refine Zj ?_|refine Zk ?_ _ ?_|(apply Or.inl;rfl))|(apply Or.inl;simp;done)|(apply Or.inr;simp;first|done|omega)))) d2;have z2:=c2.size;(try(first|have g2:=d2.blk (Qh.new _ #[.int .u64 0,.int .u64 0] 291) (fun h=>h)|have g2:=d2.blk (Qh.new _ #[.int .u64 0,.int .u64 0] 291).drew (fun h=>h));obtain⟨u2,v2⟩:=Q4 g2;have f2:=g2.frozen);clear d2)|(go_at_call 243;with_reducible refine(aa.o _).mono ?_;rintro e w3⟨rfl,d3⟩;have J:Qc Qb W1 w3:=Qc.aA (by(repeat' (first|(with_reducible first|exact Zg _ _|assumption|refine Zh ?_ _|refine Zi ?_ _|refine Zj ?_|refine Zk ?_ _ ?_|(apply Or.inl;rfl))|(apply Or.inl;simp;done)|(apply Or.inr;simp;first|done|omega)))) d3;have z3:=J.size;(try(first|have g3:=d3.blk g2 (fun h=>h)|have g3:=d3.blk (Qh.new _ #[.int .u64 0,.int .u64 0] 291) (fun h=>h)|have g3:=d3.blk (Qh.new _ #[.int .u64 0,.int .u64 0] 291).drew (fun h=>h));obtain⟨u3,v3⟩:=Q4 g3;have f3:=g3.frozen);clear d3)|(go_at_call 256;with_reducible refine(u.o _).mono ?_;rintro e w4⟨rfl,d4⟩;have c4:Qc Qb W1 w4:=Qc.aA (by(repeat' (first|(with_reducible first|exact Zg _ _|assumption|refine Zh ?_ _|refine Zi ?_ _|refine Zj ?_|refine Zk ?_ _ ?_|(apply Or.inl;rfl))|(apply Or.inl;simp;done)|(apply Or.inr;simp;first|done|omega)))) d4;have z4:=c4.size;(try(first|have g4:=d4.blk g3 (fun h=>h)|have g4:=d4.blk (Qh.new _ #[.int .u64 0,.int .u64 0] 291) (fun h=>h)|have g4:=d4.blk (Qh.new _ #[.int .u64 0,.int .u64 0] 291).drew (fun h=>h));obtain⟨u4,v4⟩:=Q4 g4;have f4:=g4.frozen);clear d4));all_goals go_wp2_with fail
  all_goals go_meet
  all_goals refine⟨_,rfl,?_,?_,?_⟩
  all_goals first|exact(g4.set' 0 _ rfl).set' 1 _ rfl|exact Qh.new _ _ _|skip
  all_goals first|omega|skip
  all_goals(repeat' (first|(with_reducible first|exact Zg _ _|assumption|refine Zh ?_ _|refine Zi ?_ _|refine Zj ?_|refine Zk ?_ _ ?_|(apply Or.inl;rfl))|(apply Or.inl;simp;done)|(apply Or.inr;simp;first|done|omega)))
 case rest=>
  obtain⟨q,rfl,hq,R,z⟩:=hcut;obtain⟨W2,hW2⟩:=Zx wc;rw[←hW2]at R z⊢;clear hW2;have S2:=O (z.blk S1.o (fun h=>h));have K2:=O (z.blk K1.o (fun h=>h));have R2:=O (z.blk R1.o (fun h=>h));have C2:=O (C1.o.aA z);have Q2:=O R;have ae:s+1<q:=Nat.lt_of_lt_of_le R1.o.lt hq;have ab:=O ae;obtain⟨y0,y1⟩:=Q4 K2.o;obtain⟨y2,y3⟩:=Q4 R;clear R z V hq ae;go_wp2_with fail;with_reducible refine Zz (B.o _) ?_
  intro w5 d5;have C3:=O (C2.o.aA d5);have Q3:=O (d5.blk Q2.o (fun h=>h));have R3:=O (d5.blk R2.o (fun h=>h));clear d5 y0 y1 y2 y3;obtain⟨y2,y3⟩:=Q4 Q3.o;obtain⟨y4,y5⟩:=Q4 R3.o;have y6:=Q3.o.frozen;have y7:=R3.o.frozen;have n1:¬s+1=q:=by have:=ab.o;omega
  have n2:¬q=s+1:=by have:=ab.o;omega
  go_wp2;refine bodyPost_ret (v:=.agg #[.int .u64 q1,.int .u64 q0]) ?_ rfl ⟨rfl,?_⟩;·simp[*,results,Tryz.results333,go_sem]
  ·have cw:=C3.o;have al:=HS.o;have ai:=ab.o;clear y2 y3 y4 y5 y6 y7 n1 n2;exact Zk (Zk (Zk (Zk cw _ (.inr (by simp;first|done|omega))) _ (.inr (by simp;first|done|omega))) _ (.inr (by simp;first|done|omega))) _ (.inr (by simp;first|done|omega))
theorem Own.empty{T:Type}{cells:T→List Value}{sz:Nat}{e:TypeId}{w}{g:Nat}(h:Qh w g #[] e):Own cells sz e w (.slice (some ⟨g,0,none⟩) 0 0) ([]:List T):=
 ⟨by simp[Jm],.inr ⟨g,0,#[],rfl,Nat.zero_le _,h,Zv _,by simp[maxLen],by simp,by simp[Jm]⟩⟩
def V9(k:Nat×Nat):List Value:=[.int .u64 k.1,.int .u64 k.2]
theorem J5(k:Nat×Nat):(V9 k).length=2:=rfl
theorem startT:Qce prog V9 2 298 369 16 (0,0) where
 ht:=underlying298
 hi:=Ee (by kernel_rfl)
 pos:=by decide
 hc:=J5
 one:=by intro x u c;simp only[V9,Zu,List.not_mem_nil,or_false]at c;rcases c with rfl|rfl<;>rfl
structure Hh(w:World)(F:Fp)(b:Nat)(r:Xh):Prop where
 bd:Bd F w
 own:F b
 may:r.c.May
 sag:¬r.c.r<r.c.f
 ok:Uj r.l
 rise:Ew r.l
 ex:∃(v:Value)(K:Uw),Qh w b (Pq r.c r.l.length (Ji r.l) v) 300∧Own V9 2 369 w v K∧Ys r.c (Ji r.l) K r.l∧∀k,v.ownBlock=some k→F k∧k≠b
theorem sagP:Hf Hh where
 bd h:=h.bd
 own h:=h.own
 aB h hc hd:=⟨h.bd.later hc,h.own,h.may,h.sag,h.ok,h.rise,by
  obtain⟨v,K,h1,q,u,c⟩:=h.ex;exact⟨v,K,hc.blk h1 (hd _ h.own),q.aB hc (fun k d=>hd _ (c k d).1),u,c⟩⟩
 more h hs hb:=⟨hb,hs _ h.own,h.may,h.sag,h.ok,h.rise,by
  obtain⟨v,K,h1,q,u,c⟩:=h.ex;exact⟨v,K,h1,q,u,fun k d=>⟨hs _ (c k d).1,(c k d).2⟩⟩⟩
theorem Mq{w}{F:Fp}{b:Nat}{r:Xh}(h:Hh w F b r):Cl 335 #[ptr b] w fun e w'=>e=.returned (.bool (r.l.length==0))∧w=w':=by
 obtain⟨v,K,h1,_⟩:=h.ex;unfold ptr;obtain⟨c,a1,d,q,u,z,B⟩:=Tu h1;have e:((r.l.length:Int)==0)=(r.l.length==0):=by
  cases r.l with
  |nil=>rfl
  |cons k l=>simp;omega
 rw[←e];clear h h1 e;generalize(r.l.length:Int)=n at*;go_enter func335,ntmps335;go_wp2;go_ret;exact⟨rfl,rfl⟩
theorem Qqb(c:Jy)(hc:c.May)(z:¬c.r<c.f)(w):Cl 221 #[cV c] w fun e w'=>∃b,e=.returned (.tuple #[ptr b,.int .i64 0])∧Hh w' (Qn Qb w w') b ⟨c,[]⟩∧Qc Qb w w':=by
 have K:=O (K8 c);have J:=O (L7 c);rw[decide_eq_true hc]at K;rw[decide_eq_false z]at J;have d:∀(W w'),Qc Qb w W→w'=W.alloc (.cells (Pq c 0 0 (.slice none 0 0)) 300)→Hh w' (Qn Qb w w') W.heap.size ⟨c,[]⟩∧Qc Qb w w':=by rintro W w' hW rfl;have h1:=hW.size;refine⟨⟨fun k E=>E.elim (fun h=>h.elim) (fun h=>h.2),.inr ⟨h1,by simp⟩,hc,z,Uj.nil,.nil,_,[],Qh.new _ _ _,Own.nil _ _ _ _,⟨List.Sublist.refl _,nofun⟩,fun k E=>by simp[Value.ownBlock]at E⟩,hW.alloc _⟩
 have HF:=O d;obtain⟨f,l,r⟩:=c;unfold cV at*;dsimp only[Pq]at*;have B:=O (Qh.new w #[.int .u64 f,.int .u64 l,.int .u64 r] 38);have C:=O ((Zg Qb w).alloc (.cells #[.int .u64 f,.int .u64 l,.int .u64 r] 38));clear hc z d;go_enter func221,ntmps221;go_wp2_with fail;refine Zz (K.o _) ?_;intro w1 q;have Z:=O (C.o.aA q);have I:=O (q.blk B.o (fun h=>h));clear q;obtain⟨R,a1,U⟩:=L6 I.o;go_wp2_with fail;refine Zz (J.o _) ?_;intro w2 u;have C2:=O (Z.o.aA u);have V:=O (u.blk I.o (fun h=>h));clear u R a1 U;obtain⟨R,a1,U⟩:=L6 V.o;go_wp2;go_ret2;exact⟨_,rfl,HF.o _ _ C2.o rfl⟩
theorem Ig(v:Value)(K:Uw)(w)(R:Own V9 2 369 w v K)(hl:K.length<1099511627776):
  Cl 332 #[v] w fun e w'=>∃v',e=.returned v'∧Own V9 2 369 w' v' K∧Qc Qb w w'∧(∀k,v'.ownBlock=some k→w.heap.size≤k)∧(v=.slice none 0 0→v'=.slice none 0 0):=by
 obtain⟨a,cap,rfl,z,h0,d⟩:=R.row startT.hc;have HR:=O d;have HK:=O R;clear d R;have E:=fun(W)=>Lib.run_eql_slice_nil (P:=prog) W 298 369 a K.length cap 0 0 underlying298;cases a with
 |none=>
  obtain rfl:=h0 rfl;have B:K.length=0:=by omega
  obtain rfl:=List.eq_nil_of_length_eq_zero B;have Z:=O (Zg Qb w);simp only[List.length_nil,Option.isNone_none]at E;clear z h0 hl B;go_enter func332,ntmps332;go_wp2;go_ret;exact⟨_,rfl,Own.nil _ _ _ _,Z.o,nofun,fun _=>rfl⟩
 |some ad=>
  clear h0;go_enter func332,ntmps332;go_wp2_with (at_builtin;refine Jj startT rfl (.tmp 5) (.tmp 6) rfl _ ([]:Uw) rfl (Own.empty (Qh.new' _ _ (by simp))) _ _ K rfl ?a2 ?a3 ?a4 ?a5 ?a6);case a2=>intro h;cases h
  case a3=>exact HR.o.aB ((Zg Qb w).alloc _) (fun _ _ h=>h)
  case a4=>simp[maxLen];omega
  case a5=>simp;omega
  case a6=>
   intro v' w1 c u I;have U:Qc Qb w w1:=((Zg Qb w).alloc (.cells #[] 369)).trans u fun j hj=>.inr (by simp[Value.ownBlock]at hj;omega);have V:∀k,v'.ownBlock=some k→w.heap.size≤k:=by
    intro k J;rcases I with h|h;·rw[h]at J;simp[Value.ownBlock]at J;omega
    ·rw[h]at J;have:=Zs J;have hz:(w.alloc (.cells #[] 369)).heap.size=w.heap.size+1:=by simp
     omega
   have q:=O (Zt c (Zt U V));clear c U V u I;go_wp2;go_ret;exact⟨_,rfl,q.o.1,q.o.2.1,q.o.2.2,nofun⟩
theorem Ys.len{c:Jy}{x:Nat}{a b:Uw}(h:Ys c x a b):a.length≤b.length:=h.1.length_le
theorem Qmh{w}{F:Fp}{b:Nat}{r:Xh}(h:Hh w F b r)(hl:r.l.length<1099511627776):Cl 343 #[ptr b] w fun e w'=>∃b',e=.returned (ptr b')∧Hh w' (Qn Qb w w') b' r∧Qc Qb w w':=by
 obtain⟨v,K,h1,J,R,h4⟩:=h.ex;have HC:=O (fun w'(hc:Qc Qb w w')=>Ig v K w' (J.aB hc (fun _ _ h=>h)) (Nat.lt_of_le_of_lt R.len hl));have q:∀(w1 w2)(v':Value),Qc Qb (w.alloc (.cells (Pq r.c r.l.length (Ji r.l) v) 300)) w1→Own V9 2 369 w1 v' K→(∀k,v'.ownBlock=some k→w.heap.size+1≤k)→w2=w1.setCell ⟨w.heap.size,6,none⟩ v'→Hh w2 (Qn Qb w w2) w.heap.size r∧Qc Qb w w2:=by
  rintro w1 w2 v' hc d u rfl;have e0:(w.alloc (.cells (Pq r.c r.l.length (Ji r.l) v) 300)).heap.size=w.heap.size+1:=by simp
  have e1:=hc.size;have hB:=(hc.blk (Qh.new w (Pq r.c r.l.length (Ji r.l) v) 300) (fun h=>h)).set' 6 v' (cs':=Pq r.c r.l.length (Ji r.l) v') rfl;have U:Qc Qb w (w1.setCell ⟨w.heap.size,6,none⟩ v'):=(((Zg Qb w).alloc _).aA hc).setCell v' (.inr (Zv _));have e2:(w1.setCell ⟨w.heap.size,6,none⟩ v').heap.size=w1.heap.size:=by simp[World.setCell]
  refine⟨⟨fun k c=>c.elim (fun h=>h.elim) (fun h=>h.2),.inr ⟨Zv _,by rw[e2];omega⟩,h.may,h.sag,h.ok,h.rise,v',K,hB,?_,R,fun k c=>⟨.inr ⟨by have:=u k c;omega,?_⟩,by have:=u k c;omega⟩⟩,U⟩;·exact d.aB ((Zg (fun k=>k=w.heap.size) w1).setCell v' (.inl rfl)) (fun k c e=>by have:=u k c;omega)
  ·rw[e2];exact d.lt k c
 have HF:=O q;obtain⟨ka,kc,u,_⟩:=J.row J5;clear q;subst u;have B0:=O h1;have aa:=h1.lt;obtain⟨a0,a1,a2,a3,a4,a5,a6⟩:=Tu h1;unfold ptr;dsimp only[Pq]at*;clear h h1 J R h4;have CC:=HC.o (w.alloc (.cells #[.int .u64 r.c.f,.int .u64 r.c.l,.int .u64 r.c.r,.bool true,.int .i64 r.l.length,.int .u64 (Ji r.l:Int),.slice ka K.length kc] 300)) ((Zg _ _).alloc _);have E:=O CC;have B1:=O (Qh.new w #[.int .u64 r.c.f,.int .u64 r.c.l,.int .u64 r.c.r,.bool true,.int .i64 r.l.length,.int .u64 (Ji r.l:Int),.slice ka K.length kc] 300);clear HC CC;go_enter func343,ntmps343;go_wp2_with fail;refine Zo E ?_;rintro e w1⟨v',rfl,o1,I,n1,_⟩;have Z:=O (I.blk B1.o (fun h=>h));have HO:=O o1;have HN:=O n1;have B:=O I;clear o1 n1 I a0 a1 a2 a3 a4 a5 a6;obtain⟨a0,a1,a2,a3,a4,a5,a6⟩:=Tu Z.o;have z:=Z.o.frozen;obtain⟨ab,ac,V,_⟩:=HO.o.row J5;subst V;go_wp2;go_ret;exact⟨_,rfl,HF.o _ _ _ B.o HO.o (fun k c=>by have:=HN.o k c;simpa using this) rfl⟩
theorem Qp3(c:Jy)(hc:c.May)(y:Nat):U7 c y≤Qq:=by
 have h0:=Yz;have q:=Yf;unfold U7;split;·exact Zv _
 ·cases h:c.reach y with
  |none=>exact Zv _
  |some n=>
   show n≤Qq;unfold Jy.reach at h;have d:∀a b,0<b→Tw a b≤a:=fun a b k=>(D9 k).2 (Nat.le_mul_of_pos_left a k);split at h;·cases h;omega
   ·split at h;·cases h;have:=d y c.f (Nat.pos_of_ne_zero fun h0=>by rename_i h1;rw[h0,Nat.zero_mul]at h1;omega);omega
    ·split at h;·cases h
     ·cases h;have:=d (y-c.f*c.l) c.r (by omega);have:=hc.hl;omega
theorem Qri{f:Nat×Nat→Nat}{l:Uw}{a:Nat}{k:Nat×Nat}(c:k∈l):f k≤l.foldl (fun n k=>max n (f k)) a:=((Uf l a).1 (Zv _)).2 k c
theorem Qg4{f g:Nat×Nat→Nat}(h:∀k,min Qq (f k)=min Qq (g k)):∀(l:Uw)(a b:Nat),min Qq a=min Qq b→min Qq (l.foldl (fun n k=>max n (f k)) a)=min Qq (l.foldl (fun n k=>max n (g k)) b)
 |[],a,b,e=>e
 |k::l,a,b,e=>by
  have:=h k;have c:min Qq (max a (f k))=min Qq (max b (g k)):=by omega
  exact Qg4 h l _ _ c
def atN(c:Jy)(y:Nat)(k:Nat×Nat):Nat:=k.1+U7 c (y-k.2)
theorem Qq0{c:Jy}{y:Nat}(d:y≤Xw)(k:Nat×Nat):min Qq (atN c y k)=min Qq (Rr c y k):=by
 unfold atN Rr U7;rw[if_neg (by omega)];cases c.reach (y-k.2)with
 |none=>show min Qq (k.1+Qq)=min Qq Qq;omega
 |some n=>rfl
theorem Qi4{w}{F:Fp}{b:Nat}{r:Xh}(h:Hh w F b r)(hl:r.l≠[])(hn:r.l.length<1099511627776)(y:Nat)(hy:y≤Xw)(c:Jy)(hc:c.May)
  (he:∀K,Ys r.c (Ji r.l) K r.l→∀t,Ji r.l≤t→Xb (Hg c t) K=Xb (Hg c t) r.l)(g q:Nat)(eg:∀Z w,(callFunc g Z).run prog w=.ok (.enter g Z) w)
  (hN:∀m,m≤Xw→∀w',Qc Qb w w'→Cl g #[.int .u64 m,.pointer (some ⟨q,0,none⟩)] w' fun e w2=>e=.returned (.int .u64 (U7 c m:Nat))∧Qc Qb w' w2):
  Cl 329 #[ptr b,.int .u64 y,.func (.func g) #[] #[.pointer (some ⟨q,0,none⟩)]] w fun e w'=>e=.returned (.int .u64 (Kn c r.l y:Nat))∧Qc Qb w w':=by
 have h0:=Yz;have au:=Yf;have H1:=O (Mq h);have ab:(r.l.length==0)=false:=by simpa using hl
 rw[ab]at H1;obtain⟨v,K,hB,hO,hS,_⟩:=h.ex;have aq:K≠[]:=(La (f:=Hg r.c (Ji r.l)) hS.1 hl fun k J=>by obtain⟨j,hj,d⟩:=hS.2 k J;exact⟨j,hj,(d _ (Zv _)).1⟩).1;have ac:Kn c r.l y=min Qq (K.foldl (fun n k=>max n (atN c y k)) (Ji r.l)):=by rw[←Qkr (c:=r.c) h.ok hl hS.1 (he K hS) aq];unfold Eg;rw[if_neg (by omega)];exact(Qg4 (f:=atN c y) (g:=Rr c y) (Qq0 hy) K _ _ rfl).symm
 have bb:K.length<1099511627776:=Nat.lt_of_le_of_lt hS.len hn;have ar:∀k∈K,k.1≤Qq∧k.2≤Xw:=fun k J=>⟨Zp (h.ok.rise k (hS.1.subset J)) h.ok.last,h.ok.cap k (hS.1.subset J)⟩;have B:=h.ok.last;obtain⟨ka,kc,rfl,bd,ba,ae⟩:=hO.row J5;have HR:=O ae;have a7:=O ar;have V:=O ac;have a8:=O hN;have a9:=O (Qp3 c hc);have B0:=O hB;obtain⟨U,ay⟩:=Zx (Ji r.l);rw[←ay]at B B0 V;rw[V.o];have bg:¬(4611686018427387904:Int)<(y:Int):=by omega
 have be:decide (4611686018427387904<y)=false:=by simp;omega
 obtain⟨a0,a1,a2,a3,a4,a5,a6⟩:=Tu B0.o;unfold ptr at*;clear ac ar hN ae hB hO hS h hl he ba ay ab;go_enter func329,ntmps329;go_wp2_with fail;refine Zy H1 ?_;rintro w1 rfl;go_wp2_with fail;refine Zy H1 ?_;rintro w1 rfl;go_wp2;go_loopw [7,34] (fun a i wr=>∃j:Nat,j≤K.length∧i=.int .i64 j∧a=.int .u64 ((K.take j).foldl (fun n k=>max n (atN c y k)) U:Nat)∧(K.take j).foldl (fun n k=>max n (atN c y k)) U≤Qq∧Qc Qb w wr) (fun _ i _=>K.length-(intOf i).toNat);case atStart=>exact⟨0,Nat.zero_le _,rfl,rfl,B,Zg _ _⟩
 case round=>
  obtain⟨j,hj,rfl,rfl,ha,z⟩:=hrel;have au:=Yf;by_cases Xg:j<K.length
  ·have RW:Kb V9 2 wr ka K:=HR.o.aB z (fun _ _ h=>h);obtain⟨gb,go,rfl,u⟩:=RW j Xg;have c0:=u 0 _ rfl;have c1:=u 1 _ rfl;obtain⟨k,J⟩:=Zx (K[j]);rw[←J]at c0 c1;have am:k∈K:=J▸List.getElem_mem Xg;obtain⟨aw,bh⟩:=a7.o k am;have E:(K.take (j+1)).foldl (fun n k=>max n (atN c y k)) U=max ((K.take j).foldl (fun n k=>max n (atN c y k)) U) (atN c y k):=by rw[List.take_succ_eq_append_getElem Xg,List.foldl_append,←J];rfl
   have aa:Qq≤atN c y k→min Qq (K.foldl (fun n k=>max n (atN c y k)) U)=Qq:=fun h=>by have:=Qri (f:=atN c y) (a:=U) am;omega
   have I:=O E;have ah:=O aa;have HM:=O (fun w=>Qiq y k.2 hy w);have HC:=O (a8.o (y-k.2) (by omega));have an:=a9.o (y-k.2);have av:atN c y k=k.1+U7 c (y-k.2):=rfl;rw[av]at I ah;generalize U7 c (y-k.2)=n at I ah HC an;generalize y-k.2=m at HM HC;generalize(K.take j).foldl (fun n k=>max n (atN c y k)) U=A at*;have ax:IntKind.u64.wrap ((9223372036854775808:Int)-(k.1:Int))=((9223372036854775808-k.1:Nat):Int):=by rw[IntWalk.u64_in _ (by omega)];omega
   have ak:((j+1:Nat):Int)=(j:Int)+1:=by omega
   have bf:K.length≤9223372036854775807:=by omega
   have ag:=O z;clear E aa z RW u J am av;simp only[Nat.add_zero]at c0;have BK:=O (Qh.new wr #[.int .u64 k.1,.int .u64 k.2] 369);have CK:=O (ag.o.alloc (.cells #[.int .u64 k.1,.int .u64 k.2] 369));go_wp2_with fail;with_reducible refine Zz (HM.o _) ?_
   intro w2 c2;have ao:=O (c2.blk BK.o (fun h=>h));have af:=O (CK.o.aA c2);clear c2 c0 c1 BK CK;go_wp2_with fail;refine Zz (HC.o _ af.o) ?_;intro w3 c3;have az:=O (c3.blk ao.o (fun h=>h));have ap:=O (af.o.aA c3);clear c3 ao af;obtain⟨c0,c1⟩:=Q4 az.o;have aj:=Yf;by_cases R:9223372036854775808-k.1≤n
   ·have al:decide (9223372036854775808-k.1≤n)=true:=by simpa using R
    have hr:=ah.o (by omega);rw[aj]at hr;have ai:=O hr;generalize 9223372036854775808-k.1=dd at ax al;clear hr R an ha aw aj;go_wp2;go_ret;exact⟨by rw[ai.o];rfl,ap.o⟩
   ·have al:decide (9223372036854775808-k.1≤n)=false:=by simpa using R
    have bi:IntKind.u64.wrap ((k.1:Int)+(n:Int))=((k.1+n:Nat):Int):=by rw[IntWalk.u64_in _ (by omega)];omega
    have bj:max (A:Int) ((k.1+n:Nat):Int)=((max A (k.1+n):Nat):Int):=by omega
    have hA:max A (k.1+n)≤Qq:=by omega
    have HA:=O hA;generalize 9223372036854775808-k.1=dd at ax al;generalize k.1+n=kn at*;generalize max A kn=A2 at*;clear R an ha aw aj hA;go_wp2;go_roundw;case rel=>exact⟨j+1,by omega,by rw[ak],by rw[I.o],by rw[I.o];exact HA.o,ap.o⟩
    case measure=>simp[intOf];omega
  ·have bc:j=K.length:=by omega
   subst bc;rw[List.take_length]at*;have hr:min Qq (K.foldl (fun n k=>max n (atN c y k)) U)=K.foldl (fun n k=>max n (atN c y k)) U:=by omega
   have ag:=O z;have ai:=O hr;clear hr ha au z;go_wp2;go_ret;exact⟨by rw[ai.o];rfl,ag.o⟩
theorem Qi2{w}{F:Fp}{b:Nat}{r:Xh}(h:Hh w F b r)(hl:r.l=[])(y:Nat)(c:Jy)(g q:Nat):
  Cl 329 #[ptr b,.int .u64 y,.func (.func g) #[] #[.pointer (some ⟨q,0,none⟩)]] w fun e w'=>e=.returned (.int .u64 (Kn c r.l y:Nat))∧Qc Qb w w':=by
 have d:=O (Mq h);rw[hl]at d;have e:Kn c r.l y=if y=0 then 0 else 9223372036854775808:=by unfold Kn;rw[if_pos hl]
 unfold ptr at*;dsimp only[List.length_nil]at d;rw[e];by_cases k:y=0;·subst k;clear e hl h;go_enter func329,ntmps329;go_wp2_with fail;refine Zy d ?_;rintro w1 rfl;go_wp2;go_ret;exact⟨rfl,Zg _ _⟩
 ·rw[if_neg k];have u:((y:Int)==0)=false:=by simp;omega
  clear k e hl h;go_enter func329,ntmps329;go_wp2_with fail;refine Zy d ?_;rintro w1 rfl;go_wp2_with fail;refine Zy d ?_;rintro w1 rfl;go_wp2;go_ret;exact⟨rfl,Zg _ _⟩
theorem Qi3{w}{F:Fp}{b:Nat}{r:Xh}(h:Hh w F b r)(hl:r.l≠[])(y:Nat)(k:Xw<y)(c:Jy)(g q:Nat):
  Cl 329 #[ptr b,.int .u64 y,.func (.func g) #[] #[.pointer (some ⟨q,0,none⟩)]] w fun e w'=>e=.returned (.int .u64 (Kn c r.l y:Nat))∧Qc Qb w w':=by
 have u:=O (Mq h);have d:(r.l.length==0)=false:=by simpa using hl
 rw[d]at u;have e:Kn c r.l y=9223372036854775808:=by unfold Kn;rw[if_neg hl,if_pos k]
 have B:(4611686018427387904:Int)<(y:Int):=by rw[Yz]at k;omega
 have z:decide (4611686018427387904<y)=true:=by rw[Yz]at k;simpa using k
 unfold ptr at*;rw[e];clear e hl h k d;go_enter func329,ntmps329;go_wp2_with fail;refine Zy u ?_;rintro w1 rfl;go_wp2_with fail;refine Zy u ?_;rintro w1 rfl;go_wp2;go_ret;exact⟨rfl,Zg _ _⟩
end
end Go.Proofs.YtnnhmpehkbihnaaGreat
