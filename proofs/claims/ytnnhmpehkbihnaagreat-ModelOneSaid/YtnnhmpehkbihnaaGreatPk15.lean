/- A part of the proof: no condition. -/
import Derived.Test.YtnnhmpehkbihnaaGreatPk06
import Derived.RegionTactic
import Derived.ChangeAlike
namespace Go.Proofs.YtnnhmpehkbihnaaGreat
set_option linter.unusedVariables false
set_option maxRecDepth 100000
set_option maxHeartbeats 4000000
open Go.RowKit
open Go.Proofs.Tryz
section
open Go.Maps Go.Shelf
theorem Qcm{H:Type}(B b Z:Nat)(u:DataW H){R:Value→Option (DataW H×List MemPlace)}(w:World)(d:Maps.size u<maxLen)(c:Maps.size u*8+8≤140737488355328)
  (z:B<w.heap.size)(V:w.cell? ⟨B,0,none⟩=some (.map (some b)))(k:w.ownsMap prog 29 R b Z u):
  Cl 253 #[.func (.func 255) #[] #[.pointer (some ⟨B,0,none⟩)]] w fun e I=>∃(v:Value)(q:List Int),e=.returned v∧I.ownsRow w.heap.size 29 1 v q.length (q.map (Value.int .u64))∧q.Nodup∧(∀x,x∈q↔has u (.int .u64 x)=true)∧Below w.heap.size w I:=by
 have C:=O (callsIn_wide.1 (Qn2 Fence.wide 3 trivial trivial rfl (by omega) B b Z u w d c z V k));clear d c z V k;go_enter func253,ntmps253;go_wp2_with fail;refine(C.o).mono ?_;rintro e w1⟨v,q,rfl,h1,J,K,U⟩;have E:=O (Zt h1 (Zt J (Zt K U)));clear h1 J K U;go_wp2;go_ret;exact⟨v,q,rfl,E.o.1,E.o.2.1,E.o.2.2.1,E.o.2.2.2⟩
theorem Qub(a:Option Addr)(cap:Nat)(k:Int)(c:k≤1)(h0:0≤k)(w):Cl 265 #[.slice a k.toNat cap,.int .i64 0,.int .i64 k] w fun e w'=>(∃r,e=.returned r)∧w=w':=by go_enter func265,ntmps265;go_wp2;refine wp_loop_rounds 1 ?_;rw[rounds_succ];go_wp2;go_end0;exact⟨⟨_,rfl⟩,rfl⟩
theorem Qnt(a:Option Addr)(cap:Nat)(k lim:Int)(c:k≤1)(h0:0≤k)(w):Cl 263 #[.slice a k.toNat cap,.int .i64 0,.int .i64 k,.int .i64 lim] w fun e w'=>(∃r,e=.returned r)∧w=w':=by go_enter func263,ntmps263;go_wp2;refine wp_loop_rounds 1 ?_;rw[rounds_succ];go_wp2_with (go_at_call 265;refine(Qub _ _ _ c h0 _).mono ?_;rintro e w1⟨⟨r,rfl⟩,rfl⟩);refine bodyPost_ret (results_none rfl _ _ _) rfl ?_;exact⟨⟨_,rfl⟩,rfl⟩
theorem Fr(x y:Int)(w):Cl 271 #[.int .u64 x,.int .u64 y] w fun e w'=>e=.returned (.bool (decide (x<y)))∧w=w':=by go_enter func271,ntmps271;go_wp2;go_ret;exact⟨rfl,rfl⟩
theorem Quc(g cap:Nat)(x y:Int)(w:World)(d:w.cell? ⟨g,0,none⟩=some (.int .u64 x))(k:w.cell? ⟨g,1,none⟩=some (.int .u64 y))(hf:∀i,w.frozen? ⟨g,i,none⟩=false)(Xg:x≤y):
  Cl 265 #[.slice (some ⟨g,0,none⟩) 2 cap,.int .i64 0,.int .i64 2] w fun e w'=>(∃r,e=.returned r)∧Qc Qb w w':=by
 have L:=O (Fr y x);have c:decide (y<x)=false:=by simp;omega
 rw[c]at L;clear Xg c;go_enter func265,ntmps265;go_wp2;refine wp_loop_rounds 2 ?_;rw[rounds_succ];go_wp2;refine wp_loop_rounds 1 ?_;rw[rounds_succ];go_wp2;go_quiet ((go_at_call 271;exact Qbe (L.o _)));go_wp2;rw[rounds_succ];go_wp2;go_end0;refine⟨⟨_,rfl⟩,?_⟩;(repeat' (first|(with_reducible first|exact Zg _ _|assumption|refine Zh ?_ _|refine Zi ?_ _|refine Zj ?_|refine Zk ?_ _ ?_|(apply Or.inl;rfl))|(apply Or.inl;simp;done)|(apply Or.inr;simp;first|done|omega)))
theorem Qsq(g cap:Nat)(x y:Int)(w:World)(d:w.cell? ⟨g,0,none⟩=some (.int .u64 x))(k:w.cell? ⟨g,1,none⟩=some (.int .u64 y))(hf:∀i,w.frozen? ⟨g,i,none⟩=false)(Xg:y<x):
  Cl 265 #[.slice (some ⟨g,0,none⟩) 2 cap,.int .i64 0,.int .i64 2] w fun e w'=>(∃r,e=.returned r)∧∃n m,(((w.drewN n).setCell ⟨g,1,none⟩ (.int .u64 x)).setCell ⟨g,0,none⟩ (.int .u64 y)).drewN m=w':=by
 have L:=O (Fr y x);have c:decide (y<x)=true:=by simp;omega
 rw[c]at L;clear Xg c;go_enter func265,ntmps265;go_wp2;refine wp_loop_rounds 2 ?_;rw[rounds_succ];go_wp2;refine wp_loop_rounds 2 ?_;rw[rounds_succ];go_wp2;go_quiet ((go_at_call 271;exact Qbe (L.o _)));go_wp2;go_region;all_goals go_wp2
 rw[rounds_succ];go_wp2;go_quiet (fail);go_wp2;rw[rounds_succ];go_wp2;go_end0;exact⟨⟨_,rfl⟩,_,_,rfl⟩
theorem Qqc(g cap:Nat)(x y:Int)(t:TypeId)(cs:List Value)(w)(c:Qh w g (.int .u64 x:: .int .u64 y::cs).toArray t):
  Cl 265 #[.slice (some ⟨g,0,none⟩) 2 cap,.int .i64 0,.int .i64 2] w fun e w'=>(∃r,e=.returned r)∧Qh w' g (.int .u64 (min x y):: .int .u64 (max x y)::cs).toArray t∧Qc (fun k=>k=g) w w':=by
 rcases Int.lt_or_le y x with h|h
 ·refine(Qsq g cap x y w (c.cell 0) (c.cell 1) c.frozen h).mono fun e w' d=>?_;obtain⟨h1,n,m,rfl⟩:=d;refine⟨h1,?_,?_⟩;·rw[Int.min_eq_right (Int.le_of_lt h),Int.max_eq_left (Int.le_of_lt h)];exact(((c.drewN n).set' 1 _ rfl).set' 0 _ rfl).drewN m
  ·(repeat' (first|(with_reducible first|exact Zg _ _|assumption|refine Zh ?_ _|refine Zi ?_ _|refine Zj ?_|refine Zk ?_ _ ?_|(apply Or.inl;rfl))|(apply Or.inl;simp;done)|(apply Or.inr;simp;first|done|omega)))
 ·refine(Quc g cap x y w (c.cell 0) (c.cell 1) c.frozen h).mono fun e w' d=>?_;rw[Int.min_eq_left h,Int.max_eq_right h];exact⟨d.1,d.2.blk c (fun h=>h),d.2.mono fun k h=>h.elim⟩
theorem Qqd(g cap:Nat)(x y lim:Int)(t:TypeId)(cs:List Value)(w)(d:Qh w g (.int .u64 x:: .int .u64 y::cs).toArray t):
  Cl 263 #[.slice (some ⟨g,0,none⟩) 2 cap,.int .i64 0,.int .i64 2,.int .i64 lim] w fun e w'=>(∃r,e=.returned r)∧Qh w' g (.int .u64 (min x y):: .int .u64 (max x y)::cs).toArray t∧Qc (fun k=>k=g) w w':=by
 have I:=O (Qqc g cap x y t cs w d);clear d;go_enter func263,ntmps263;go_wp2;refine wp_loop_rounds 1 ?_;rw[rounds_succ];go_wp2_with (go_at_call 265;refine Zo I ?_;rintro e w1⟨⟨r,rfl⟩,h1,c⟩;have H:=O (Zt h1 c);clear h1 c);refine bodyPost_ret (results_none rfl _ _ _) rfl ?_;exact⟨⟨_,rfl⟩,H.o.1,H.o.2⟩
theorem Aq(k:Nat)(c:k≤2)(w):Cl 83 #[.int .u64 k] w fun e w'=>(∃r,e=.returned (.int .i64 r))∧w=w':=by
 obtain rfl|rfl|rfl:k=0∨k=1∨k=2:=by omega
 all_goals
  go_enter func83,ntmps83;go_wp2;go_ret;exact⟨⟨_,rfl⟩,rfl⟩
theorem Qbx(a:Option Addr)(cap k:Nat)(c:k≤1)(w):Cl 254 #[.slice a k cap] w fun e w'=>(∃r,e=.returned r)∧w=w':=by
 obtain rfl|rfl:k=0∨k=1:=by omega
 ·have P:=O (fun lim w=>Qnt a cap 0 lim (by omega) (by omega) w);go_enter func254,ntmps254;go_wp2_with fail;refine(Aq 0 (by omega) _).mono ?_;rintro e w0⟨⟨lim,rfl⟩,rfl⟩;go_wp2_with fail;refine(P.o _ _).mono ?_;rintro e w1⟨⟨r,rfl⟩,rfl⟩;go_wp2;go_end0;exact⟨⟨_,rfl⟩,rfl⟩
 ·have P:=O (fun lim w=>Qnt a cap 1 lim (by omega) (by omega) w);go_enter func254,ntmps254;go_wp2_with fail;refine(Aq 1 (by omega) _).mono ?_;rintro e w0⟨⟨lim,rfl⟩,rfl⟩;go_wp2_with fail;refine(P.o _ _).mono ?_;rintro e w1⟨⟨r,rfl⟩,rfl⟩;go_wp2;go_end0;exact⟨⟨_,rfl⟩,rfl⟩
theorem Qmj(g cap:Nat)(x y:Int)(t:TypeId)(cs:List Value)(w)(d:Qh w g (.int .u64 x:: .int .u64 y::cs).toArray t):
  Cl 254 #[.slice (some ⟨g,0,none⟩) 2 cap] w fun e w'=>(∃r,e=.returned r)∧Qh w' g (.int .u64 (min x y):: .int .u64 (max x y)::cs).toArray t∧Qc (fun k=>k=g) w w':=by
 have P:=O (fun lim=>Qqd g cap x y lim t cs w d);clear d;go_enter func254,ntmps254;go_wp2_with fail;refine(Aq 2 (by omega) _).mono ?_;rintro e w0⟨⟨lim,rfl⟩,rfl⟩;go_wp2_with fail;refine(P.o _).mono ?_;rintro e w1⟨⟨r,rfl⟩,h1,c⟩;have H:=O (Zt h1 c);clear h1 c;go_wp2;go_end0;exact⟨⟨_,rfl⟩,H.o.1,H.o.2⟩
theorem Qcj{w:World}{base:Nat}{e:TypeId}{sz:Nat}{v:Value}{n:Nat}{d:List Value}(h:w.ownsRow base e sz v n d):∃a cap,v=.slice a n cap:=by
 rcases h.2 with⟨rfl,h0⟩|⟨g,cap,c,rfl,_⟩;·exact⟨none,0,by rw[h0]⟩
 ·exact⟨_,cap,rfl⟩
theorem Qib{w:World}{base:Nat}{e:TypeId}{v:Value}{x y:Value}(h:w.ownsRow base e 1 v 2 [x,y]):∃g cap cs,v=.slice (some ⟨g,0,none⟩) 2 cap∧base≤g∧Qh w g (x::y::cs).toArray e∧
  ∀(w')(x' d:Value),Qh w' g (x'::d::cs).toArray e→w'.ownsRow base e 1 v 2 [x',d]:=by
 rcases h.2 with⟨_,h0⟩|⟨g,cap,c,rfl,k,q,hn,hc,hs,ht⟩;·cases h0
 ·have e1:c.toList=x::y::c.toList.drop 2:=by have:=List.take_append_drop 2 c.toList;rw[Nat.mul_one]at ht;rw[ht]at this;exact this.symm
  refine⟨g,cap,c.toList.drop 2,rfl,k,?_,fun w' x' d u=>?_⟩;·unfold Qh;rw[q,←e1]
  ·refine⟨rfl,.inr ⟨g,cap,(x'::d::c.toList.drop 2).toArray,rfl,k,u,hn,hc,?_,?_⟩⟩;·have z:c.size=cap*1:=hs;simp;omega
   ·simp
theorem Qfw{H:Type}(Bm b nn:Nat)(K:DataW H){R:Value→Option (DataW H×List MemPlace)}(w:World)(E:Maps.size K<maxLen)(c:Maps.size K*8+8≤140737488355328)
  (Z:∀u:List Int,u.Nodup→(∀x,x∈u↔has K (.int .u64 x)=true)→u.length≤2)
  (V:Bm<w.heap.size) (hm:w.cell? ⟨Bm,0,none⟩=some (.map (some b))) (I:w.ownsMap prog 29 R b nn K):
  Cl 240 #[.func (.func 255) #[] #[.pointer (some ⟨Bm,0,none⟩)]] w fun e W'=>∃(v:Value)(u:List Int),e=.returned v∧W'.ownsRow w.heap.size 29 1 v u.length (u.map (Value.int .u64))∧u.length≤2∧(∀x,x∈u↔has K (.int .u64 x)=true)∧Below w.heap.size w W':=by
 have C:=O (Qcm Bm b nn K w E c V hm I);clear E c V hm I;go_enter func240,ntmps240;go_wp2_with fail;refine Zo C ?_;rintro e w1⟨v,u,rfl,h1,h2,J,U⟩;have hl:=Z u h2 J;obtain⟨a,cap,rfl⟩:=Qcj h1
 match u,hl with
 |[],_=> have S:=O (Qbx a cap 0 (by omega) w1);have d:=O (Zt h1 (Zt J U));clear h1 h2 J U;go_wp2_with fail;refine Zo S ?_;rintro e w2⟨⟨r,rfl⟩,rfl⟩;go_wp2;go_ret;exact⟨_,[],rfl,d.o.1,by simp,d.o.2.1,d.o.2.2⟩
 |[x],_=> have S:=O (Qbx a cap 1 (by omega) w1);have d:=O (Zt h1 (Zt J U));clear h1 h2 J U;go_wp2_with fail;refine Zo S ?_;rintro e w2⟨⟨r,rfl⟩,rfl⟩;go_wp2;go_ret;exact⟨_,[x],rfl,d.o.1,by simp,d.o.2.1,d.o.2.2⟩
 |[x,y],_=>
  obtain⟨g,aa,cs,hv,hb,hB,q⟩:=Qib h1;injection hv with e1 e2 e3;subst e1 e3;have S:=O (Qmj g cap x y _ cs w1 hB);have d:=O (Zt q (Zt J (Zt U hb)));clear h1 h2 J U hB q hb;go_wp2_with fail;refine Zo S ?_;rintro e w2⟨⟨r,rfl⟩,s1,s2⟩;have HS:=O (Zt s1 s2);clear s1 s2;go_wp2;go_ret;refine⟨_,[min x y,max x y],rfl,d.o.1 _ _ _ HS.o.1,by simp,fun z=>?_,?_⟩;·rw[←d.o.2.1 z];simp only[Zu,List.not_mem_nil,or_false];omega
  ·refine d.o.2.2.1.trans (HS.o.2.toBelow (B:=w.heap.size) d.o.2.2.1.size (fun k hk=>by have:=d.o.2.2.2;have ab:k=g:=hk;omega))
end
end Go.Proofs.YtnnhmpehkbihnaaGreat
