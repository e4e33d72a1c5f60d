/- A part of the proof: no condition. -/
import Derived.Test.YtnnhmpehkbihnaaGreatPp03
import Derived.RangeFuncBox
import Derived.RangeFuncLeaves
import Derived.RangeFuncStops
import Derived.RangeFuncMany
import Derived.Sort.MapsRangeIn
import Derived.Sort.KeysCollected
import Derived.Shelf.Abstract
import Derived.OwnWalkIn
import Derived.TacticsInMore
import Derived.RegionIn
import Derived.LoopNIn
import Derived.LoopIn
import Derived.RangeFuncWrites
import Derived.RegionTactic
import Derived.ChangeAlike
import Derived.Deep.DeepCutAuto
import Derived.Maps.OwnOps
import Derived.Maps.OwnSet
namespace Go.Proofs.YtnnhmpehkbihnaaGreat
set_option linter.unusedVariables false
set_option maxRecDepth 100000
set_option maxHeartbeats 4000000
open Go.RowKit
open Go.Proofs.Tryz
section
open Go.Maps Go.Shelf
attribute [local go_sem] Oper.semAt_some
theorem law64:Keyed prog 29:=int_keyed underlying29
theorem Qjk{key:Value}{c:Lit}(h:keyOf prog 29 key=some c):∃x:Int,key=.int .u64 x∧c=.int .u64 x∧(Lit.int .u64 x).wf=true:=by have k:=underlying29;cases key<;>simp[keyOf,k,mapKey]at h;obtain⟨⟨rfl,d⟩,rfl⟩:=h;exact⟨_,rfl,rfl,d⟩
def Qgg{H:Type}(d:DataW H)(left:Lit→Bool)(c:List Int):Prop:=c.Nodup∧∀x,x∈c↔(has d (.int .u64 x)=true∧left (.int .u64 x)=false)
theorem Qgg.start{H:Type}(c:DataW H):Qgg c (has c) []:=⟨List.nodup_nil,fun x=>by cases has c (.int .u64 x)<;>simp⟩
theorem Qgg.step{H:Type}{k:DataW H}{left:Lit→Bool}{u:List Int}(h:Qgg k left u){x:Int}{y:DataW H}(q:left (.int .u64 x)=true)(B:∀J,k.atKey (.int .u64 x) J=y):
  Qgg k (fun z=>left z&&!z.sameKey (.int .u64 x)) (u++[x]):=by
 have c:has k (.int .u64 x)=true:=has_true_of_atKey B;have d:x∉u:=fun K=>by have:=((h.2 x).1 K).2;rw[q]at this;cases this
 refine⟨List.nodup_append.2 ⟨h.1,by simp,fun a ha b E=>by simp at E;subst E;exact fun e=>d (e▸ha)⟩,fun y=>?_⟩;by_cases I:y=x;·subst I;simp[c,Lit.sameKey]
 ·simp[h.2 y,I,Lit.sameKey]
theorem Qwg(F:Fence)(n:Nat)(k:F.fn 241)(c:F.round=none)(d:Option Nat)(w:World):
  CallsIn F n prog 241 #[.map d] w fun e w'=>e=.returned (.func (.func 255) #[] #[.pointer (some ⟨w.heap.size,0,none⟩)])∧w.alloc (.cells #[.map d] 304)=w':=by
 refine callsIn_of_wp func241 rfl k ?_ c;simp only[ntmps241,List.size_toArray,List.length_cons,List.length_nil,Nat.reduceAdd,Nat.reduceSub,Array.replicate_succ,Array.replicate_zero,List.push_toArray,List.append_toArray,List.nil_append,List.cons_append];gi_wp2;go_ret;exact⟨rfl,rfl⟩
theorem Qts{H:Type}(F:Fence)(n:Nat)(an:F.fn 255)(am:F.round=none)(hn:1≤n)(l Bm b nn:Nat)(B:DataW H){R:Value→Option (DataW H×List MemPlace)}(J Jx:List Int→World→Prop)
  (hY:∀k x W,J k W→k.length<Maps.size B→YieldAt F (n-1) prog l #[.int .u64 x] W fun e E=>
   (e=.returned (.bool true)∧J (k++[x]) E∧KeepsWalks W E)∨(e=.returned (.bool false)∧Jx (k++[x]) E))
  (W:World) (hJ:AbidesFrom W.heap.size J) (hm:W.cell? ⟨Bm,0,none⟩=some (.map (some b))) (K:W.ownsMap prog 29 R b nn B) (h0:J [] W):
  CallsIn F n prog 255 #[.func (.yield l) #[] #[],.pointer (some ⟨Bm,0,none⟩)] W fun e E=>(∃v,e=.returned v)∧
   ((∃d:List Int,(d.Nodup∧∀x,x∈d↔has B (.int .u64 x)=true)∧J d E)∨(∃k:List Int,True∧Jx k E)):=by
 refine callsIn_of_wp func255 rfl an ?_ am;simp only[ntmps255,List.size_toArray,List.length_cons,List.length_nil,Nat.reduceAdd,Nat.reduceSub,Array.replicate_succ,Array.replicate_zero,List.push_toArray,List.append_toArray,List.nil_append,List.cons_append];gi_wp2_with (first
  |(gi_at_range;refine wpListIn_range_own _ rfl _ 304 rfl 29 3 law64 underlying304 _ b nn _ rfl K ?_;intro w0 aa ap av)
  |gi_in)
 go_frame;gi_loopw [3] (fun _ wr=>∃(left:Lit→Bool)(u:Nat)(d:List Int),wr.ranges prog 29 R b W.heap.size nn B left u∧d.length+u≤Maps.size B∧Qgg B left d∧J d wr)
  (fun _ wr=>wr.rangeLeft b W.heap.size)
 case atStart=> exact⟨_,_,[],aa,by simp,Qgg.start B,hJ [] W w0 none h0 ap (fun r e=>by cases e)⟩
 case round=>
  obtain⟨left,u,d,z,au,hC,V⟩:=hrel;gi_wp2_with (first
   |(gi_at_next;refine wpListIn_next_ranges _ rfl _ rfl 29 law64 R (Value.int .u64) id (fun key kl hk=>by obtain⟨x,hx,_⟩:=Qjk hk;exact⟨x,hx⟩) (fun v _ _=>⟨v,rfl⟩) b W.heap.size nn _ _ _ rfl z ?_ ?_)
   |gi_in)
  ·intro aw ai;gi_wp2;go_end0;exact⟨⟨_,rfl⟩,.inl ⟨d,⟨hC.1,fun x=>by rw[hC.2 x,ai];simp⟩,V⟩⟩
  ·intro x c kl yd yp w2 I Z ak hv ah U Jl al ae ax;obtain⟨x',ex,rfl,_⟩:=Qjk Z;obtain rfl:x=x':=by simpa using ex
   have ag:J d w2:=hJ d wr w2 (some W.heap.size) V al (fun r e=>by cases e;exact⟨Nat.le_refl _,z.iter_walk⟩);obtain⟨fn,aq,ac,ar,hy,hR⟩:=hY d x w2 ag (by omega);clear ae;gi_wp2;refine hR.mono ?_;have ao:=hC.step ak ah;rintro e W3(⟨rfl,aj,af⟩|⟨rfl,ab⟩)
   ·gi_wp2;have q:=U.of_walks af;go_roundw;case rel=>exact⟨_,I,d++[x],q,by simp;omega,ao,aj⟩
    case measure=>rw[q.left_eq,z.left_eq];exact Jl
   ·gi_wp2;refine bodyPost_ret (results_none rfl _ _ _) rfl ?_;exact⟨⟨_,rfl⟩,.inr ⟨d++[x],trivial,ab⟩⟩
theorem Qm7{H:Type}(F:Fence)(n:Nat)(I:F.fn 255)(E:F.round=none)(hn:1≤n)(q b B:Nat)(u:DataW H){R:Value→Option (DataW H×List MemPlace)}(w:World)(K:q<w.heap.size)
  (hm:w.cell? ⟨q,0,none⟩=some (.map (some b)))(c:w.ownsMap prog 29 R b B u):
  SeqStopsA F n prog 255 #[.pointer (some ⟨q,0,none⟩)] (fun x:Int=>#[Value.int .u64 x]) (fun U=>U.Nodup∧∀x,x∈U↔has u (.int .u64 x)=true) (fun V=>True) (Maps.size u) w:=fun l J Jx W hW Z _ hY h0=>by
 have k:W.ownsMap prog 29 R b B u:=by have z:=c.lt;obtain⟨es,d,hb,Ft,hs,hD⟩:=c;exact⟨es,d,(hW.block b z).trans hb,Ft,hs,hD⟩
 exact Qts F n I E hn l q b B u J Jx hY W Z ((hW.cell (p:=⟨q,0,none⟩) K).trans hm) k h0
theorem Qx6:(prog.info? 29).map (fun i=>(i.zero,i.size,i.bytes))=some (some (.int .u64 0),1,8):=by kernel_rfl
theorem Qtt{H:Type}(F:Fence)(n:Nat)(h3:F.fn 262)(h5:F.fn 255)(J:F.round=none)(hn:3≤n)(u b nn:Nat)(V:DataW H){R:Value→Option (DataW H×List MemPlace)}(w:World)(an:Maps.size V<maxLen)(ac:Maps.size V*8+8≤140737488355328)
  (ak:u<w.heap.size)(hm:w.cell? ⟨u,0,none⟩=some (.map (some b)))(z:w.ownsMap prog 29 R b nn V):
  CallsIn F n prog 262 #[.slice none 0 0,.func (.func 255) #[] #[.pointer (some ⟨u,0,none⟩)]] w fun e W'=>∃(v:Value)(ss:List Int),e=.returned v∧W'.ownsRow w.heap.size 29 1 v ss.length (ss.map (Value.int .u64))∧ss.Nodup∧(∀x,x∈ss↔has V (.int .u64 x)=true)∧Below w.heap.size w W':=by
 have h1:1≤n:=by omega
 obtain⟨i0,hi,ah,ai,al⟩:=info_parts Qx6;refine callsIn_of_wp_marks func262 rfl h3 ?_ J;simp only[ntmps262,List.size_toArray,List.length_cons,List.length_nil,Nat.reduceAdd,Nat.reduceSub,Array.replicate_succ,Array.replicate_zero,List.push_toArray,List.append_toArray,List.nil_append,List.cons_append];gi_wp2;have bO:=Boxed.new w 64 (.slice none 0 0);have B:Below w.heap.size w (w.alloc (.cells #[.slice none 0 0] 64)):=(Below.refl _ w).alloc (Nat.le_refl _) _;have I:(w.alloc (.cells #[.slice none 0 0] 64)).ownsMap prog 29 R b nn V:=by have ae:=z.lt;obtain⟨es,E,hb,Ft,hs,hD⟩:=z;exact⟨es,E,(B.block b ae).trans hb,Ft,hs,hD⟩
 refine wpIn_rangeFunc_ownG J h1 (gf:=255) (lb:=#[.pointer (some ⟨u,0,none⟩)]) rfl h5 (enters_of func255 (by kernel_rfl) rfl)
  (Qm7 F (n-1) h5 J (by omega) u b nn V _ (by simp;omega) ((B.cell (p:=⟨u,0,none⟩) ak).trans hm) I) walksK_t walksK_b (Below.refl _ _) (fun _=>rfl)
  (fun(d:List Int)W=>(∃v,Boxed W w.heap.size 64 v∧W.ownsRow w.heap.size 29 1 v d.length (d.map (Value.int .u64))∧True)∧Below w.heap.size w W)
  (fun _ _ _=>False)
  (OwnFrom.and (Own.from (holdsRow_own w.heap.size w.heap.size 64 29 1 (fun(d:List Int)=>d.length) (fun(d:List Int)=>d.map (Value.int .u64)) (fun(d:List Int)v=>True)) _) (ownFrom_below (Nat.le_refl _) (by simp)))
  (fun _ _ _ _ _ hs _ _=>hs)
  ⟨⟨_,bO,World.ownsRow_nil _ _ _ _,trivial⟩,B⟩
  (fun x=>{tmps:=#[.slice none 0 0,.func (.func 255) #[] #[.pointer (some ⟨u,0,none⟩)],.pointer (some ⟨w.heap.size,0,none⟩),undef,.slice none 0 0,.int .u64 x,.func (.func 255) #[] #[.pointer (some ⟨u,0,none⟩)],.int .u64 x,undef,undef,undef,undef,undef],defers:=[]}) ?assign ?body ?done ?stop
 case assign=> intro l x W K hK;gi_wp2;exact hK
 case body=> rintro l d x W⟨⟨v,hv,k,_⟩,hB⟩Jl;have hc:=hv.cell;gi_wp2_with (gi_at_builtin;refine wpListIn_append_own _ rfl _ _ 64 rfl w.heap.size 29 i0 (.int .u64 0) 1 8 underlying64 hi ah ai al rfl (by decide) _ _ _ rfl (k.alloc _) ⟨W.heap.size,0,none⟩ 1 1 [.int .u64 x] rfl rfl (cell_one_new _ _ _) (by simp[Value.oneCell']) (by omega) (by omega) (by have:=hB.size;simp;omega) ?_;intro v' w1 q U _;obtain⟨g',ao,rfl⟩:=ownsRow_succ q;obtain⟨aa,af,ag,Z,am⟩:=hv.appended (by decide) k hB.size (Nat.le_refl _) q U;have aq:=aa.cell;have ap:=aa.frozen);exact⟨Z.from _,Z.walks,⟨_,af,by simpa using ag,trivial⟩,hB.trans am⟩
 case done=> rintro D ys W hD⟨aj,ab⟩⟨⟨v,hv,k,_⟩,hB⟩hK;have hc:=hv.cell;gi_wp2;refine⟨by simp,.inl ⟨_,_,rfl,run_takeDeferred hK,?_⟩⟩;exact⟨_,results_tmp rfl _ _ _,v,ys,rfl,ownsRow_putObj k _ hK rfl,aj,ab,hB.trans (belowK_b (w:=w) (Nat.le_refl _) W D _ _ (by simp at hD;omega) hK rfl rfl)⟩
 case stop=> rintro D c d W _ _ h _;exact h.elim
end
section
open Go.Maps Go.Shelf
theorem Qib{H:Type}(B b J:Nat)(u:DataW H){R:Value→Option (DataW H×List MemPlace)}(w:World)(d:Maps.size u<maxLen)(c:Maps.size u*8+8≤140737488355328)
  (z:B<w.heap.size)(I:w.cell? ⟨B,0,none⟩=some (.map (some b)))(k:w.ownsMap prog 29 R b J u):
  Cl 253 #[.func (.func 255) #[] #[.pointer (some ⟨B,0,none⟩)]] w fun e Z=>∃(v:Value)(q:List Int),e=.returned v∧Z.ownsRow w.heap.size 29 1 v q.length (q.map (Value.int .u64))∧q.Nodup∧(∀x,x∈q↔has u (.int .u64 x)=true)∧Below w.heap.size w Z:=by
 have C:=O (callsIn_wide.1 (Qtt Fence.wide 3 trivial trivial rfl (by omega) B b J u w d c z I k));clear d c z I k;go_enter func253,ntmps253;go_wp2_with fail;refine(C.out).mono ?_;rintro e w1⟨v,q,rfl,h1,K,U,V⟩;have E:=O (And.intro h1 (And.intro K (And.intro U V)));clear h1 K U V;go_wp2;go_ret;exact⟨v,q,rfl,E.out.1,E.out.2.1,E.out.2.2.1,E.out.2.2.2⟩
theorem Qx7(a:Option Addr)(cap:Nat)(k:Int)(c:k≤1)(h0:0≤k)(w:World):Cl 265 #[.slice a k.toNat cap,.int .i64 0,.int .i64 k] w fun e w'=>(∃r,e=.returned r)∧w=w':=by go_enter func265,ntmps265;go_wp2;refine wp_loop_rounds 1 ?_;rw[rounds_succ];go_wp2;go_end0;exact⟨⟨_,rfl⟩,rfl⟩
theorem Qsb(a:Option Addr)(cap:Nat)(k lim:Int)(c:k≤1)(h0:0≤k)(w:World):Cl 263 #[.slice a k.toNat cap,.int .i64 0,.int .i64 k,.int .i64 lim] w fun e w'=>(∃r,e=.returned r)∧w=w':=by go_enter func263,ntmps263;go_wp2;refine wp_loop_rounds 1 ?_;rw[rounds_succ];go_wp2_with (go_at_call 265;refine(Qx7 _ _ _ c h0 _).mono ?_;rintro e w1⟨⟨r,rfl⟩,rfl⟩);refine bodyPost_ret (results_none rfl _ _ _) rfl ?_;exact⟨⟨_,rfl⟩,rfl⟩
theorem Qea(x y:Int)(w:World):Cl 271 #[.int .u64 x,.int .u64 y] w fun e w'=>e=.returned (.bool (decide (x<y)))∧w=w':=by go_enter func271,ntmps271;go_wp2;go_ret;exact⟨rfl,rfl⟩
theorem Qx8(g cap:Nat)(x y:Int)(w:World)(k:w.cell? ⟨g,0,none⟩=some (.int .u64 x))(d:w.cell? ⟨g,1,none⟩=some (.int .u64 y))(hf:∀i,w.frozen? ⟨g,i,none⟩=false)(Jl:x≤y):
  Cl 265 #[.slice (some ⟨g,0,none⟩) 2 cap,.int .i64 0,.int .i64 2] w fun e w'=>(∃r,e=.returned r)∧Qc Qb w w':=by
 have L:=O (Qea y x);have c:decide (y<x)=false:=by simp;omega
 rw[c]at L;clear Jl c;go_enter func265,ntmps265;go_wp2;refine wp_loop_rounds 2 ?_;rw[rounds_succ];go_wp2;refine wp_loop_rounds 1 ?_;rw[rounds_succ];go_wp2;go_quiet ((go_at_call 271;exact Qfb (L.out _)));go_wp2;rw[rounds_succ];go_wp2;go_end0;refine⟨⟨_,rfl⟩,?_⟩;(repeat' (first|(with_reducible first|exact Zg _ _|assumption|refine Zh ?_ _|refine Zi ?_ _|refine Zj ?_ |refine Zk ?_ _ ?_ |(apply Or.inl;rfl))|(apply Or.inl;simp;done)|(apply Or.inr;simp;first|done|omega)))
theorem Qwh(g cap:Nat)(x y:Int)(w:World)(k:w.cell? ⟨g,0,none⟩=some (.int .u64 x))(d:w.cell? ⟨g,1,none⟩=some (.int .u64 y))(hf:∀i,w.frozen? ⟨g,i,none⟩=false)(Jl:y<x):
  Cl 265 #[.slice (some ⟨g,0,none⟩) 2 cap,.int .i64 0,.int .i64 2] w fun e w'=>(∃r,e=.returned r)∧∃n m,(((w.drewN n).setCell ⟨g,1,none⟩ (.int .u64 x)).setCell ⟨g,0,none⟩ (.int .u64 y)).drewN m=w':=by
 have L:=O (Qea y x);have c:decide (y<x)=true:=by simp;omega
 rw[c]at L;clear Jl c;go_enter func265,ntmps265;go_wp2;refine wp_loop_rounds 2 ?_;rw[rounds_succ];go_wp2;refine wp_loop_rounds 2 ?_;rw[rounds_succ];go_wp2;go_quiet ((go_at_call 271;exact Qfb (L.out _)));go_wp2;go_region;all_goals go_wp2
 rw[rounds_succ];go_wp2;go_quiet (fail);go_wp2;rw[rounds_succ];go_wp2;go_end0;exact⟨⟨_,rfl⟩,_,_,rfl⟩
theorem Qtu(g cap:Nat)(x y:Int)(t:TypeId)(cs:List Value)(w:World)(c:Qh w g (.int .u64 x:: .int .u64 y::cs).toArray t):
  Cl 265 #[.slice (some ⟨g,0,none⟩) 2 cap,.int .i64 0,.int .i64 2] w fun e w'=>(∃r,e=.returned r)∧Qh w' g (.int .u64 (min x y):: .int .u64 (max x y)::cs).toArray t∧Qc (fun k=>k=g) w w':=by
 rcases Int.lt_or_le y x with h|h
 ·refine(Qwh g cap x y w (c.cell 0) (c.cell 1) c.frozen h).mono fun e w' d=>?_;obtain⟨h1,n,m,rfl⟩:=d;refine⟨h1,?_,?_⟩;·rw[Int.min_eq_right (Int.le_of_lt h),Int.max_eq_left (Int.le_of_lt h)];exact(((c.drewN n).set' 1 _ rfl).set' 0 _ rfl).drewN m
  ·(repeat' (first|(with_reducible first|exact Zg _ _|assumption|refine Zh ?_ _|refine Zi ?_ _|refine Zj ?_ |refine Zk ?_ _ ?_ |(apply Or.inl;rfl))|(apply Or.inl;simp;done)|(apply Or.inr;simp;first|done|omega)))
 ·refine(Qx8 g cap x y w (c.cell 0) (c.cell 1) c.frozen h).mono fun e w' d=>?_;rw[Int.min_eq_left h,Int.max_eq_right h];exact⟨d.1,d.2.blk c (fun h=>h),d.2.mono fun k h=>h.elim⟩
theorem Qtv(g cap:Nat)(x y lim:Int)(t:TypeId)(cs:List Value)(w:World)(c:Qh w g (.int .u64 x:: .int .u64 y::cs).toArray t):
  Cl 263 #[.slice (some ⟨g,0,none⟩) 2 cap,.int .i64 0,.int .i64 2,.int .i64 lim] w fun e w'=>(∃r,e=.returned r)∧Qh w' g (.int .u64 (min x y):: .int .u64 (max x y)::cs).toArray t∧Qc (fun k=>k=g) w w':=by
 have I:=O (Qtu g cap x y t cs w c);clear c;go_enter func263,ntmps263;go_wp2;refine wp_loop_rounds 1 ?_;rw[rounds_succ];go_wp2_with (go_at_call 265;refine(I.out).mono ?_;rintro e w1⟨⟨r,rfl⟩,h1,d⟩;have H:=O (And.intro h1 d);clear h1 d);refine bodyPost_ret (results_none rfl _ _ _) rfl ?_;exact⟨⟨_,rfl⟩,H.out.1,H.out.2⟩
theorem Qgh(k:Nat)(c:k≤2)(w:World):Cl 83 #[.int .u64 (k:Int)] w fun e w'=>(∃r,e=.returned (.int .i64 r))∧w=w':=by
 obtain rfl|rfl|rfl:k=0∨k=1∨k=2:=by omega
 all_goals
  go_enter func83,ntmps83;go_wp2;go_ret;exact⟨⟨_,rfl⟩,rfl⟩
theorem Qgi(a:Option Addr)(cap k:Nat)(c:k≤1)(w:World):Cl 254 #[.slice a k cap] w fun e w'=>(∃r,e=.returned r)∧w=w':=by
 obtain rfl|rfl:k=0∨k=1:=by omega
 ·have P:=O (fun lim w=>Qsb a cap 0 lim (by omega) (by omega) w);go_enter func254,ntmps254;go_wp2_with fail;refine(Qgh 0 (by omega) _).mono ?_;rintro e w0⟨⟨lim,rfl⟩,rfl⟩;go_wp2_with fail;refine(P.out _ _).mono ?_;rintro e w1⟨⟨r,rfl⟩,rfl⟩;go_wp2;go_end0;exact⟨⟨_,rfl⟩,rfl⟩
 ·have P:=O (fun lim w=>Qsb a cap 1 lim (by omega) (by omega) w);go_enter func254,ntmps254;go_wp2_with fail;refine(Qgh 1 (by omega) _).mono ?_;rintro e w0⟨⟨lim,rfl⟩,rfl⟩;go_wp2_with fail;refine(P.out _ _).mono ?_;rintro e w1⟨⟨r,rfl⟩,rfl⟩;go_wp2;go_end0;exact⟨⟨_,rfl⟩,rfl⟩
theorem Qp7(g cap:Nat)(x y:Int)(t:TypeId)(cs:List Value)(w:World)(c:Qh w g (.int .u64 x:: .int .u64 y::cs).toArray t):
  Cl 254 #[.slice (some ⟨g,0,none⟩) 2 cap] w fun e w'=>(∃r,e=.returned r)∧Qh w' g (.int .u64 (min x y):: .int .u64 (max x y)::cs).toArray t∧Qc (fun k=>k=g) w w':=by
 have P:=O (fun lim=>Qtv g cap x y lim t cs w c);clear c;go_enter func254,ntmps254;go_wp2_with fail;refine(Qgh 2 (by omega) _).mono ?_;rintro e w0⟨⟨lim,rfl⟩,rfl⟩;go_wp2_with fail;refine(P.out _).mono ?_;rintro e w1⟨⟨r,rfl⟩,h1,d⟩;have H:=O (And.intro h1 d);clear h1 d;go_wp2;go_end0;exact⟨⟨_,rfl⟩,H.out.1,H.out.2⟩
theorem Qic{w:World}{base:Nat}{e:TypeId}{sz:Nat}{v:Value}{n:Nat}{d:List Value}(h:w.ownsRow base e sz v n d):∃a cap,v=.slice a n cap:=by
 rcases h.2 with⟨rfl,h0⟩|⟨g,cap,c,rfl,_⟩;·exact⟨none,0,by rw[h0]⟩
 ·exact⟨_,cap,rfl⟩
theorem Qm8{w:World}{base:Nat}{e:TypeId}{v:Value}{x y:Value}(h:w.ownsRow base e 1 v 2 [x,y]):∃g cap cs,v=.slice (some ⟨g,0,none⟩) 2 cap∧base≤g∧Qh w g (x::y::cs).toArray e∧
  ∀(w':World)(x' d:Value),Qh w' g (x'::d::cs).toArray e→w'.ownsRow base e 1 v 2 [x',d]:=by
 rcases h.2 with⟨_,h0⟩|⟨g,cap,c,rfl,k,q,hn,hc,hs,ht⟩;·cases h0
 ·have e1:c.toList=x::y::c.toList.drop 2:=by have:=List.take_append_drop 2 c.toList;rw[Nat.mul_one]at ht;rw[ht]at this;exact this.symm
  refine⟨g,cap,c.toList.drop 2,rfl,k,?_,fun w' x' d u=>?_⟩;·unfold Qh;rw[q,←e1]
  ·refine⟨rfl,.inr ⟨g,cap,(x'::d::c.toList.drop 2).toArray,rfl,k,u,hn,hc,?_,?_⟩⟩;·have z:c.size=cap*1:=hs;simp;omega
   ·simp
theorem Qkv{H:Type}(Bm b nn:Nat)(U:DataW H){R:Value→Option (DataW H×List MemPlace)}(w:World)(E:Maps.size U<maxLen)(c:Maps.size U*8+8≤140737488355328)
  (V:∀u:List Int,u.Nodup→(∀x,x∈u↔has U (.int .u64 x)=true)→u.length≤2)
  (Z:Bm<w.heap.size) (hm:w.cell? ⟨Bm,0,none⟩=some (.map (some b))) (I:w.ownsMap prog 29 R b nn U):
  Cl 240 #[.func (.func 255) #[] #[.pointer (some ⟨Bm,0,none⟩)]] w fun e W'=>∃(v:Value)(u:List Int),e=.returned v∧W'.ownsRow w.heap.size 29 1 v u.length (u.map (Value.int .u64))∧u.length≤2∧(∀x,x∈u↔has U (.int .u64 x)=true)∧Below w.heap.size w W':=by
 have C:=O (Qib Bm b nn U w E c Z hm I);clear E c Z hm I;go_enter func240,ntmps240;go_wp2_with fail;refine(C.out).mono ?_;rintro e w1⟨v,u,rfl,h1,h2,J,K⟩;have hl:=V u h2 J;obtain⟨a,cap,rfl⟩:=Qic h1
 match u,hl with
 |[],_=> have S:=O (Qgi a cap 0 (by omega) w1);have d:=O (And.intro h1 (And.intro J K));clear h1 h2 J K;go_wp2_with fail;refine(S.out).mono ?_;rintro e w2⟨⟨r,rfl⟩,rfl⟩;go_wp2;go_ret;exact⟨_,[],rfl,d.out.1,by simp,d.out.2.1,d.out.2.2⟩
 |[x],_=> have S:=O (Qgi a cap 1 (by omega) w1);have d:=O (And.intro h1 (And.intro J K));clear h1 h2 J K;go_wp2_with fail;refine(S.out).mono ?_;rintro e w2⟨⟨r,rfl⟩,rfl⟩;go_wp2;go_ret;exact⟨_,[x],rfl,d.out.1,by simp,d.out.2.1,d.out.2.2⟩
 |[x,y],_=>
  obtain⟨g,aa,cs,hv,hb,hB,q⟩:=Qm8 h1;injection hv with e1 e2 e3;subst e1 e3;have S:=O (Qp7 g cap x y _ cs w1 hB);have d:=O (And.intro q (And.intro J (And.intro K hb)));clear h1 h2 J K hB q hb;go_wp2_with fail;refine(S.out).mono ?_;rintro e w2⟨⟨r,rfl⟩,s1,s2⟩;have HS:=O (And.intro s1 s2);clear s1 s2;go_wp2;go_ret;refine⟨_,[min x y,max x y],rfl,d.out.1 _ _ _ HS.out.1,by simp,fun z=>?_,?_⟩;·rw[←d.out.2.1 z];simp only[List.mem_cons,List.not_mem_nil,or_false];omega
  ·refine d.out.2.2.1.trans (HS.out.2.toBelow (B:=w.heap.size) d.out.2.2.1.size (fun k hk=>by have:=d.out.2.2.2;have ab:k=g:=hk;omega))
end
section
theorem Qz8:Qkf prog Z6.cells 3 289 38 24 Z6.zero where
 ht:=underlying289
 hi:=Lu (by kernel_rfl)
 pos:=by decide
 hc:=Z6.cells_length
 one:=by intro p u c;simp only[Z6.cells,List.mem_cons,List.not_mem_nil,or_false]at c;rcases c with rfl|rfl|rfl<;>rfl
theorem Qp8{w:World}{g:Nat}(h:Qh w g #[] 38):Own Z6.cells 3 38 w (.slice (some ⟨g,0,none⟩) 0 0) ([]:List Z6):=
 ⟨by simp[Zr],.inr ⟨g,0,#[],rfl,Nat.zero_le _,h,Nat.le_refl _,Nat.zero_le _,by simp,by simp[Zr]⟩⟩
theorem Qgj:prog.eqGuardType prog.depth 289=false:=by kernel_rfl
theorem Qkw:prog.stoodInHeld 289=false:=by kernel_rfl
attribute [local go_sem] Qgj Qkw
theorem Qm9(l:List Z6)(ad:Addr)(cap:Nat)(w:World)(d:Yr Z6.cells 3 w (some ad) l)(hl:l.length≤1000)(h0:l≠[]):
  Cl 251 #[.slice (some ad) l.length cap] w fun e w'=>∃v,e=.returned v∧Own Z6.cells 3 38 w' v l∧Qc Qb w w'∧∀k,v.ownBlock=some k→w.heap.size≤k:=by
 have R:=O (And.intro d h0);clear d h0;go_enter func251,ntmps251;have J:=fun(W:World)=>Lib.run_eql_slice_nil (P:=prog) W 289 38 (some ad) l.length cap 0 0 underlying289;go_wp2_with (at_builtin;refine Jf Qz8 rfl (.tmp 5) (.tmp 6) rfl _ ([]:List Z6) rfl (Qp8 (Qh.new' _ _ (by simp))) _ _ l rfl ?a2 ?a3 ?a4 ?a5 ?a6);case a2=>intro h;cases h
 case a3=>exact R.out.1.keep ((Qc.refl Qb w).alloc _) (fun _ _ h=>h)
 case a4=>simp[maxLen];omega
 case a5=>simp;omega
 case a6=>
  intro v' w1 c u q;have I:Qc Qb w w1:=((Qc.refl Qb w).alloc (.cells #[] 38)).trans u fun j K=>.inr (by simp[Value.ownBlock]at K;omega);have E:∀k,v'.ownBlock=some k→w.heap.size≤k:=by
   intro k z;rcases q with h|h;·rw[h]at z;simp[Value.ownBlock]at z;omega
   ·rw[h]at z;have:=Option.some.inj z;have U:(w.alloc (.cells #[] 38)).heap.size=w.heap.size+1:=by simp
    omega
  have B:=O (And.intro c (And.intro I E));clear c I E u q;go_wp2;go_ret;exact⟨_,rfl,B.out.1,B.out.2.1,B.out.2.2⟩
theorem Qtw(c:Z6)(w:World):
  Cl 252 #[.agg #[.int .u64 (c.f:Int),.int .u64 (c.l:Int),.int .u64 (c.r:Int)]] w fun e w'=>e=.returned (.bool (!decide c.May))∧Qc Qb w w':=by
 have M:=O (fun w=>Y0 c w);generalize decide c.May=d at M⊢;go_enter func252,ntmps252;go_wp2_with fail;refine(M.out _).mono ?_;rintro e w1⟨rfl,k⟩;have q:=O (((Qc.refl Qb w).alloc (.cells #[.int .u64 (c.f:Int),.int .u64 (c.l:Int),.int .u64 (c.r:Int)] 38)).trans' k);clear k;go_wp2;go_ret;exact⟨rfl,q.out⟩
theorem Qtx(c:Z6)(hc:c.May)(w w':World)(h':Qc Qb w w'):
  Cl 252 #[.agg #[.int .u64 (c.f:Int),.int .u64 (c.l:Int),.int .u64 (c.r:Int)]] w' fun e d=>e=.returned (.bool false)∧Qc Qb w d:=
 (Qtw c w').mono fun e d h=>⟨by rw[h.1,Lp hc];rfl,h'.trans' h.2⟩
theorem Qkx(l:List Z6)(a:Option Addr)(cap:Nat)(w:World)(q:Yr Z6.cells 3 w a l)(hl:l.length≤1000)(z:∀c∈l,c.May):
  Cl 261 #[.slice a l.length cap,.func (.func 252) #[] #[]] w fun e w'=>e=.returned (.int .i64 (-1))∧Qc Qb w w':=by
 have J:=O (And.intro q z);clear q z;have E:=O (fun c(hc:c.May)w'(h':Qc Qb w w')=>Qtx c hc w w' h');go_enter func261,ntmps261;go_wp2;go_loopw [5,8] (fun _ i wr=>∃k:Nat,k≤l.length∧i=.int .i64 k∧Qc Qb w wr) (fun _ i _=>l.length-(intOf i).toNat);case atStart=>exact⟨0,by omega,rfl,Qc.refl _ _⟩
 case round=>
  obtain⟨k,hk,rfl,hc⟩:=hrel;rename_i wr;by_cases Jl:k<l.length
  ·obtain⟨g,o,rfl,I⟩:=J.out.1 k Jl;have d:∀j u,(Z6.cells l[k])[j]? =some u→wr.cell? ⟨g,o+k*3+j,none⟩=some u:=fun j u R=>hc.same (I j u R);have z:=J.out.2 l[k] (List.getElem_mem Jl);generalize l[k]=c at d z;have U:=d 0 _ rfl;have e1:=d 1 _ rfl;have Z:=d 2 _ rfl;simp only[Nat.add_zero]at U;have V:=O (E.out c z wr hc);clear I d;have k0:(0:Int)≤(k:Int):=by omega
   have k1:(k:Int)<(l.length:Int):=by omega
   have B:=O hc;clear hc z;go_wp2_with fail;refine(V.out).mono ?_;rintro e w2⟨rfl,K⟩;go_wp2;go_roundw;case rel=>exact⟨k+1,by omega,by go_num,K⟩
   case measure=>simp[intOf];omega
  ·have B:=O hc;clear hc;go_wp2;go_ret;exact⟨rfl,B.out⟩
end
section
attribute [local go_sem] Qq
theorem Qid(l:List Z6)(a:Option Addr)(cap:Nat)(w:World)(d:Yr Z6.cells 3 w a l)(hl:l.length≤1000)(q:∀c∈l,c.May):
  Cl 250 #[.slice a l.length cap,.func (.func 252) #[] #[]] w fun e w'=>e=.returned (.slice a l.length cap)∧Qc Qb w w':=by
 have I:=O (Qkx l a cap w d hl q);clear d q;go_enter func250,ntmps250;go_wp2_with fail;refine(I.out).mono ?_;rintro e w1⟨rfl,k⟩;have C:=O k;clear k;go_wp2;go_ret;exact⟨rfl,C.out⟩
theorem Qeb(l:List Z6)(ad:Addr)(cap:Nat)(w:World)(q:Yr Z6.cells 3 w (some ad) l)(hl:l.length≤1000)(h0:l≠[])(J:∀c∈l,c.May):
  Cl 239 #[.slice (some ad) l.length cap] w fun e w'=>∃v,e=.returned v∧Own Z6.cells 3 38 w' v l∧Qc Qb w w'∧∀k,v.ownBlock=some k→w.heap.size≤k:=by
 have C:=O (Qm9 l ad cap w q hl h0);have D:=O (fun a cap w(h:Yr Z6.cells 3 w a l)=>Qid l a cap w h hl J);clear q h0 J;go_enter func239,ntmps239;go_wp2_with fail;refine(C.out).mono ?_;rintro e w1⟨v,rfl,h1,U,V⟩;have R:=h1.row Z6.cells_length;obtain⟨a1,u,rfl,E,B,d⟩:=R;have Z:=O (D.out a1 u w1 d);have z:=O (And.intro h1 (And.intro U V));clear h1 U V d B E;go_wp2_with fail;refine(Z.out).mono ?_;rintro e w2⟨rfl,K⟩;have I:=O K;clear K;go_wp2;go_ret;exact⟨_,rfl,z.out.1.keep I.out (fun _ _ h=>h),z.out.2.1.trans' I.out,z.out.2.2⟩
theorem Qjl(m n:Nat)(w:World)(h:m+n<340282366920938463463374607431768211456):
  Cl 242 #[.agg #[.int .u64 ((m/18446744073709551616:Nat):Int),.int .u64 ((m%18446744073709551616:Nat):Int)],.agg #[.int .u64 ((n/18446744073709551616:Nat):Int),.int .u64 ((n%18446744073709551616:Nat):Int)]] w
   fun e w'=>e=.returned (.agg #[.int .u64 (((m+n)/18446744073709551616:Nat):Int),.int .u64 (((m+n)%18446744073709551616:Nat):Int)])∧Qc Qb w w':=by
 have P:=O (fun w=>Qcw m n w h);clear h;generalize(((m+n)/18446744073709551616:Nat):Int)=E at P⊢;generalize(((m+n)%18446744073709551616:Nat):Int)=B at P⊢;generalize((m/18446744073709551616:Nat):Int)=d at P⊢;generalize((m%18446744073709551616:Nat):Int)=k at P⊢;generalize((n/18446744073709551616:Nat):Int)=z at P⊢;generalize((n%18446744073709551616:Nat):Int)=u at P⊢;go_enter func242,ntmps242;go_wp2_with fail;refine(P.out _).mono ?_;rintro e w1⟨rfl,c⟩;have q:=c.blk (Qh.new' (w:=(w.alloc (.cells #[.int .u64 d,.int .u64 k] 291)).alloc (.cells #[.int .u64 z,.int .u64 u] 291)) (n:=w.heap.size+1+1) #[.int .u64 0,.int .u64 0] 291 (by simp)) (fun h=>h);have J:=O (((((Qc.refl Qb w).alloc (.cells #[.int .u64 d,.int .u64 k] 291)).alloc (.cells #[.int .u64 z,.int .u64 u] 291)).alloc (.cells #[.int .u64 0,.int .u64 0] 291)).trans' c);have I:=q.lt;have k0:=q.cell 0;have k1:=q.cell 1;have kf:=q.frozen;simp at k0 k1;clear q c;go_wp2;refine bodyPost_ret (v:=.agg #[.int .u64 E,.int .u64 B]) (by simp[results,Tryz.results242,go_sem,k0,k1,I]) rfl ⟨rfl,?_⟩;have c:=J.out;(repeat' (first|(with_reducible first|exact Zg _ _|assumption|refine Zh ?_ _|refine Zi ?_ _|refine Zj ?_ |refine Zk ?_ _ ?_ |(apply Or.inl;rfl))|(apply Or.inl;simp;done)|(apply Or.inr;simp;first|done|omega)))
def Z6.sum(l:List Z6)(t:Nat):Nat:=(l.map fun c=>c.at t).sum
theorem Z6.sum_succ(l:List Z6)(t k:Nat)(h:k<l.length):Z6.sum (l.take (k+1)) t=Z6.sum (l.take k) t+l[k].at t:=by simp only[Z6.sum,List.take_succ_eq_append_getElem h,List.map_append,List.sum_append];simp
theorem Z6.sum_le(l:List Z6)(t:Nat)(ht:t<18446744073709551616)(d:∀c∈l,c.May):Z6.sum l t≤l.length*38685626227668133590597632:=by
 induction l with
 |nil=>simp[Z6.sum]
 |cons c l k=>
  have h1:=k (fun c hc=>d c (by simp[hc]));have u:=c.at_le (d c (by simp)) t ht;have q:c.at t≤38685626227668133590597632:=by unfold Z6.at;omega
  simp only[Z6.sum,List.map_cons,List.sum_cons,List.length_cons]at*;omega
theorem Qsc(l:List Z6)(ad:Addr)(cap:Nat)(t:Nat)(w:World)(U:Yr Z6.cells 3 w (some ad) l)(hl:l.length≤1000)(h0:l≠[])(hm:∀c∈l,c.May)(ht:t<18446744073709551616):
  Cl 231 #[.slice (some ad) l.length cap,.int .u64 (t:Int)] w fun e w'=>e=.returned (.agg #[.int .u64 ((Z6.sum l t/18446744073709551616:Nat):Int),.int .u64 ((Z6.sum l t%18446744073709551616:Nat):Int)])∧Qc Qb w w':=by
 have M:=O (fun w'(c:Qc Qb w w')=>Qeb l ad cap w' (U.keep c (fun _ _ h=>h)) hl h0 hm);have HM:=O hm;have af:=O (fun k(h:k≤l.length)=>Z6.sum_le (l.take k) t ht (fun c hc=>hm c (List.mem_of_mem_take hc)));have HT:=O ht;clear U h0 hm;go_enter func231,ntmps231;go_wp2_with fail;refine(M.out _ (by(repeat' (first|(with_reducible first|exact Zg _ _|assumption|refine Zh ?_ _|refine Zi ?_ _|refine Zj ?_ |refine Zk ?_ _ ?_ |(apply Or.inl;rfl))|(apply Or.inl;simp;done)|(apply Or.inr;simp;first|done|omega))))).mono ?_;rintro e w1⟨v,rfl,h1,h2,h3⟩;have R:=h1.row Z6.cells_length;obtain⟨a1,ag,rfl,ax,an,aa⟩:=R;have ah:=O h2;have B1:=O (h2.blk (Qh.new' (w:=w.alloc (.cells #[.int .u64 0,.int .u64 0] 291)) (n:=w.heap.size+1) #[.int .u64 0,.int .u64 0] 291 (by simp)) (fun h=>h));have HR:=O (And.intro h1 h3);clear h1 h2 h3 aa an ax;have B0:=O (ah.out.blk ((Qh.new w #[.int .u64 0,.int .u64 0] 291).alloc (.cells #[.int .u64 0,.int .u64 0] 291)) (fun h=>h));go_wp2;go_loopw [7,8,12] (fun _ _ i wr=>∃(k:Nat)(hi lo:Int),k≤l.length∧i=.int .i64 k∧Qh wr (w.heap.size+1) #[.int .u64 hi,.int .u64 lo] 291∧Qc (fun b=>b=w.heap.size+1) w1 wr∧Hid (hi=((Z6.sum (l.take k) t/18446744073709551616:Nat):Int)∧lo=((Z6.sum (l.take k) t%18446744073709551616:Nat):Int))) (fun _ _ i _=>l.length-(intOf i).toNat);case atStart=>exact⟨0,0,0,by omega,rfl,B1.out,Qc.refl _ _,O ⟨by simp[Z6.sum],by simp[Z6.sum]⟩⟩
 case round=>
  obtain⟨k,hi,lo,hk,rfl,B,hc,HV⟩:=hrel;rename_i wr;by_cases Jl:k<l.length
  ·have I:Own Z6.cells 3 38 wr (.slice a1 l.length ag) l:=HR.out.1.keep hc (fun j hj e=>by have:=HR.out.2 j hj;simp at this;omega);obtain⟨a2,a6,e2,_,_,E⟩:=I.row Z6.cells_length;injection e2 with a4 ba ao;subst a4 ao;obtain⟨g,o,rfl,hj⟩:=E k Jl;have u:=HM.out l[k] (List.getElem_mem Jl);have hs:=Z6.sum_succ l t k Jl;have az:=af.out k hk;have a0:=af.out (k+1) Jl;have av:(l.take k).length≤1000:=by rw[List.length_take];omega
   have aw:(l.take (k+1)).length≤1000:=by rw[List.length_take];omega
   generalize l[k]=c at hj u hs;have e0:=hj 0 _ rfl;have e1:=hj 1 _ rfl;have e2:=hj 2 _ rfl;simp only[Nat.add_zero]at e0;have k0:(0:Int)≤(k:Int):=by omega
   have k1:(k:Int)<(l.length:Int):=by omega
   obtain⟨n,hn⟩:∃n,min t c.l=n:=⟨_,rfl⟩;obtain⟨d,hd⟩:∃d,t-n=d:=⟨_,rfl⟩;have ab:c.at t=c.f*n+c.r*d:=by unfold Z6.at;rw[hn,hd]
   have aj:=c.at_le u t HT.out;rw[hn,hd]at aj;have ht:=HT.out;have al:=u.hf;have am:=u.hr;have a3:=u.hl;have M1:=fun w'=>Uz c.f n w' (by omega) (by omega);have M2:=fun w'=>Uz c.r d w' (by omega) (by omega);have J:=fun w'=>Qjl (c.f*n) (c.r*d) w' (by omega);have V:=fun w'=>Qjl (Z6.sum (l.take k) t) (c.f*n+c.r*d) w' (by omega);rw[←HV.out.1,←HV.out.2]at V;rw[←ab,←hs]at V;have z:IntKind.u64.wrap ((t:Int)-(n:Int))=(d:Int):=by rw[Qcu _ (by omega) (by omega)];omega
   have HN:=O hn;clear hn aj al am a3 hs az a0 av aw hd;obtain⟨r1,ac⟩:∃r1,((Z6.sum (l.take (k+1)) t/18446744073709551616:Nat):Int)=r1:=⟨_,rfl⟩;obtain⟨r2,ae⟩:∃r2,((Z6.sum (l.take (k+1)) t%18446744073709551616:Nat):Int)=r2:=⟨_,rfl⟩;rw[ac,ae]at V;rw[ab]at V;have a5:=O (And.intro ac.symm ae.symm);clear ac ae ab;generalize((c.f*n/18446744073709551616:Nat):Int)=x1 at M1 J;generalize((c.f*n%18446744073709551616:Nat):Int)=x2 at M1 J;generalize((c.r*d/18446744073709551616:Nat):Int)=y1 at M2 J;generalize((c.r*d%18446744073709551616:Nat):Int)=y2 at M2 J;generalize(((c.f*n+c.r*d)/18446744073709551616:Nat):Int)=z1 at J V;generalize(((c.f*n+c.r*d)%18446744073709551616:Nat):Int)=z2 at J V;have au:=O M1;have ay:=O M2;have ar:=O J;have ap:=O V;have ai:=O z;have HB:=O (And.intro B hc);have a7:=O u;have G0:∀x,Qc Qb (wr.alloc (.cells #[.int .u64 (c.f:Int),.int .u64 (c.l:Int),.int .u64 (c.r:Int)] 38)) (Qw Qb (wr.alloc (.cells #[.int .u64 (c.f:Int),.int .u64 (c.l:Int),.int .u64 (c.r:Int)] 38)) x):=fun x=>Qu _ _ _;have g1:=fun x=>(fun h=>((h.blk (B.alloc _) (fun h=>h))).cell 0) (G0 x);have g2:=fun x=>(fun h=>((h.blk (B.alloc _) (fun h=>h))).cell 1) (G0 x);have g3:=fun x=>(fun h=>((h.blk (Qh.new wr #[.int .u64 (c.f:Int),.int .u64 (c.l:Int),.int .u64 (c.r:Int)] 38) (fun h=>h))).cell 0) (G0 x);have g4:=fun x=>(fun h=>((h.blk (Qh.new wr #[.int .u64 (c.f:Int),.int .u64 (c.l:Int),.int .u64 (c.r:Int)] 38) (fun h=>h))).cell 1) (G0 x);have g5:=fun x=>(fun h=>((h.blk (Qh.new wr #[.int .u64 (c.f:Int),.int .u64 (c.l:Int),.int .u64 (c.r:Int)] 38) (fun h=>h))).cell 2) (G0 x);have Z:=O (fun(w':World)(h:Qc Qb (wr.alloc (.cells #[.int .u64 (c.f:Int),.int .u64 (c.l:Int),.int .u64 (c.r:Int)] 38)) w')=>And.intro (((h.blk (B.alloc _) (fun h=>h))).frozen 0) (And.intro (((h.blk (B.alloc _) (fun h=>h))).frozen 1) (And.intro (((h.blk (B.alloc _) (fun h=>h))).cell 0) (((h.blk (B.alloc _) (fun h=>h))).cell 1))));simp at g1 g2 g3 g4 g5 Z;have a8:=B.lt;clear B hc u I E hj M1 M2 J V z ht;go_upto_region 5 with(fail);go_cut [8] (fun s8 wx=>s8=.int .u64 (n:Int)∧wx=wr.alloc (.cells #[.int .u64 (c.f:Int),.int .u64 (c.l:Int),.int .u64 (c.r:Int)] 38))
   case first=>
    go_wp2;all_goals go_meet
    all_goals exact⟨by rw[←HN.out];congr 1;omega,rfl⟩
   case rest=>
    obtain⟨rfl,rfl⟩:=hcut;go_wp2;have z:=ai.out;refine Qr [3,7,8] [0,1,2,5,6,9] [4,10,11,12] [13] (Qw (Qb) (wr.alloc (.cells #[.int .u64 (c.f:Int),.int .u64 (c.l:Int),.int .u64 (c.r:Int)] 38))) (by kernel_rfl) (by kernel_rfl) ?_ (Qd (by(repeat' (first|(with_reducible first|exact Zg _ _|assumption|refine Zh ?_ _|refine Zi ?_ _|refine Zj ?_ |refine Zk ?_ _ ?_ |(apply Or.inl;rfl))|(apply Or.inl;simp;done)|(apply Or.inr;simp;first|done|omega))))) ?_;·exact fun _ _ _ _ _ h=>h
    simp only[pick,Zf,Ze,Zd];iterate 3 (refine Ql (fun K hK=>?_);go_simp;refine hK _ ?_;clear hK K)
    refine Qf ?_;iterate 6 (refine Ql (fun K hK=>?_);go_simp;refine hK _ ?_;clear hK K)
    refine Qf ?_;intro _ aq;obtain⟨xo,ak⟩:=aq;subst ak;simp only[Zn];have c3:=Qu Qb (wr.alloc (.cells #[.int .u64 (c.f:Int),.int .u64 (c.l:Int),.int .u64 (c.r:Int)] 38)) xo;generalize Qw Qb (wr.alloc (.cells #[.int .u64 (c.f:Int),.int .u64 (c.l:Int),.int .u64 (c.r:Int)] 38)) xo=w3 at c3⊢;clear g1 g2 g3 g4 g5 z;go_wp2_with fail;refine(au.out _).mono ?_;rintro e w4⟨rfl,d4⟩;have c4:=c3.trans' d4;clear d4 c3;go_wp2;refine⟨Qd c4,?_⟩;go_wp2_with fail;refine(ay.out _).mono ?_;rintro e w5⟨rfl,d5⟩;have c5:=c4.trans' d5;clear d5 c4;go_wp2;refine⟨Qd c5,?_⟩;go_wp2_with fail;refine(ar.out _).mono ?_;rintro e w6⟨rfl,d6⟩;have c6:=c5.trans' d6;clear d6 c5;go_wp2;refine⟨Qd c6,?_⟩;go_wp2_with fail;refine(ap.out _).mono ?_;rintro e w7⟨rfl,d7⟩;have c7:=c6.trans' d7;clear d7 c6;go_wp2;refine⟨Qd c7,?_⟩;have K7:=Z.out _ c7;obtain⟨f1,f2,f3,f4⟩:=K7;have C7:=O c7;clear c7;go_wp2;go_roundw
    case rel=>
     refine⟨k+1,r1,r2,by omega,by go_num,?_,?_,a5⟩;·exact((C7.out.blk (HB.out.1.alloc _) (fun h=>h)).set 0 _).set 1 _
     ·have h7:=(((Qc.refl Qb wr).alloc _).trans' C7.out);have h8:=HB.out.2.trans h7 (fun k h=>h.elim);(repeat' (first|(with_reducible first|exact Zg _ _|assumption|refine Zh ?_ _|refine Zi ?_ _|refine Zj ?_ |refine Zk ?_ _ ?_ |(apply Or.inl;rfl))|(apply Or.inl;simp;done)|(apply Or.inr;simp;first|done|omega)))
    case measure=>simp[intOf];omega
  ·obtain rfl:k=l.length:=by omega
   rw[List.take_length]at HV;have c0:=B.cell 0;have c1:=B.cell 1;have q:=hc.blk B0.out (by omega);have ql:=q.lt;have q0:=q.cell 0;have q1:=q.cell 1;have qf:=q.frozen;simp at c0 c1 q0 q1;have HB:=O (And.intro B hc);clear B hc q;go_wp2;refine bodyPost_ret (v:=.agg #[.int .u64 hi,.int .u64 lo]) (by simp[results,Tryz.results231,go_sem,q0,q1]) rfl ⟨by rw[HV.out.1,HV.out.2],?_⟩;have c1:=(((((Qc.refl Qb w).alloc _).alloc _).trans' ah.out)).trans HB.out.2 (fun k hk=>.inr (by have a9:k=w.heap.size+1:=hk;omega));(repeat' (first|(with_reducible first|exact Zg _ _|assumption|refine Zh ?_ _|refine Zi ?_ _|refine Zj ?_ |refine Zk ?_ _ ?_ |(apply Or.inl;rfl))|(apply Or.inl;simp;done)|(apply Or.inr;simp;first|done|omega)))
end
section
open Go.Maps Go.Shelf
theorem Qx9(w:World):(zeroValue 3).run prog w=.ok (.int .i64 0) w:=by kernel_rfl
theorem Qze(n:Nat)(h:n<18446744073709551616):(Lit.int .u64 (n:Int)).wf=true:=by
 have h1:IntKind.u64.min=0:=by kernel_rfl
 have c:IntKind.u64.max=18446744073709551615:=by kernel_rfl
 simp[Lit.wf,h1,c];omega
theorem Qy2(n:Nat)(h:n<18446744073709551616):keyOf prog 29 (.int .u64 (n:Int))=some (.int .u64 (n:Int)):=keyOf_int_mk underlying29 (Qze n h)
theorem World.ownsMap.kept'{H:Type}{P:Program}{k:TypeId}{R:Value→Option (DataW H×List MemPlace)}{w w':World}{b n:Nat}{D:DataW H}{S:Nat→Prop}(h:w.ownsMap P k R b n D)(hc:Qc S w w')(u:¬S b:=by exact fun h=>h):w'.ownsMap P k R b n D:=by have d:=h.lt;obtain⟨q,c,z,B,hs,E⟩:=h;exact⟨q,c,(hc.block b d u).trans z,B,hs,E⟩
def Qey{H:Type}(l:List Z6)(D:DataW H):Prop:=∀x:Int,has D (.int .u64 x)=true↔∃c∈l,x=(c.l:Int)
theorem Qey.put{H:Type}{l:List Z6}{D:DataW H}(h:Qey l D)(u:IsMap D)(c:Z6)(q:WideAt.IsKeyLit (.int .u64 (c.l:Int)))(d:DataW H):Qey (l++[c]) (D.put (.int .u64 (c.l:Int)) d):=by
 intro x;by_cases k:x=(c.l:Int);·subst k;rw[has_put_same u q];simp
 ·rw[has_put_other (by simpa using k),h x];simp[k]
theorem u64T:Qkf prog (fun x:Int=>[Value.int .u64 x]) 1 64 29 8 0 where
 ht:=underlying64
 hi:=Lu (by kernel_rfl)
 pos:=by decide
 hc:=fun _=>rfl
 one:=by intro p u c;simp only[List.mem_cons,List.not_mem_nil,or_false]at c;subst c;rfl
theorem Qzx(l:List Int):Zr (fun x:Int=>[Value.int .u64 x]) l=l.map (Value.int .u64):=by
 induction l with
 |nil=>rfl
 |cons x l c=>rw[Ko,c];rfl
theorem Qna{w:World}{base:Nat}{v:Value}{l:List Int}(h:w.ownsRow base 29 1 v l.length (l.map (Value.int .u64))):Own (fun x:Int=>[Value.int .u64 x]) 1 29 w v l:=by
 unfold Own;rw[Qzx];obtain⟨h0,h⟩:=h;refine⟨h0,?_⟩;rcases h with h|⟨g,cap,c,e,d,r⟩;·exact .inl h
 ·exact .inr ⟨g,cap,c,e,Nat.zero_le _,r⟩
theorem Qwi{w:World}{g:Nat}(h:Qh w g #[.int .u64 0] 29):Own (fun x:Int=>[Value.int .u64 x]) 1 29 w (.slice (some ⟨g,0,none⟩) 1 1) [0]:=
 ⟨by rfl,.inr ⟨g,1,#[.int .u64 0],rfl,Nat.zero_le _,h,Nat.le_refl _,by simp[maxLen],by simp,by simp[Zr]⟩⟩
theorem Qzf{p q:Int}:∀c:List Int,c.Nodup→(∀x∈c,x=p∨x=q)→c.length≤2
 |[],_,_=>by simp
 |[x],_,_=>by simp
 |[x,y],_,_=>by simp
 |x::y::z::r,hn,hm=>by have h1:=hm x (by simp);have k:=hm y (by simp);have u:=hm z (by simp);simp only[List.nodup_cons,List.mem_cons,not_or]at hn;obtain⟨⟨d,B,_⟩,⟨E,_⟩,_⟩:=hn;omega
theorem Qky(a b:Z6)(ad:Addr)(cap:Nat)(w:World)(U:Yr Z6.cells 3 w (some ad) [a,b])(ha:a.May)(hb:b.May):
  Cl 230 #[.slice (some ad) 2 cap] w fun e w'=>∃(v:Value)(ts:List Int),e=.returned v∧Own (fun x:Int=>[Value.int .u64 x]) 1 29 w' v ts∧ts.length≤3∧(∀x,x∈ts↔x=0∨x=a.l∨x=b.l)∧Qc Qb w w':=by
 have ab:∀c∈[a,b],c.May:=by intro c hc;simp at hc;rcases hc with rfl|rfl<;>assumption
 have M:=O (fun w'(c:Qc Qb w w')=>Qeb [a,b] ad cap w' (U.keep c (fun _ _ h=>h)) (by simp) (by simp) ab);obtain⟨l,hl⟩:∃l,[a,b]=l:=⟨_,rfl⟩;have aa:l.length=2:=by rw[←hl];rfl
 have ao:=O ab;rw[hl]at ao M;rw[aa]at M;have HL:=O hl;clear U ab hl;have a4:=fun(w:World)=>run_makeMap (P:=prog) 304 w;go_enter func230,ntmps230;go_wp2_with fail;refine(M.out _ (by(repeat' (first|(with_reducible first|exact Zg _ _|assumption|refine Zh ?_ _|refine Zi ?_ _|refine Zj ?_ |refine Zk ?_ _ ?_ |(apply Or.inl;rfl))|(apply Or.inl;simp;done)|(apply Or.inr;simp;first|done|omega))))).mono ?_;rintro e w1⟨v,rfl,h1,h2,h3⟩;have R:=h1.row Z6.cells_length;obtain⟨a1,ar,rfl,az,aw,ae⟩:=R;rw[aa];have af:w1.ownsMap prog 29 (plainElem (H:=Unit) prog 3) w.heap.size 0 (.map []):=World.ownsMap.kept' (World.ownsMap_made w prog 29 _) h2;have ai:=O h2;have HR:=O (And.intro h1 (And.intro h3 af));clear h1 h2 h3 ae aw az a4;go_wp2;go_loopw [5,10] (fun _ i wr=>∃(k n:Nat)(D:DataW Unit),k≤2∧i=.int .i64 k∧n≤k∧wr.ownsMap prog 29 (plainElem prog 3) w.heap.size n D∧Qey (l.take k) D∧Qc (fun b=>b=w.heap.size) w1 wr) (fun _ i _=>2-(intOf i).toNat);case atStart=>exact⟨0,0,.map [],by omega,rfl,by omega,HR.out.2.2,fun x=>by simp[has],Qc.refl _ _⟩
 case round=>
  obtain⟨k,n,D,V,rfl,hn,hm,hD,hc⟩:=hrel;rename_i wr;by_cases Jl:k<2
  ·have B:k<l.length:=by omega
   have K:Own Z6.cells 3 38 wr (.slice a1 l.length ar) l:=HR.out.1.keep hc (fun j hj e=>by have:=HR.out.2.1 j hj;simp at this;omega);obtain⟨a2,a5,e2,_,_,E⟩:=K.row Z6.cells_length;injection e2 with a3 a8 ay;subst a3 ay;obtain⟨g,o,rfl,hj⟩:=E k B;have ac:=ao.out l[k] (List.getElem_mem B);have Z:l.take (k+1)=l.take k++[l[k]]:=List.take_succ_eq_append_getElem B;generalize l[k]=c at hj ac Z;have e0:=hj 0 _ rfl;have e1:=hj 1 _ rfl;have e2:=hj 2 _ rfl;simp only[Nat.add_zero]at e0;have k0:(0:Int)≤(k:Int):=by omega
   have k1:(k:Int)<2:=by omega
   have z:=Qy2 c.l (by have:=ac.hl;omega);have J:=O (And.intro hm (And.intro hD (And.intro hc Z)));clear hm hD hc ac K E hj Z;go_wp2_with (first
    |(at_lookup;refine wpList_lookup_own_int _ rfl (.tmp 14) (.tmp 16) 304 rfl 29 3 .i64 law64 underlying304 underlying3 (Qx9 _) _ n D rfl (J.out.1.alloc _) _ _ rfl z ?_;intro cc a7 a9)
    |(at_mapUpdate;refine wpList_mapUpdate_own _ rfl (.tmp 14) (.tmp 16) (.tmp 18) 304 rfl 29 3 law64 underlying304 (plainElem prog 3) _ n D rfl (J.out.1.alloc _) (by simp[maxLen];omega) _ _ _ rfl rfl z _ [] (plainElem_int underlying3 (Go.RowKit.wrap64_wf _)) ?_;intro w5 aj al))
   have d5:=((Qc.refl Qb wr).alloc (.cells #[.int .u64 (c.f:Int),.int .u64 (c.l:Int),.int .u64 (c.r:Int)] 38)).mono (S':=fun b=>b=w.heap.size) (fun k h=>h.elim);have c5:=J.out.2.2.1.trans' (d5.grown al (fun k V=>.inl (by simpa using V.symm)));have l5:=J.out.2.1.put J.out.1.isMap c (law64.key z) (.lit (.int .i64 (Go.RowKit.wrap64 (cc+1))));rw[←J.out.2.2.2]at l5;have H5:=O (And.intro aj (And.intro l5 c5));clear aj al d5 c5 l5;go_wp2;go_roundw;case rel=>exact⟨k+1,n+1,_,by omega,by go_num,by omega,H5.out.1,H5.out.2.1,H5.out.2.2⟩
   case measure=>simp[intOf];omega
  ·obtain rfl:k=2:=by omega
   have J:=O (And.intro hm (And.intro hD hc));clear hm hD hc;go_wp2_with (at_delete;refine wpList_delete_own _ rfl (.tmp 20) (.const (.int .u64 0)) 304 29 rfl 3 law64 underlying304 (plainElem prog 3) _ n D rfl J.out.1 _ _ rfl (Qy2 0 (by decide)) ?_;intro I ag ah);have c6:=(J.out.2.2.grown ah.grown (fun k V=>.inl (by simpa using V.symm)));have ap:∀x:Int,has (D.del (.int .u64 ((0:Nat):Int))) (.int .u64 x)=true↔x≠0∧(x=(a.l:Int)∨x=(b.l:Int)):=by
    intro x;have am:=J.out.2.1 x;rw[←aa,List.take_length,←HL.out]at am;by_cases hx:x=0;·subst hx;rw[show(Lit.int .u64 ((0:Nat):Int))=.int .u64 0 from rfl,has_del_same];simp
    ·rw[has_del_other (by simpa using hx),am];simp[hx]
   have H6:=O (And.intro ag (And.intro ap c6));clear ag ah c6 ap;go_wp2_with fail;refine(callsIn_wide.1 (Qwg Fence.wide 0 trivial rfl _ _)).mono ?_;rintro e w7⟨rfl,rfl⟩;have SS:=O (Qkv (I.heap.size+1) w.heap.size n (D.del (.int .u64 ((0:Nat):Int))) ((I.alloc (.cells #[.int .u64 0] 29)).alloc (.cells #[.map (some w.heap.size)] 304)) (by have:=H6.out.1.size_le;simp only[maxLen];omega) (by have:=H6.out.1.size_le;omega)
    (fun ss h1 h2=>Qzf (p:=a.l) (q:=b.l) ss h1 (fun x hx=>(((H6.out.2.1 x).1 ((h2 x).1 hx)).2))) (by simp) ((Qh.new' (w:=I.alloc (.cells #[.int .u64 0] 29)) (n:=I.heap.size+1) #[.map (some w.heap.size)] 304 (by simp)).cell 0) ((H6.out.1.alloc _).alloc _))
   go_wp2_with fail;refine(SS.out).mono ?_;rintro e w8⟨v,ss,rfl,h1,h2,h3,h4⟩;obtain⟨av,an,ax,_,aq,u⟩:=(Qna h1).row u64T.hc;subst ax;have hO:Own (fun x:Int=>[Value.int .u64 x]) 1 29 w8 (.slice (some ⟨I.heap.size,0,none⟩) 1 1) [0]:=Qwi (((Qh.new I #[.int .u64 0] 29).alloc (.cells #[.map (some w.heap.size)] 304))|>(Qc.ofBelow (S:=Qb) h4).blk <|(fun h=>h));have c8:Qc Qb w w8:=by have d2:Qc Qb w I:=(((Qc.refl Qb w).alloc (.map #[] 0)).trans' ai.out).trans H6.out.2.2 (fun k V=>.inr (by have au:k=w.heap.size:=V;omega));exact((d2.alloc _).alloc _).trans' (Qc.ofBelow h4)
   have HH:=O (And.intro u (And.intro aq (And.intro hO (And.intro h3 c8))));have a6:=h2;clear h1 h3 h4 u aq hO c8;go_wp2_with (at_builtin;refine Jf u64T rfl (.tmp 21) (.tmp 24) rfl (.slice (some ⟨I.heap.size,0,none⟩) 1 1) [0] rfl HH.out.2.2.1 av an ss rfl HH.out.2.1 HH.out.1 (by simp[maxLen];omega) (by simp;omega) ?_;intro v' w9 d ak a0);have H9:=O (And.intro d ak);clear d ak a0;go_wp2;go_ret;refine⟨_,[0]++ss,rfl,H9.out.1,by simp;omega,fun x=>?_,?_⟩;·rw[List.mem_append,HH.out.2.2.2.1 x,H6.out.2.1 x];simp only[List.mem_cons,List.not_mem_nil,or_false];by_cases hx:x=0<;>simp[hx]
   ·refine HH.out.2.2.2.2.trans H9.out.2 (fun k V=>.inr ?_);have au:I.heap.size=k:=by simpa[Value.ownBlock]using V
    have h5:w.heap.size+1≤w1.heap.size:=by simpa using ai.out.size
    have h6:w1.heap.size≤I.heap.size:=H6.out.2.2.size;omega
end
end Go.Proofs.YtnnhmpehkbihnaaGreat
