/- A part of the proof: no condition. -/
import Derived.RangeFuncBox
import Derived.RangeFuncLeaves
import Derived.RangeFuncStops
import Derived.RangeFuncMany
import Derived.Sort.MapsRangeIn
import Derived.Sort.KeysCollected
import Derived.Shelf.Abstract
import Derived.OwnWalkIn
import Derived.TacticsInMore
import Derived.RegionIn
import Derived.LoopNIn
import Derived.LoopIn
import Derived.RangeFuncWrites
import Derived.RegionTactic
import Derived.ChangeAlike
import Derived.Test.YtigcnnkagkbflaaGreatUo10
import Derived.Maps.OwnOps
import Derived.Maps.OwnSet
import Derived.Test.YtigcnnkagkbflaaGreatUo11
import Derived.Laws.EntriesVeiled
import Derived.Test.YtigcnnkagkbflaaGreatUo06
import Derived.Test.YtigcnnkagkbflaaGreatUo04
namespace Go.Proofs.YtigcnnkagkbflaaGreat
set_option linter.unusedVariables false
set_option maxRecDepth 100000
set_option maxHeartbeats 4000000
open Go.RowKit
open Go.Proofs.Tryz
attribute [local go_sem] Qp
section
open Go.Maps Go.Shelf
attribute [local go_sem] Oper.semAt_some
theorem law64:Keyed prog 22:=int_keyed underlying22
theorem Qde{key:Value}{c:Lit}(h:keyOf prog 22 key=some c):∃x:Int,key=.int .u64 x/\c=.int .u64 x/\(Lit.int .u64 x).wf=true:=by have d:=underlying22;cases key<;>simp[keyOf,d,mapKey]at h;obtain⟨⟨rfl,k⟩,rfl⟩:=h;exact⟨_,rfl,rfl,k⟩
def Ag{H:Type}(d:DataW H)(left:Lit->Bool)(c:List Int):Prop:=c.Nodup/\∀x,x∈c↔(has d (.int .u64 x)=true/\left (.int .u64 x)=false)
theorem Ag.start{H:Type}(c:DataW H):Ag c (has c) []:=⟨List.nodup_nil,λx=>by cases has c (.int .u64 x)<;>simp⟩
theorem Ag.step{H:Type}{k:DataW H}{left:Lit->Bool}{B:List Int}(h:Ag k left B){x:Int}{y:DataW H}(u:left (.int .u64 x)=true)(q:∀K,k.atKey (.int .u64 x) K=y):
  Ag k (λz=>left z&&!z.sameKey (.int .u64 x)) (B++[x]):=by
 have c:has k (.int .u64 x)=true:=has_true_of_atKey q;have d:x∉B:=λJ=>by have:=((h.2 x).1 J).2;rw[u]at this;cases this
 refine⟨List.nodup_append.2 ⟨h.1,by simp,λa ha b E=>by simp at E;subst E;exact λe=>d (e▸ha)⟩,λy=>?_⟩;by_cases I:y=x;·subst I;simp[c,Lit.sameKey]
 .simp[h.2 y,I,Lit.sameKey]
theorem Qrx(F:Fence)(n:Nat)(k:F.fn 274)(c:F.round=none)(d:Option Nat)(w):
  CallsIn F n prog 274 #[.map d] w λe w'=>e=.returned (.func (.func 286) #[] #[.pointer (some ⟨w.heap.size,0,none⟩)])/\w.alloc (.cells #[.map d] 346)=w':=by
 refine callsIn_of_wp func274 rfl k ?_ c;simp only[ntmps274,List.size_toArray,Zm,List.length_nil,Nat.reduceAdd,Nat.reduceSub,Array.replicate_succ,Array.replicate_zero,List.push_toArray,List.append_toArray,List.nil_append,List.cons_append];gi_wp2;go_ret;exact⟨rfl,rfl⟩
theorem Qo6{H:Type}(F:Fence)(n:Nat)(ae:F.fn 286)(ao:F.round=none)(hn:1<=n)(l Bm b nn:Nat)(u:DataW H){R:Value->Option (DataW H×List MemPlace)}(J Jx:List Int->World->Prop)
  (hY:∀k x W,J k W->k.length<Maps.size u->YieldAt F (n-1) prog l #[.int .u64 x] W λe E=>
   (e=.returned (.bool true)/\J (k++[x]) E/\KeepsWalks W E)\/(e=.returned (.bool false)/\Jx (k++[x]) E))
  (W:World) (hJ:AbidesFrom W.heap.size J) (hm:W.cell? ⟨Bm,0,none⟩=some (.map (some b))) (Z:W.ownsMap prog 22 R b nn u) (h0:J [] W):
  CallsIn F n prog 286 #[.func (.yield l) #[] #[],.pointer (some ⟨Bm,0,none⟩)] W λe E=>(∃v,e=.returned v)/\
   ((∃d:List Int,(d.Nodup/\∀x,x∈d↔has u (.int .u64 x)=true)/\J d E)\/(∃k:List Int,True/\Jx k E)):=by
 refine callsIn_of_wp func286 rfl ae ?_ ao;simp only[ntmps286,List.size_toArray,Zm,List.length_nil,Nat.reduceAdd,Nat.reduceSub,Array.replicate_succ,Array.replicate_zero,List.push_toArray,List.append_toArray,List.nil_append,List.cons_append];gi_wp2_with (first
  |(gi_at_range;refine wpListIn_range_own _ rfl _ 346 rfl 22 3 law64 underlying346 _ b nn _ rfl Z ?_;intro w0 aa aj ax)
  |gi_in)
 go_frame;gi_loopw [3] (λ_ wr=>∃(left:Lit->Bool)(z:Nat)(d:List Int),wr.ranges prog 22 R b W.heap.size nn u left z/\d.length+z<=Maps.size u/\Ag u left d/\J d wr)
  (λ_ wr=>wr.rangeLeft b W.heap.size)
 case atStart=> exact⟨_,_,[],aa,by simp,Ag.start u,hJ [] W w0 none h0 aj (λr e=>by cases e)⟩
 case round=>
  obtain⟨left,z,d,B,av,hC,K⟩:=hrel;gi_wp2_with (first
   |(gi_at_next;refine wpListIn_next_ranges _ rfl _ rfl 22 law64 R (Value.int .u64) id (λkey kl hk=>by obtain⟨x,hx,_⟩:=Qde hk;exact⟨x,hx⟩) (λv _ _=>⟨v,rfl⟩) b W.heap.size nn _ _ _ rfl B ?_ ?_)
   |gi_in)
  .intro au am;gi_wp2;go_end0;exact⟨⟨_,rfl⟩,.inl ⟨d,⟨hC.1,λx=>by rw[hC.2 x,am];simp⟩,K⟩⟩
  .intro x c kl yd yp w2 I V an hv ai ab Xg ak ap aw;obtain⟨x',ex,rfl,_⟩:=Qde V;obtain rfl:x=x':=by simpa using ex
   have ag:J d w2:=hJ d wr w2 (some W.heap.size) K ak (λr e=>by cases e;exact⟨Zv _,B.iter_walk⟩);obtain⟨fn,ar,ac,aq,hy,hR⟩:=hY d x w2 ag (by omega);clear ap;gi_wp2;refine hR.mono ?_;have af:=hC.step an ai;rintro e W3(⟨rfl,ah,al⟩|⟨rfl,U⟩)
   .gi_wp2;have q:=ab.of_walks al;go_roundw;case rel=>exact⟨_,I,d++[x],q,by simp;omega,af,ah⟩
    case measure=>rw[q.left_eq,B.left_eq];exact Xg
   .gi_wp2;refine WA rfl rfl ?_;exact⟨⟨_,rfl⟩,.inr ⟨d++[x],trivial,U⟩⟩
theorem Qhu{H:Type}(F:Fence)(n:Nat)(z:F.fn 286)(I:F.round=none)(hn:1<=n)(q b K:Nat)(u:DataW H){R:Value->Option (DataW H×List MemPlace)}(w:World)(B:q<w.heap.size)
  (hm:w.cell? ⟨q,0,none⟩=some (.map (some b)))(c:w.ownsMap prog 22 R b K u):
  SeqStopsA F n prog 286 #[.pointer (some ⟨q,0,none⟩)] (λx:Int=>#[Value.int .u64 x]) (λV=>V.Nodup/\∀x,x∈V↔has u (.int .u64 x)=true) (λaa=>True) (Maps.size u) w:=λl J Jx W U hJ _ hY h0=>by
 have k:W.ownsMap prog 22 R b K u:=by have E:=c.lt;obtain⟨es,d,hb,Z,hs,hD⟩:=c;exact⟨es,d,(U.block b E).trans hb,Z,hs,hD⟩
 exact Qo6 F n z I hn l q b K u J Jx hY W hJ ((U.cell (p:=⟨q,0,none⟩) B).trans hm) k h0
theorem Qtq:(prog.info? 22).map (λi=>(i.zero,i.size,i.bytes))=some (some (.int .u64 0),1,8):=by kernel_rfl
theorem Qn2{H:Type}(F:Fence)(n:Nat)(h3:F.fn 290)(h5:F.fn 286)(U:F.round=none)(hn:3<=n)(u b nn:Nat)(V:DataW H){R:Value->Option (DataW H×List MemPlace)}(w:World)(ap:Maps.size V<maxLen)(ae:Maps.size V*8+8<=140737488355328)
  (af:u<w.heap.size)(hm:w.cell? ⟨u,0,none⟩=some (.map (some b)))(z:w.ownsMap prog 22 R b nn V):
  CallsIn F n prog 290 #[.slice none 0 0,.func (.func 286) #[] #[.pointer (some ⟨u,0,none⟩)]] w λe W'=>∃(v:Value)(ss:List Int),e=.returned v/\W'.ownsRow w.heap.size 22 1 v ss.length (ss.map (Value.int .u64))/\ss.Nodup/\(∀x,x∈ss↔has V (.int .u64 x)=true)/\Below w.heap.size w W':=by
 have h1:1<=n:=by omega
 obtain⟨i0,hi,al,am,an⟩:=info_parts Qtq;refine callsIn_of_wp_marks func290 rfl h3 ?_ U;simp only[ntmps290,List.size_toArray,Zm,List.length_nil,Nat.reduceAdd,Nat.reduceSub,Array.replicate_succ,Array.replicate_zero,List.push_toArray,List.append_toArray,List.nil_append,List.cons_append];gi_wp2;have bO:=Boxed.new w 296 (.slice none 0 0);have E:Below w.heap.size w (w.alloc (.cells #[.slice none 0 0] 296)):=(Below.refl _ w).alloc (Zv _) _;have J:(w.alloc (.cells #[.slice none 0 0] 296)).ownsMap prog 22 R b nn V:=by have ah:=z.lt;obtain⟨es,B,hb,Ft,hs,hD⟩:=z;exact⟨es,B,(E.block b ah).trans hb,Ft,hs,hD⟩
 refine wpIn_rangeFunc_ownG U h1 (gf:=286) (lb:=#[.pointer (some ⟨u,0,none⟩)]) rfl h5 (enters_of func286 (by kernel_rfl) rfl)
  (Qhu F (n-1) h5 U (by omega) u b nn V _ (by simp;omega) ((E.cell (p:=⟨u,0,none⟩) af).trans hm) J) walksK_t walksK_b (Below.refl _ _) (λ_=>rfl)
  (λ(d:List Int)W=>(∃v,Boxed W w.heap.size 296 v/\W.ownsRow w.heap.size 22 1 v d.length (d.map (Value.int .u64))/\True)/\Below w.heap.size w W)
  (λ_ _ _=>False)
  (OwnFrom.and (Own.from (holdsRow_own w.heap.size w.heap.size 296 22 1 (λ(d:List Int)=>d.length) (λ(d:List Int)=>d.map (Value.int .u64)) (λ(d:List Int)v=>True)) _) (ownFrom_below (Zv _) (by simp)))
  (λ_ _ _ _ _ hs _ _=>hs)
  ⟨⟨_,bO,World.ownsRow_nil _ _ _ _,trivial⟩,E⟩
  (λx=>{tmps:=#[.slice none 0 0,.func (.func 286) #[] #[.pointer (some ⟨u,0,none⟩)],.pointer (some ⟨w.heap.size,0,none⟩),undef,.slice none 0 0,.int .u64 x,.func (.func 286) #[] #[.pointer (some ⟨u,0,none⟩)],.int .u64 x,undef,undef,undef,undef,undef],defers:=[]}) ?assign ?body ?done ?stop
 case assign=> intro l x W K hK;gi_wp2;exact hK
 case body=> rintro l d x W⟨⟨v,hv,k,_⟩,Z⟩Xg;have hc:=hv.cell;gi_wp2_with (gi_at_builtin;refine wpListIn_append_own _ rfl _ _ 296 rfl w.heap.size 22 i0 (.int .u64 0) 1 8 underlying296 hi al am an rfl (by decide) _ _ _ rfl (k.alloc _) ⟨W.heap.size,0,none⟩ 1 1 [.int .u64 x] rfl rfl (cell_one_new _ _ _) (by simp[Value.oneCell']) (by omega) (by omega) (by have:=Z.size;simp;omega) ?_;intro v' w1 q I _;obtain⟨g',ao,rfl⟩:=ownsRow_succ q;obtain⟨ac,ak,aj,aa,ag⟩:=hv.appended (by decide) k Z.size (Zv _) q I;have aq:=ac.cell;have ar:=ac.frozen);exact⟨aa.from _,aa.walks,⟨_,ak,by simpa using aj,trivial⟩,Z.trans ag⟩
 case done=> rintro D ys W hD⟨ai,ab⟩⟨⟨v,hv,k,_⟩,Z⟩hK;have hc:=hv.cell;gi_wp2;refine⟨by simp,.inl ⟨_,_,rfl,run_takeDeferred hK,?_⟩⟩;exact⟨_,results_tmp rfl _ _ _,v,ys,rfl,ownsRow_putObj k _ hK rfl,ai,ab,Z.trans (belowK_b (w:=w) (Zv _) W D _ _ (by simp at hD;omega) hK rfl rfl)⟩
 case stop=> rintro D c d W _ _ h _;exact h.elim
end
section
open Go.Maps Go.Shelf
theorem Qcm{H:Type}(B b nn:Nat)(u:DataW H){R:Value->Option (DataW H×List MemPlace)}(w:World)(d:Maps.size u<maxLen)(c:Maps.size u*8+8<=140737488355328)
  (z:B<w.heap.size)(Z:w.cell? ⟨B,0,none⟩=some (.map (some b)))(k:w.ownsMap prog 22 R b nn u):
  Cl 284 #[.func (.func 286) #[] #[.pointer (some ⟨B,0,none⟩)]] w λe I=>∃(v:Value)(q:List Int),e=.returned v/\I.ownsRow w.heap.size 22 1 v q.length (q.map (Value.int .u64))/\q.Nodup/\(∀x,x∈q↔has u (.int .u64 x)=true)/\Below w.heap.size w I:=by
 have C:=O (callsIn_wide.1 (Qn2 Fence.wide 3 trivial trivial rfl (by omega) B b nn u w d c z Z k));clear d c z Z k;apply WH func284;go_wp2_with fail;refine(C.o).mono ?_;rintro e w1⟨v,q,rfl,J,K,U,V⟩;have E:=O (Zt J (Zt K (Zt U V)));clear J K U V;go_wp2;go_ret;exact⟨v,q,rfl,E.o.1,E.o.2.1,E.o.2.2.1,E.o.2.2.2⟩
theorem Qub(a:Option Addr)(cap:Nat)(k:Int)(d:k<=1)(c:0<=k)(w):Cl 293 #[.slice a k.toNat cap,.int .i64 0,.int .i64 k] w λe w'=>(∃r,e=.returned r)/\w=w':=by apply WH func293;go_wp2;refine wp_loop_rounds 1 ?_;rw[rounds_succ];go_wp2;go_end0;exact⟨⟨_,rfl⟩,rfl⟩
theorem Qnt(a:Option Addr)(cap:Nat)(k c:Int)(q:k<=1)(d:0<=k)(w):Cl 291 #[.slice a k.toNat cap,.int .i64 0,.int .i64 k,.int .i64 c] w λe w'=>(∃r,e=.returned r)/\w=w':=by apply WH func291;go_wp2;refine wp_loop_rounds 1 ?_;rw[rounds_succ];go_wp2_with (go_at_call 293;refine(Qub _ _ _ q d _).mono ?_;rintro e w1⟨⟨r,rfl⟩,rfl⟩);refine WA rfl rfl ?_;exact⟨⟨_,rfl⟩,rfl⟩
theorem Qzh(x y:Int)(w):ZW 299 #[.int .u64 x,.int .u64 y] w (.bool (decide (x<y))) λw'=>w=w':=by apply WH func299;exact WE
theorem Quc(g cap:Nat)(x y:Int)(w:World)(k:w.cell? ⟨g,0,none⟩=some (.int .u64 x))(q:w.cell? ⟨g,1,none⟩=some (.int .u64 y))(d:∀i,w.frozen? ⟨g,i,none⟩=false)(Xg:x<=y):
  Cl 293 #[.slice (some ⟨g,0,none⟩) 2 cap,.int .i64 0,.int .i64 2] w λe w'=>(∃r,e=.returned r)/\Qc Qb w w':=by
 have L:=O (Qzh y x);have c:decide (y<x)=false:=by simp;omega
 rw[c]at L;clear Xg c;apply WH func293;go_wp2;refine wp_loop_rounds 2 ?_;rw[rounds_succ];go_wp2;refine wp_loop_rounds 1 ?_;rw[rounds_succ];go_wp2;go_quiet ((go_at_call 299;exact Qbe (L.o _)));go_wp2;rw[rounds_succ];go_wp2;go_end0;refine⟨⟨_,rfl⟩,?_⟩;(exact Z0)
theorem Qsq(g cap:Nat)(x y:Int)(w:World)(k:w.cell? ⟨g,0,none⟩=some (.int .u64 x))(q:w.cell? ⟨g,1,none⟩=some (.int .u64 y))(d:∀i,w.frozen? ⟨g,i,none⟩=false)(Xg:y<x):
  Cl 293 #[.slice (some ⟨g,0,none⟩) 2 cap,.int .i64 0,.int .i64 2] w λe w'=>(∃r,e=.returned r)/\∃n m,(((w.drewN n).setCell ⟨g,1,none⟩ (.int .u64 x)).setCell ⟨g,0,none⟩ (.int .u64 y)).drewN m=w':=by
 have L:=O (Qzh y x);have c:decide (y<x)=true:=by simp;omega
 rw[c]at L;clear Xg c;apply WH func293;go_wp2;refine wp_loop_rounds 2 ?_;rw[rounds_succ];go_wp2;refine wp_loop_rounds 2 ?_;rw[rounds_succ];go_wp2;go_quiet ((go_at_call 299;exact Qbe (L.o _)));go_wp2;go_region;all_goals go_wp2
 rw[rounds_succ];go_wp2;go_quiet (fail);go_wp2;rw[rounds_succ];go_wp2;go_end0;exact⟨⟨_,rfl⟩,_,_,rfl⟩
theorem Qqc(g cap:Nat)(x y:Int)(t:TypeId)(cs:List Value)(w)(c:Qh w g (.int .u64 x:: .int .u64 y::cs).toArray t):
  Cl 293 #[.slice (some ⟨g,0,none⟩) 2 cap,.int .i64 0,.int .i64 2] w λe w'=>(∃r,e=.returned r)/\Qh w' g (.int .u64 (min x y):: .int .u64 (max x y)::cs).toArray t/\Qc (λk=>k=g) w w':=by
 rcases Int.lt_or_le y x with h|h
 .refine(Qsq g cap x y w (c.cell 0) (c.cell 1) c.frozen h).mono λe w' d=>?_;obtain⟨q,n,m,rfl⟩:=d;refine⟨q,?_,?_⟩;·rw[Int.min_eq_right (Int.le_of_lt h),Int.max_eq_left (Int.le_of_lt h)];exact(((c.drewN n).set' 1 _ rfl).set' 0 _ rfl).drewN m
  ·(exact Z0)
 .refine(Quc g cap x y w (c.cell 0) (c.cell 1) c.frozen h).mono λe w' d=>?_;rw[Int.min_eq_left h,Int.max_eq_right h];exact⟨d.1,d.2.blk c (λh=>h),d.2.mono λk h=>h.elim⟩
theorem Qqd(g cap:Nat)(x y c:Int)(t:TypeId)(cs:List Value)(w)(u:Qh w g (.int .u64 x:: .int .u64 y::cs).toArray t):
  Cl 291 #[.slice (some ⟨g,0,none⟩) 2 cap,.int .i64 0,.int .i64 2,.int .i64 c] w λe w'=>(∃r,e=.returned r)/\Qh w' g (.int .u64 (min x y):: .int .u64 (max x y)::cs).toArray t/\Qc (λk=>k=g) w w':=by
 have I:=O (Qqc g cap x y t cs w u);clear u;apply WH func291;go_wp2;refine wp_loop_rounds 1 ?_;rw[rounds_succ];go_wp2_with (go_at_call 293;apply Zo I;rintro e w1⟨⟨r,rfl⟩,d,q⟩;have H:=O (Zt d q);clear d q);refine WA rfl rfl ?_;exact⟨⟨_,rfl⟩,H.o.1,H.o.2⟩
theorem Aq(k:Nat)(c:k<=2)(w):Cl 143 #[.int .u64 k] w λe w'=>(∃r,e=.returned (.int .i64 r))/\w=w':=by
 obtain rfl|rfl|rfl:k=0\/k=1\/k=2:=by omega
 all_goals
  apply WH func143;go_wp2;go_ret;exact⟨⟨_,rfl⟩,rfl⟩
theorem Qbx(a:Option Addr)(cap k:Nat)(d:k<=1)(w):Cl 285 #[.slice a k cap] w λe w'=>(∃r,e=.returned r)/\w=w':=by
 obtain rfl|rfl:k=0\/k=1:=by omega
 .have P:=O (λc w=>Qnt a cap 0 c (by omega) (by omega) w);apply WH func285;go_wp2_with fail;refine(Aq 0 (by omega) _).mono ?_;rintro e w0⟨⟨c,rfl⟩,rfl⟩;go_wp2_with fail;refine(P.o _ _).mono ?_;rintro e w1⟨⟨r,rfl⟩,rfl⟩;go_wp2;go_end0;exact⟨⟨_,rfl⟩,rfl⟩
 .have P:=O (λc w=>Qnt a cap 1 c (by omega) (by omega) w);apply WH func285;go_wp2_with fail;refine(Aq 1 (by omega) _).mono ?_;rintro e w0⟨⟨c,rfl⟩,rfl⟩;go_wp2_with fail;refine(P.o _ _).mono ?_;rintro e w1⟨⟨r,rfl⟩,rfl⟩;go_wp2;go_end0;exact⟨⟨_,rfl⟩,rfl⟩
theorem Qmj(g cap:Nat)(x y:Int)(t:TypeId)(cs:List Value)(w)(u:Qh w g (.int .u64 x:: .int .u64 y::cs).toArray t):
  Cl 285 #[.slice (some ⟨g,0,none⟩) 2 cap] w λe w'=>(∃r,e=.returned r)/\Qh w' g (.int .u64 (min x y):: .int .u64 (max x y)::cs).toArray t/\Qc (λk=>k=g) w w':=by
 have P:=O (λc=>Qqd g cap x y c t cs w u);clear u;apply WH func285;go_wp2_with fail;refine(Aq 2 (by omega) _).mono ?_;rintro e w0⟨⟨c,rfl⟩,rfl⟩;go_wp2_with fail;refine(P.o _).mono ?_;rintro e w1⟨⟨r,rfl⟩,d,q⟩;have H:=O (Zt d q);clear d q;go_wp2;go_end0;exact⟨⟨_,rfl⟩,H.o.1,H.o.2⟩
theorem Qcj{w:World}{base:Nat}{e:TypeId}{sz:Nat}{v:Value}{n:Nat}{k:List Value}(h:w.ownsRow base e sz v n k):∃a cap,v=.slice a n cap:=by
 rcases h.2 with⟨rfl,d⟩|⟨g,cap,c,rfl,_⟩;·exact⟨none,0,by rw[d]⟩
 .exact⟨_,cap,rfl⟩
theorem Qib{w:World}{base:Nat}{e:TypeId}{v:Value}{x y:Value}(h:w.ownsRow base e 1 v 2 [x,y]):∃g cap cs,v=.slice (some ⟨g,0,none⟩) 2 cap/\base<=g/\Qh w g (x::y::cs).toArray e/\
  ∀(w')(d k:Value),Qh w' g (d::k::cs).toArray e->w'.ownsRow base e 1 v 2 [d,k]:=by
 rcases h.2 with⟨_,B⟩|⟨g,cap,c,rfl,q,I,J,E,K,u⟩;·cases B
 .have z:c.toList=x::y::c.toList.drop 2:=by have:=List.take_append_drop 2 c.toList;rw[Nat.mul_one]at u;rw[u]at this;exact this.symm
  refine⟨g,cap,c.toList.drop 2,rfl,q,?_,λw' d k R=>?_⟩;·unfold Qh;rw[I,<-z]
  .refine⟨rfl,.inr ⟨g,cap,(d::k::c.toList.drop 2).toArray,rfl,q,R,J,E,?_,?_⟩⟩;·have U:c.size=cap*1:=K;simp;omega
   .simp
theorem Qfw{H:Type}(Bm b nn:Nat)(U:DataW H){R:Value->Option (DataW H×List MemPlace)}(w:World)(E:Maps.size U<maxLen)(c:Maps.size U*8+8<=140737488355328)
  (aa:∀u:List Int,u.Nodup->(∀x,x∈u↔has U (.int .u64 x)=true)->u.length<=2)
  (Z:Bm<w.heap.size) (hm:w.cell? ⟨Bm,0,none⟩=some (.map (some b))) (I:w.ownsMap prog 22 R b nn U):
  Cl 273 #[.func (.func 286) #[] #[.pointer (some ⟨Bm,0,none⟩)]] w λe W'=>∃(v:Value)(u:List Int),e=.returned v/\W'.ownsRow w.heap.size 22 1 v u.length (u.map (Value.int .u64))/\u.length<=2/\(∀x,x∈u↔has U (.int .u64 x)=true)/\Below w.heap.size w W':=by
 have C:=O (Qcm Bm b nn U w E c Z hm I);clear E c Z hm I;apply WH func273;go_wp2_with fail;apply Zo C;rintro e w1⟨v,u,rfl,J,h2,K,V⟩;have hl:=aa u h2 K;obtain⟨a,cap,rfl⟩:=Qcj J
 match u,hl with
 |[],_=> have S:=O (Qbx a cap 0 (by omega) w1);have d:=O (Zt J (Zt K V));clear J h2 K V;go_wp2_with fail;apply Zo S;rintro e w2⟨⟨r,rfl⟩,rfl⟩;go_wp2;go_ret;exact⟨_,[],rfl,d.o.1,by simp,d.o.2.1,d.o.2.2⟩
 |[x],_=> have S:=O (Qbx a cap 1 (by omega) w1);have d:=O (Zt J (Zt K V));clear J h2 K V;go_wp2_with fail;apply Zo S;rintro e w2⟨⟨r,rfl⟩,rfl⟩;go_wp2;go_ret;exact⟨_,[x],rfl,d.o.1,by simp,d.o.2.1,d.o.2.2⟩
 |[x,y],_=>
  obtain⟨g,ab,cs,hv,hb,hB,q⟩:=Qib J;injection hv with e1 e2 e3;subst e1 e3;have S:=O (Qmj g cap x y _ cs w1 hB);have d:=O (Zt q (Zt K (Zt V hb)));clear J h2 K V hB q hb;go_wp2_with fail;apply Zo S;rintro e w2⟨⟨r,rfl⟩,s1,s2⟩;have HS:=O (Zt s1 s2);clear s1 s2;go_wp2;go_ret;refine⟨_,[min x y,max x y],rfl,d.o.1 _ _ _ HS.o.1,by simp,λz=>?_,?_⟩;·rw[<-d.o.2.1 z];simp only[Zu,List.not_mem_nil,or_false];omega
  .refine d.o.2.2.1.trans (HS.o.2.toBelow (B:=w.heap.size) d.o.2.2.1.size (λk hk=>by have:=d.o.2.2.2;have ac:k=g:=hk;omega))
theorem Quh(w):(zeroValue 3).run prog w=.ok (.int .i64 0) w:=by kernel_rfl
theorem Qu7(n:Nat)(h:n<18446744073709551616):(Lit.int .u64 n).wf=true:=by
 have c:IntKind.u64.min=0:=by kernel_rfl
 have d:IntKind.u64.max=18446744073709551615:=by kernel_rfl
 simp[Lit.wf,c,d];omega
theorem Qui(n:Nat)(h:n<18446744073709551616):keyOf prog 22 (.int .u64 n)=some (.int .u64 n):=keyOf_int_mk underlying22 (Qu7 n h)
theorem World.ownsMap.kept'{H:Type}{P:Program}{k:TypeId}{R:Value->Option (DataW H×List MemPlace)}{w w':World}{b n:Nat}{D:DataW H}{S:Nat->Prop}(h:w.ownsMap P k R b n D)(I:Qc S w w')(B:¬S b:=by exact λh=>h):w'.ownsMap P k R b n D:=by have d:=h.lt;obtain⟨u,c,E,q,J,z⟩:=h;exact⟨u,c,(I.block b d B).trans E,q,J,z⟩
def Iw{H:Type}(l:List Jy)(D:DataW H):Prop:=∀x:Int,has D (.int .u64 x)=true↔∃c∈l,x=(c.l:Int)
theorem Iw.put{H:Type}{l:List Jy}{D:DataW H}(h:Iw l D)(u:IsMap D)(c:Jy)(q:WideAt.IsKeyLit (.int .u64 c.l))(d:DataW H):Iw (l++[c]) (D.put (.int .u64 c.l) d):=by
 intro x;by_cases k:x=(c.l:Int);·subst k;rw[has_put_same u q];simp
 .rw[has_put_other (by simpa using k),h x];simp[k]
theorem u64T:Qce prog (λx:Int=>[Value.int .u64 x]) 1 296 22 8 0 where
 ht:=underlying296
 hi:=Ee (by kernel_rfl)
 pos:=by decide
 hc:=λ_=>rfl
 one:=by intro p u c;simp only[Zu,List.not_mem_nil,or_false]at c;subst c;rfl
theorem Qvl(l:List Int):Jm (λx:Int=>[Value.int .u64 x]) l=l.map (Value.int .u64):=by
 induction l with
 |nil=>rfl
 |cons x l c=>rw[V8,c];rfl
theorem Qia{w:World}{base:Nat}{v:Value}{l:List Int}(h:w.ownsRow base 22 1 v l.length (l.map (Value.int .u64))):Own (λx:Int=>[Value.int .u64 x]) 1 22 w v l:=by
 unfold Own;rw[Qvl];obtain⟨d,h⟩:=h;refine⟨d,?_⟩;rcases h with h|⟨g,cap,c,e,k,r⟩;·exact .inl h
 .exact .inr ⟨g,cap,c,e,Nat.zero_le _,r⟩
theorem Qr9{w}{g:Nat}(h:Qh w g #[.int .u64 0] 22):Own (λx:Int=>[Value.int .u64 x]) 1 22 w (.slice (some ⟨g,0,none⟩) 1 1) [0]:=
 ⟨by rfl,.inr ⟨g,1,#[.int .u64 0],rfl,Nat.zero_le _,h,Zv _,by simp[maxLen],by simp,by simp[Jm]⟩⟩
theorem Qu1{p q:Int}:∀c:List Int,c.Nodup->(∀x∈c,x=p\/x=q)->c.length<=2
 |[],_,_=>by simp
 |[x],_,_=>by simp
 |[x,y],_,_=>by simp
 |x::y::z::r,hn,hm=>by have d:=hm x (by simp);have k:=hm y (by simp);have u:=hm z (by simp);simp only[List.nodup_cons,Zu,not_or]at hn;obtain⟨⟨B,E,_⟩,⟨I,_⟩,_⟩:=hn;omega
theorem Qfn(a b:Jy)(ad:Addr)(cap:Nat)(w)(aa:Kb Jy.cells 3 w (some ad) [a,b])(ha:a.May)(hb:b.May):
  Cl 261 #[.slice (some ad) 2 cap] w λe w'=>∃(v:Value)(ts:List Int),e=.returned v/\Own (λx:Int=>[Value.int .u64 x]) 1 22 w' v ts/\ts.length<=3/\(∀x,x∈ts↔x=0\/x=a.l\/x=b.l)/\Qc Qb w w':=by
 have ac:∀c∈[a,b],c.May:=by intro c U;simp at U;rcases U with rfl|rfl<;>assumption
 have M:=O (λw'(c:Qc Qb w w')=>Ih [a,b] ad cap w' (aa.aB c (λ_ _ h=>h)) (by simp) (by simp) ac);obtain⟨l,hl⟩:∃l,[a,b]=l:=⟨_,rfl⟩;have ab:l.length=2:=by rw[<-hl];rfl
 have aj:=O ac;rw[hl]at aj M;rw[ab]at M;have HL:=O hl;clear aa ac hl;have a4:=λ(w)=>run_makeMap (P:=prog) 346 w;apply WH func261;go_wp2_with fail;refine(M.o _ Z0).mono ?_;rintro e w1⟨v,rfl,K,h2,h3⟩;have R:=K.row Jy.aF;obtain⟨a1,ak,rfl,az,a5,ag⟩:=R;rw[ab];have af:w1.ownsMap prog 22 (plainElem (H:=Unit) prog 3) w.heap.size 0 (.map []):=World.ownsMap.kept' (World.ownsMap_made w prog 22 _) h2;have ai:=O h2;have HR:=O (Zt K (Zt h3 af));clear K h2 h3 ag a5 az a4;go_wp2;go_loopw [5,10] (λ_ i wr=>∃(k n:Nat)(D:DataW Unit),k<=2/\i=.int .i64 k/\n<=k/\wr.ownsMap prog 22 (plainElem prog 3) w.heap.size n D/\Iw (l.take k) D/\Qc (λb=>b=w.heap.size) w1 wr) (λ_ i _=>2-(intOf i).toNat);case atStart=>exact⟨0,0,.map [],by omega,rfl,by omega,HR.o.2.2,λx=>by simp[has],Zg _ _⟩
 case round=>
  obtain⟨k,n,D,V,rfl,hn,hm,hD,U⟩:=hrel;rename_i wr;by_cases Xg:k<2
  .have u:k<l.length:=by omega
   have Z:Own Jy.cells 3 27 wr (.slice a1 l.length ak) l:=HR.o.1.aB U (λj hj e=>by have:=HR.o.2.1 j hj;simp at this;omega);obtain⟨a2,a7,e2,_,_,B⟩:=Z.row Jy.aF;injection e2 with ax a9 ay;subst ax ay;obtain⟨g,o,rfl,hj⟩:=B k u;have ae:=aj.o l[k] (List.getElem_mem u);have ah:l.take (k+1)=l.take k++[l[k]]:=List.take_succ_eq_append_getElem u;generalize l[k]=c at hj ae ah;have e0:=hj 0 _ rfl;have e1:=hj 1 _ rfl;have e2:=hj 2 _ rfl;simp only[Nat.add_zero]at e0;have k0:(0:Int)<=(k:Int):=by omega
   have k1:(k:Int)<2:=by omega
   have d:=Qui c.l (by have:=ae.hl;omega);have I:=O (Zt hm (Zt hD (Zt U ah)));clear hm hD U ae Z B hj ah;go_wp2_with (first
    |(at_lookup;refine wpList_lookup_own_int _ rfl (.tmp 14) (.tmp 16) 346 rfl 22 3 .i64 law64 underlying346 underlying3 (Quh _) _ n D rfl (I.o.1.alloc _) _ _ rfl d ?_;intro cc ba bb)
    |(at_mapUpdate;refine wpList_mapUpdate_own _ rfl (.tmp 14) (.tmp 16) (.tmp 18) 346 rfl 22 3 law64 underlying346 (plainElem prog 3) _ n D rfl (I.o.1.alloc _) (by simp[maxLen];omega) _ _ _ rfl rfl d _ [] (plainElem_int underlying3 (Go.RowKit.wrap64_wf _)) ?_;intro w5 aq ap))
   have d5:=((Zg Qb wr).alloc (.cells #[.int .u64 c.f,.int .u64 c.l,.int .u64 c.r] 27)).mono (S':=λb=>b=w.heap.size) (λk h=>h.elim);have c5:=I.o.2.2.1.aA (d5.grown ap (λk V=>.inl (by simpa using V.symm)));have l5:=I.o.2.1.put I.o.1.isMap c (law64.key d) (.lit (.int .i64 (Go.RowKit.wrap64 (cc+1))));rw[<-I.o.2.2.2]at l5;have H5:=O (Zt aq (Zt l5 c5));clear aq ap d5 c5 l5;go_wp2;go_roundw;case rel=>exact⟨k+1,n+1,_,by omega,by go_num,by omega,H5.o.1,H5.o.2.1,H5.o.2.2⟩
   case measure=>simp[intOf];omega
  .obtain rfl:k=2:=by omega
   have I:=O (Zt hm (Zt hD U));clear hm hD U;go_wp2_with (at_delete;refine wpList_delete_own _ rfl (.tmp 20) (.const (.int .u64 0)) 346 22 rfl 3 law64 underlying346 (plainElem prog 3) _ n D rfl I.o.1 _ _ rfl (Qui 0 (by decide)) ?_;intro J ar aw);have c6:=(I.o.2.2.grown aw.grown (λk V=>.inl (by simpa using V.symm)));have am:∀x:Int,has (D.del (.int .u64 ((0:Nat):Int))) (.int .u64 x)=true↔x≠0/\(x=(a.l:Int)\/x=(b.l:Int)):=by
    intro x;have an:=I.o.2.1 x;rw[<-ab,List.take_length,<-HL.o]at an;by_cases hx:x=0;·subst hx;rw[show(Lit.int .u64 ((0:Nat):Int))=.int .u64 0 from rfl,has_del_same];simp
    .rw[has_del_other (by simpa using hx),an];simp[hx]
   have H6:=O (Zt ar (Zt am c6));clear ar aw c6 am;go_wp2_with fail;refine(callsIn_wide.1 (Qrx Fence.wide 0 trivial rfl _ _)).mono ?_;rintro e w7⟨rfl,rfl⟩;have SS:=O (Qfw (J.heap.size+1) w.heap.size n (D.del (.int .u64 ((0:Nat):Int))) ((J.alloc (.cells #[.int .u64 0] 22)).alloc (.cells #[.map (some w.heap.size)] 346)) (by have:=H6.o.1.size_le;simp only[maxLen];omega) (by have:=H6.o.1.size_le;omega)
    (λss K h2=>Qu1 (p:=a.l) (q:=b.l) ss K (λx hx=>(((H6.o.2.1 x).1 ((h2 x).1 hx)).2))) (by simp) ((Qh.new' (w:=J.alloc (.cells #[.int .u64 0] 22)) (n:=J.heap.size+1) #[.map (some w.heap.size)] 346 (by simp)).cell 0) ((H6.o.1.alloc _).alloc _))
   go_wp2_with fail;refine(SS.o).mono ?_;rintro e w8⟨v,ss,rfl,K,h2,h3,h4⟩;obtain⟨av,al,a0,_,au,E⟩:=(Qia K).row u64T.hc;subst a0;have hO:Own (λx:Int=>[Value.int .u64 x]) 1 22 w8 (.slice (some ⟨J.heap.size,0,none⟩) 1 1) [0]:=Qr9 (((Qh.new J #[.int .u64 0] 22).alloc (.cells #[.map (some w.heap.size)] 346))|>(Qc.ofBelow (S:=Qb) h4).blk <|(λh=>h));have c8:Qc Qb w w8:=by have d2:Qc Qb w J:=(((Zg Qb w).alloc (.map #[] 0)).aA ai.o).trans H6.o.2.2 (λk V=>.inr (by have a3:k=w.heap.size:=V;omega));exact((d2.alloc _).alloc _).aA (Qc.ofBelow h4)
   have HH:=O (Zt E (Zt au (Zt hO (Zt h3 c8))));have a8:=h2;clear K h3 h4 E au hO c8;go_wp2_with (at_builtin;refine Jj u64T rfl (.tmp 21) (.tmp 24) rfl (.slice (some ⟨J.heap.size,0,none⟩) 1 1) [0] rfl HH.o.2.2.1 av al ss rfl HH.o.2.1 HH.o.1 (by simp[maxLen];omega) (by simp;omega) ?_;intro v' w9 z ao a6);have H9:=O (Zt z ao);clear z ao a6;go_wp2;go_ret;refine⟨_,[0]++ss,rfl,H9.o.1,by simp;omega,λx=>?_,?_⟩;·rw[Zl,HH.o.2.2.2.1 x,H6.o.2.1 x];simp only[Zu,List.not_mem_nil,or_false];by_cases hx:x=0<;>simp[hx]
   .refine HH.o.2.2.2.2.trans H9.o.2 (λk V=>.inr ?_);have a3:J.heap.size=k:=by simpa[Value.ownBlock]using V
    have h5:w.heap.size+1<=w1.heap.size:=by simpa using ai.o.size
    have h6:w1.heap.size<=J.heap.size:=H6.o.2.2.size;omega
structure Qcr(w:World)(g:Nat)(a b:Jy):Prop where
 a:Qh w g #[ZU a.f,ZU a.l,ZU a.r] 27
 b:Qh w (g+1) #[ZU b.f,ZU b.l,ZU b.r] 27
theorem Qcr.aB{w w'}{g:Nat}{a b:Jy}(h:Qcr w g a b)(c:Qc Qb w w'):Qcr w' g a b:=⟨c.blk h.a (λh=>h),c.blk h.b (λh=>h)⟩
theorem Qcr.cells{w}{g:Nat}{a b:Jy}(h:Qcr w g a b):w.cell? ⟨g,0,none⟩=some (ZU a.f)/\w.cell? ⟨g,1,none⟩=some (ZU a.l)/\w.cell? ⟨g,2,none⟩=some (ZU a.r)/\
  w.cell? ⟨g+1,0,none⟩=some (ZU b.f)/\w.cell? ⟨g+1,1,none⟩=some (ZU b.l)/\w.cell? ⟨g+1,2,none⟩=some (ZU b.r):=
 ⟨h.a.cell 0,h.a.cell 1,h.a.cell 2,h.b.cell 0,h.b.cell 1,h.b.cell 2⟩
theorem Ql5{w}{g:Nat}{l:List Jy}{t:TypeId}(h:Qh w g (Jm Jy.cells l).toArray t):Kb Jy.cells 3 w (some ⟨g,0,none⟩) l:=RowBlk.row Jy.aF h
theorem Qmb(a b:Jy)(ha:a.May)(hb:b.May)(w):
  Cl 250 #[.agg #[ZU a.f,ZU a.l,ZU a.r],.agg #[ZU b.f,ZU b.l,ZU b.r]] w
   λe w'=>e=.returned (.bool (decide (a.r<=b.r)&&(a.leAt b a.l&&a.leAt b b.l)))/\Qc Qb w w':=by
 have MA:=O (λw=>K8 a w);have MB:=O (λw=>K8 b w);rw[Px ha]at MA;rw[Px hb]at MB;have d:=O (Zt ha hb);have T0:Qcr ((w.alloc (.cells #[ZU a.f,ZU a.l,ZU a.r] 27)).alloc (.cells #[ZU b.f,ZU b.l,ZU b.r] 27)) w.heap.size a b:=⟨(Qh.new _ _ _).alloc _,Qh.new' _ _ (by simp)⟩;have T0:=O T0;clear ha hb;by_cases hr:a.r<=b.r
 .have E:decide (a.r<=b.r)=true:=by simpa using hr
  have ai:decide (b.r<a.r)=false:=by simp;omega
  rw[E,Bool.true_and];clear E hr;apply WH func250;go_wp2_with fail;apply Zz (MA.o _);intro w1 Z;have T1:=O (T0.o.aB Z);have C1:=O ((((Zg Qb w).alloc (.cells #[ZU a.f,ZU a.l,ZU a.r] 27)).alloc (.cells #[ZU b.f,ZU b.l,ZU b.r] 27)).aA Z);clear Z;have k0:=T1.o.cells;go_wp2_with fail;apply Zz (MB.o _);intro w2 c2;have T2:=O (T1.o.aB c2);have C2:=O (C1.o.aA c2);clear c2 k0;have k0:=T2.o.cells;have CC:=O (Qfn a b ⟨w2.heap.size,0,none⟩ 2 (w2.alloc (.cells #[ZU a.f,ZU a.l,ZU a.r,ZU b.f,ZU b.l,ZU b.r] 27)) (Ql5 (l:=[a,b]) (Qh.new w2 #[ZU a.f,ZU a.l,ZU a.r,ZU b.f,ZU b.l,ZU b.r] 27)) d.o.1 d.o.2);go_wp2_with fail;apply Zo CC;rintro e w3⟨v,u,rfl,h1,h2,h3,h4⟩;obtain⟨tv,tc,rfl,_,ah,I⟩:=h1.row u64T.hc;have T3:=O ((T2.o.aB ((Zg _ _).alloc (.cells #[ZU a.f,ZU a.l,ZU a.r,ZU b.f,ZU b.l,ZU b.r] 27))).aB h4);have C3:=O ((C2.o.alloc (.cells #[ZU a.f,ZU a.l,ZU a.r,ZU b.f,ZU b.l,ZU b.r] 27)).aA h4);have HR:=O (Zt I h3);have aj:=h2;clear h1 h3 h4 I ah k0;go_wp2;go_loopw [6,27] (λ_ i wr=>∃k:Nat,k<=u.length/\i=ZI k/\Qc Qb w3 wr/\∀x∈u.take k,a.leAt b x.toNat=true) (λ_ i _=>u.length-(intOf i).toNat);case atStart=>exact⟨0,by omega,rfl,Zg _ _,by simp⟩
  case round=>
   obtain⟨k,hk,rfl,z,q⟩:=hrel;rename_i wr;have TR:=O (T3.o.aB z);by_cases Xg:k<u.length
   .obtain⟨g,o,rfl,hj⟩:=HR.o.1 k Xg;have e0:=z.same (hj 0 _ rfl);have B:=(HR.o.2 u[k]).1 (List.getElem_mem Xg);have ab:u.take (k+1)=u.take k++[u[k]]:=List.take_succ_eq_append_getElem Xg;have aa:u[k]∈u:=List.getElem_mem Xg;generalize u[k]=x at e0 B ab aa;obtain⟨n,rfl⟩:∃n:Nat,x=(n:Int):=⟨x.toNat,by omega⟩;have hn:n<18446744073709551616:=by have h5:=d.o.1.hl;have h6:=d.o.2.hl;omega
    have AA:=λ(g':Nat)(w')(h:Qh w' g' #[ZU a.f,ZU a.l,ZU a.r] 27)=>Qnq [a] ⟨g',0,none⟩ 1 n w' (Ql5 (l:=[a]) h) (by simp) (by simp) (by intro c z;simp at z;subst z;exact d.o.1) hn;have BB:=λ(g':Nat)(w')(h:Qh w' g' #[ZU b.f,ZU b.l,ZU b.r] 27)=>Qnq [b] ⟨g',0,none⟩ 1 n w' (Ql5 (l:=[b]) h) (by simp) (by simp) (by intro c z;simp at z;subst z;exact d.o.2) hn;have sa:Jy.sum [a] n=a.at n:=by simp[Jy.sum]
    have sb:Jy.sum [b] n=b.at n:=by simp[Jy.sum]
    rw[sa]at AA;rw[sb]at BB;have R:a.leAt b n=decide (a.at n<=b.at n):=rfl;have U:=Qb5 (a.at n) (b.at n);have cg:=Quy (a.at n) (b.at n);generalize a.at n=x1 at AA R U cg;generalize b.at n=x2 at BB R U cg;generalize((x1/18446744073709551616:Nat):Int)=y1 at AA U;generalize((x1%18446744073709551616:Nat):Int)=y2 at AA U;generalize((x2/18446744073709551616:Nat):Int)=y3 at BB U;generalize((x2%18446744073709551616:Nat):Int)=y4 at BB U;have HA:=O AA;have ac:=O BB;have ae:=O U;have J:=O (Zt z (Zt q (Zt ab (Zt B aa))));have k0:(0:Int)<=(k:Int):=by omega
    have k1:(k:Int)<(u.length:Int):=by omega
    have af:decide ((0:Int)<Io x1 x2)=!(a.leAt b n):=by rw[cg,R]
    have V:=O (λ(w')(h:Qc Qb wr w')=>(TR.o.aB h).cells);clear z q ab B aa AA BB U cg R sa sb hn hj;simp only[Nat.add_zero,Nat.mul_one]at e0;cases K:a.leAt b n with
    |true=>
     rw[K]at af;have HL:=O K;clear K;go_wp2;go_region_held3 (λw':World=>w'.cell? ⟨w.heap.size,0,none⟩=some (ZU a.f)/\w'.cell? ⟨w.heap.size,1,none⟩=some (ZU a.l)/\w'.cell? ⟨w.heap.size,2,none⟩=some (ZU a.r)/\w'.cell? ⟨w.heap.size+1,0,none⟩=some (ZU b.f)/\w'.cell? ⟨w.heap.size+1,1,none⟩=some (ZU b.l)/\w'.cell? ⟨w.heap.size+1,2,none⟩=some (ZU b.r)) (exact V.o _ Z0) (first|(go_at_call 262;refine Calls.mono (HA.o _ _ ?_) ?_;(focus ((repeat' (first|(with_reducible refine Qh.new' _ _ ?_;first|rfl|(simp;done))|(with_reducible refine Qh.alloc ?_ _)|(with_reducible refine Qh.drew ?_)|(with_reducible refine Qh.drewN ?_ _)));done));rintro e w5⟨rfl,c5⟩;have d5:Qc Qb wr w5:=Qc.aA Z0 c5)|(go_at_call 262;refine Calls.mono (ac.o _ _ ?_) ?_;(focus ((repeat' (first|(with_reducible refine Qh.new' _ _ ?_;first|rfl|(simp;done))|(with_reducible refine Qh.alloc ?_ _)|(with_reducible refine Qh.drew ?_)|(with_reducible refine Qh.drewN ?_ _)|(with_reducible refine Qc.blk c5 ?_ (λh=>h))));done));rintro e w6⟨rfl,c6⟩;have d6:Qc Qb wr w6:=Qc.aA Z0 c6)|(go_at_call 263;refine(ae.o _).mono ?_;rintro e w7⟨rfl,c7⟩;have d7:Qc Qb wr w7:=Qc.aA Z0 c7));all_goals
      go_wp2;go_roundw
      case rel=>
       refine⟨k+1,by omega,by go_num,J.o.1.aA d7,λx hx=>?_⟩;rw[J.o.2.2.1]at hx;rcases Zl.1 hx with h|h;·exact J.o.2.1 x h
       .simp only[Zu,List.not_mem_nil,or_false]at h;subst h;simpa using HL.o
      case measure=>simp[intOf];omega
    |false=>
     rw[K]at af;have ag:(a.leAt b a.l&&a.leAt b b.l)=false:=by
      rcases J.o.2.2.2.1 with h|h|h
      .have h0:n=0:=by omega
       subst h0;simp[Jy.leAt,Jy.at]at K
      .have h0:n=a.l:=by omega
       subst h0;rw[K];rfl
      .have h0:n=b.l:=by omega
       subst h0;rw[K];cases a.leAt b a.l<;>rfl
     have HL:=O (Zt K ag);clear K ag;go_wp2;go_region_held3 (λw':World=>w'.cell? ⟨w.heap.size,0,none⟩=some (ZU a.f)/\w'.cell? ⟨w.heap.size,1,none⟩=some (ZU a.l)/\w'.cell? ⟨w.heap.size,2,none⟩=some (ZU a.r)/\w'.cell? ⟨w.heap.size+1,0,none⟩=some (ZU b.f)/\w'.cell? ⟨w.heap.size+1,1,none⟩=some (ZU b.l)/\w'.cell? ⟨w.heap.size+1,2,none⟩=some (ZU b.r)) (exact V.o _ Z0) (first|(go_at_call 262;refine Calls.mono (HA.o _ _ ?_) ?_;(focus ((repeat' (first|(with_reducible refine Qh.new' _ _ ?_;first|rfl|(simp;done))|(with_reducible refine Qh.alloc ?_ _)|(with_reducible refine Qh.drew ?_)|(with_reducible refine Qh.drewN ?_ _)));done));rintro e w5⟨rfl,c5⟩;have d5:Qc Qb wr w5:=Qc.aA Z0 c5)|(go_at_call 262;refine Calls.mono (ac.o _ _ ?_) ?_;(focus ((repeat' (first|(with_reducible refine Qh.new' _ _ ?_;first|rfl|(simp;done))|(with_reducible refine Qh.alloc ?_ _)|(with_reducible refine Qh.drew ?_)|(with_reducible refine Qh.drewN ?_ _)|(with_reducible refine Qc.blk c5 ?_ (λh=>h))));done));rintro e w6⟨rfl,c6⟩;have d6:Qc Qb wr w6:=Qc.aA Z0 c6)|(go_at_call 263;refine(ae.o _).mono ?_;rintro e w7⟨rfl,c7⟩;have d7:Qc Qb wr w7:=Qc.aA Z0 c7));all_goals go_wp2
     all_goals go_ret
     all_goals exact⟨by rw[HL.o.2];rfl,(C3.o.aA J.o.1).aA d7⟩
   .obtain rfl:k=u.length:=by omega
    rw[List.take_length]at q;have J:=O (Zt z q);clear z q;go_wp2;go_ret;have e1:=J.o.2 a.l ((HR.o.2 _).2 (by simp));have e2:=J.o.2 b.l ((HR.o.2 _).2 (by simp));simp only[Int.toNat_natCast]at e1 e2;exact⟨by rw[e1,e2];rfl,C3.o.aA J.o.1⟩
 .have E:decide (a.r<=b.r)=false:=by simpa using hr
  have ai:decide (b.r<a.r)=true:=by simp;omega
  rw[E,Bool.false_and];clear E hr;apply WH func250;go_wp2_with fail;apply Zz (MA.o _);intro w1 Z;have T1:=O (T0.o.aB Z);have C1:=O ((((Zg Qb w).alloc (.cells #[ZU a.f,ZU a.l,ZU a.r] 27)).alloc (.cells #[ZU b.f,ZU b.l,ZU b.r] 27)).aA Z);clear Z;have k0:=T1.o.cells;go_wp2_with fail;apply Zz (MB.o _);intro w2 c2;have T2:=O (T1.o.aB c2);have C2:=O (C1.o.aA c2);clear c2 k0;have k0:=T2.o.cells;exact WD C2
end
def Xx(w:World)(g:Nat)(s:Yk):Prop:=Qh w g (Z4 s.leaf s) 29
theorem Xx.aB{w w'}{g:Nat}{s:Yk}(h:Xx w g s)(c:Qc Qb w w'):Xx w' g s:=c.blk h (λh=>h)
theorem Xx.cells{w}{g:Nat}{s:Yk}(h:Xx w g s):w.cell? ⟨g,0,none⟩=some (ZI s.id)/\w.cell? ⟨g,1,none⟩=some (ZI s.par)/\w.cell? ⟨g,2,none⟩=some (.bool s.leaf)/\w.cell? ⟨g,3,none⟩=some (ZU s.real.f)/\w.cell? ⟨g,4,none⟩=some (ZU s.real.l)/\w.cell? ⟨g,5,none⟩=some (ZU s.real.r)/\w.cell? ⟨g,6,none⟩=some (ZU s.share.f)/\w.cell? ⟨g,7,none⟩=some (ZU s.share.l)/\w.cell? ⟨g,8,none⟩=some (ZU s.share.r)/\w.cell? ⟨g,9,none⟩=some (ZU s.aN.f)/\w.cell? ⟨g,10,none⟩=some (ZU s.aN.l)/\w.cell? ⟨g,11,none⟩=some (ZU s.aN.r)/\w.cell? ⟨g,12,none⟩=some (ZI s.pk)/\w.cell? ⟨g,13,none⟩=some (ZI s.bt):=
 ⟨Qh.cell h 0,Qh.cell h 1,Qh.cell h 2,Qh.cell h 3,Qh.cell h 4,Qh.cell h 5,Qh.cell h 6,Qh.cell h 7,Qh.cell h 8,Qh.cell h 9,Qh.cell h 10,Qh.cell h 11,Qh.cell h 12,Qh.cell h 13⟩
theorem Xx.new(w:World)(s:Yk):Xx (w.alloc (.cells (Z4 s.leaf s) 29)) w.heap.size s:=Qh.new _ _ _
theorem Qic(s:Yk)(w):ZW 220 #[.agg (Z4 s.leaf s)] w (.bool (decide s.real.May&&(decide s.share.May&&decide s.aN.May))) λw'=>Qc Qb w w':=by
 have S0:=O (Xx.new w s);have C0:=O ((Zg Qb w).alloc (.cells (Z4 s.leaf s) 29));have H1:=O (K8 s.real);have H2:=O (K8 s.share);have H3:=O (K8 s.aN);generalize decide s.real.May=x at H1|-;generalize decide s.share.May=y at H2|-;generalize decide s.aN.May=z at H3|-;cases x with
 |false=> have u:=S0.o.cells;apply WH func220;go_wp2_with fail;apply Zz (H1.o _);intro w1 c1;have S1:=O (S0.o.aB c1);have C1:=O (C0.o.aA c1);clear c1 u;obtain⟨u,B,E,I,J,K,R,U,V,Z,c,d,k,q⟩:=S1.o.cells;exact WD C1
 |true=>
  cases y with
  |false=> have u:=S0.o.cells;apply WH func220;go_wp2_with fail;apply Zz (H1.o _);intro w1 c1;have S1:=O (S0.o.aB c1);have C1:=O (C0.o.aA c1);clear c1 u;have u:=S1.o.cells;go_wp2_with fail;apply Zz (H2.o _);intro w2 c2;have S2:=O (S1.o.aB c2);have C2:=O (C1.o.aA c2);clear c2 u;obtain⟨u,B,E,I,J,K,R,U,V,Z,c,d,k,q⟩:=S2.o.cells;exact WD C2
  |true=> have u:=S0.o.cells;apply WH func220;go_wp2_with fail;apply Zz (H1.o _);intro w1 c1;have S1:=O (S0.o.aB c1);have C1:=O (C0.o.aA c1);clear c1 u;have u:=S1.o.cells;go_wp2_with fail;apply Zz (H2.o _);intro w2 c2;have S2:=O (S1.o.aB c2);have C2:=O (C1.o.aA c2);clear c2 u;have u:=S2.o.cells;go_wp2_with fail;apply Zz (H3.o _);intro w3 c3;have S3:=O (S2.o.aB c3);have C3:=O (C2.o.aA c3);clear c3 u;have u:=S3.o.cells;exact WD C3
def Jy.goes(c:Jy):Bool:=c.none||decide (0<c.r)
theorem Qd4(c:Jy)(w):ZW 249 #[.agg #[ZU c.f,ZU c.l,ZU c.r]] w (.bool c.goes) λw'=>Qc Qb w w':=by
 have z:=O (Qh.new w #[ZU c.f,ZU c.l,ZU c.r] 27);have u:=O (Kz c);unfold Jy.goes;have B:decide ((0:Int)<(c.r:Int))=decide (0<c.r):=by simp
 generalize c.none=x at u|-;cases x with
 |true=> apply WH func249;go_wp2_with fail;apply Z9 (u.o _) (λ_ d=>((Zg Qb w).alloc (.cells #[ZU c.f,ZU c.l,ZU c.r] 27)).aA d);intro w1 k;exact WD k
 |false=> rw[<-B];apply WH func249;go_wp2_with fail;apply Zz (u.o _);intro w1 d;have k:=O (((Zg Qb w).alloc (.cells #[ZU c.f,ZU c.l,ZU c.r] 27)).aA d);have q:=(d.blk z.o (λh=>h)).cell 2;simp at q;clear d;go_wp2;go_ret;exact⟨by simp,k.o⟩
theorem Qie(s:Yk)(w):ZW 222 #[.agg (Z4 s.leaf s)] w (.bool (s.share.goes&&(s.aN.goes&&(s.aN.none||!s.share.none)))) λw'=>Qc Qb w w':=by
 have S0:=O (Xx.new w s);have C0:=O ((Zg Qb w).alloc (.cells (Z4 s.leaf s) 29));have H1:=O (Qd4 s.share);have H2:=O (Qd4 s.aN);have H3:=O (Kz s.aN);have H4:=O (Kz s.share);generalize s.share.goes=x at H1|-;generalize s.aN.goes=y at H2|-;generalize s.aN.none=z at H3|-;generalize s.share.none=u at H4|-;cases x with
 |false=> have B:=S0.o.cells;apply WH func222;go_wp2_with fail;apply Zz (H1.o _);intro w1 c1;have S1:=O (S0.o.aB c1);have C1:=O (C0.o.aA c1);clear c1 B;obtain⟨B,E,I,J,K,R,U,V,Z,a9,c,d,k,q⟩:=S1.o.cells;exact WD C1
 |true=>
  cases y with
  |false=> have B:=S0.o.cells;apply WH func222;go_wp2_with fail;apply Zz (H1.o _);intro w1 c1;have S1:=O (S0.o.aB c1);have C1:=O (C0.o.aA c1);clear c1 B;have B:=S1.o.cells;go_wp2_with fail;apply Zz (H2.o _);intro w2 c2;have S2:=O (S1.o.aB c2);have C2:=O (C1.o.aA c2);clear c2 B;obtain⟨B,E,I,J,K,R,U,V,Z,a9,c,d,k,q⟩:=S2.o.cells;exact WD C2
  |true=>
   cases z with
   |true=> have B:=S0.o.cells;apply WH func222;go_wp2_with fail;apply Zz (H1.o _);intro w1 c1;have S1:=O (S0.o.aB c1);have C1:=O (C0.o.aA c1);clear c1 B;have B:=S1.o.cells;go_wp2_with fail;apply Zz (H2.o _);intro w2 c2;have S2:=O (S1.o.aB c2);have C2:=O (C1.o.aA c2);clear c2 B;have B:=S2.o.cells;go_wp2_with fail;apply Zz (H3.o _);intro w3 c3;have S3:=O (S2.o.aB c3);have C3:=O (C2.o.aA c3);clear c3 B;obtain⟨B,E,I,J,K,R,U,V,Z,a9,c,d,k,q⟩:=S3.o.cells;exact WD C3
   |false=> have B:=S0.o.cells;apply WH func222;go_wp2_with fail;apply Zz (H1.o _);intro w1 c1;have S1:=O (S0.o.aB c1);have C1:=O (C0.o.aA c1);clear c1 B;have B:=S1.o.cells;go_wp2_with fail;apply Zz (H2.o _);intro w2 c2;have S2:=O (S1.o.aB c2);have C2:=O (C1.o.aA c2);clear c2 B;have B:=S2.o.cells;go_wp2_with fail;apply Zz (H3.o _);intro w3 c3;have S3:=O (S2.o.aB c3);have C3:=O (C2.o.aA c3);clear c3 B;have B:=S3.o.cells;go_wp2_with fail;apply Zz (H4.o _);intro w4 c4;have S4:=O (S3.o.aB c4);have C4:=O (C3.o.aA c4);clear c4 B;have B:=S4.o.cells;exact WD C4
def Yk.aM(s:Yk):Bool:=s.real.none||(s.aN.none||(decide (s.real.r<=s.aN.r)&&(s.real.leAt s.aN s.real.l&&s.real.leAt s.aN s.aN.l)))
theorem Qlg(s:Yk)(hr:s.real.May)(hu:s.aN.May)(w):ZW 223 #[.agg (Z4 s.leaf s)] w (.bool s.aM) λw'=>Qc Qb w w':=by
 have S0:=O (Xx.new w s);have C0:=O ((Zg Qb w).alloc (.cells (Z4 s.leaf s) 29));have H1:=O (Kz s.real);have H2:=O (Kz s.aN);have H3:=O (Qmb s.real s.aN hr hu);unfold Yk.aM;clear hr hu;generalize(decide (s.real.r<=s.aN.r)&&(s.real.leAt s.aN s.real.l&&s.real.leAt s.aN s.aN.l))=z at H3|-;generalize s.real.none=x at H1|-;generalize s.aN.none=y at H2|-;cases x with
 |true=> have u:=S0.o.cells;apply WH func223;go_wp2_with fail;apply Zz (H1.o _);intro w1 c1;have S1:=O (S0.o.aB c1);have C1:=O (C0.o.aA c1);clear c1 u;obtain⟨u,B,E,I,J,K,R,U,V,Z,c,d,k,q⟩:=S1.o.cells;exact WD C1
 |false=>
  cases y with
  |true=> have u:=S0.o.cells;apply WH func223;go_wp2_with fail;apply Zz (H1.o _);intro w1 c1;have S1:=O (S0.o.aB c1);have C1:=O (C0.o.aA c1);clear c1 u;have u:=S1.o.cells;go_wp2_with fail;apply Zz (H2.o _);intro w2 c2;have S2:=O (S1.o.aB c2);have C2:=O (C1.o.aA c2);clear c2 u;obtain⟨u,B,E,I,J,K,R,U,V,Z,c,d,k,q⟩:=S2.o.cells;exact WD C2
  |false=> have u:=S0.o.cells;apply WH func223;go_wp2_with fail;apply Zz (H1.o _);intro w1 c1;have S1:=O (S0.o.aB c1);have C1:=O (C0.o.aA c1);clear c1 u;have u:=S1.o.cells;go_wp2_with fail;apply Zz (H2.o _);intro w2 c2;have S2:=O (S1.o.aB c2);have C2:=O (C1.o.aA c2);clear c2 u;have u:=S2.o.cells;go_wp2_with fail;apply Zz (H3.o _);intro w3 c3;have S3:=O (S2.o.aB c3);have C3:=O (C2.o.aA c3);clear c3 u;have u:=S3.o.cells;exact WD C3
def Up(w:World)(g:Nat)(s:Yk)(b:Bool):Prop:=Qh w g (Z4 b s) 29
theorem Up.aB{w w'}{g:Nat}{s:Yk}{b:Bool}(h:Up w g s b)(c:Qc Qb w w'):Up w' g s b:=c.blk h (λh=>h)
theorem Up.cells{w}{g:Nat}{s:Yk}{b:Bool}(h:Up w g s b):w.cell? ⟨g,0,none⟩=some (ZI s.id)/\w.cell? ⟨g,1,none⟩=some (ZI s.par)/\w.cell? ⟨g,2,none⟩=some (.bool b)/\w.cell? ⟨g,3,none⟩=some (ZU s.real.f)/\w.cell? ⟨g,4,none⟩=some (ZU s.real.l)/\w.cell? ⟨g,5,none⟩=some (ZU s.real.r)/\w.cell? ⟨g,6,none⟩=some (ZU s.share.f)/\w.cell? ⟨g,7,none⟩=some (ZU s.share.l)/\w.cell? ⟨g,8,none⟩=some (ZU s.share.r)/\w.cell? ⟨g,9,none⟩=some (ZU s.aN.f)/\w.cell? ⟨g,10,none⟩=some (ZU s.aN.l)/\w.cell? ⟨g,11,none⟩=some (ZU s.aN.r)/\w.cell? ⟨g,12,none⟩=some (ZI s.pk)/\w.cell? ⟨g,13,none⟩=some (ZI s.bt):=
 ⟨Qh.cell h 0,Qh.cell h 1,Qh.cell h 2,Qh.cell h 3,Qh.cell h 4,Qh.cell h 5,Qh.cell h 6,Qh.cell h 7,Qh.cell h 8,Qh.cell h 9,Qh.cell h 10,Qh.cell h 11,Qh.cell h 12,Qh.cell h 13⟩
theorem Up.new(w:World)(s:Yk)(b:Bool):Up (w.alloc (.cells (Z4 b s) 29)) w.heap.size s b:=Qh.new _ _ _
theorem Up.curves{w w'}{g:Nat}{s:Yk}{b:Bool}(h:Up w g s b)(c:Qc Qb w w'):w'.cell? ⟨g,3,none⟩=some (ZU s.real.f)/\w'.cell? ⟨g,4,none⟩=some (ZU s.real.l)/\w'.cell? ⟨g,5,none⟩=some (ZU s.real.r)/\w'.cell? ⟨g,6,none⟩=some (ZU s.share.f)/\w'.cell? ⟨g,7,none⟩=some (ZU s.share.l)/\w'.cell? ⟨g,8,none⟩=some (ZU s.share.r):=
 ⟨Qh.cell (h.aB c) 3,Qh.cell (h.aB c) 4,Qh.cell (h.aB c) 5,Qh.cell (h.aB c) 6,Qh.cell (h.aB c) 7,Qh.cell (h.aB c) 8⟩
def Qrr(b x y:Bool):Int:=if b=false then 4 else if x=false/\y=false then 3 else if x=false then 1 else if y=false then 2 else 0
theorem Qsr(s:Yk)(b:Bool)(w):ZW 248 #[.agg (Z4 b s)] w (.int .u8 (Qrr b s.real.none s.share.none)) λw'=>Qc Qb w w':=by
 have V:=O (Kz s.real);have Z:=O (Kz s.share);generalize s.real.none=x at V|-;generalize s.share.none=y at Z|-;cases b with
 |false=>
  have u:=O (Up.new w s false);have z:=O ((Zg Qb w).alloc (.cells (Z4 false s) 29));have d:=O (λ(w')(c:Qc Qb (w.alloc (.cells (Z4 false s) 29)) w')=>u.o.curves c);apply WH func248;go_wp2;go_region_held3 (λw':World=>w'.cell? ⟨w.heap.size,3,none⟩=some (ZU s.real.f)/\w'.cell? ⟨w.heap.size,4,none⟩=some (ZU s.real.l)/\w'.cell? ⟨w.heap.size,5,none⟩=some (ZU s.real.r)/\w'.cell? ⟨w.heap.size,6,none⟩=some (ZU s.share.f)/\w'.cell? ⟨w.heap.size,7,none⟩=some (ZU s.share.l)/\w'.cell? ⟨w.heap.size,8,none⟩=some (ZU s.share.r)) (exact d.o _ Z0) (first|(go_at_call 170;refine(V.o _).mono ?_;rintro e R⟨rfl,q⟩;replace q:Qc Qb (w.alloc (.cells (Z4 false s) 29)) R:=Qc.aA Z0 q)|(go_at_call 170;refine(Z.o _).mono ?_;rintro e U⟨rfl,k⟩;replace k:Qc Qb (w.alloc (.cells (Z4 false s) 29)) U:=Qc.aA Z0 k));all_goals
   have K:=O (z.o.aA k);have a0:=(u.o.aB k).cells;clear q k;exact WD K
 |true=>
  cases x with
  |false=>
   cases y with
   |false=>
    have u:=O (Up.new w s true);have z:=O ((Zg Qb w).alloc (.cells (Z4 true s) 29));have d:=O (λ(w')(c:Qc Qb (w.alloc (.cells (Z4 true s) 29)) w')=>u.o.curves c);apply WH func248;go_wp2;go_region_held3 (λw':World=>w'.cell? ⟨w.heap.size,3,none⟩=some (ZU s.real.f)/\w'.cell? ⟨w.heap.size,4,none⟩=some (ZU s.real.l)/\w'.cell? ⟨w.heap.size,5,none⟩=some (ZU s.real.r)/\w'.cell? ⟨w.heap.size,6,none⟩=some (ZU s.share.f)/\w'.cell? ⟨w.heap.size,7,none⟩=some (ZU s.share.l)/\w'.cell? ⟨w.heap.size,8,none⟩=some (ZU s.share.r)) (exact d.o _ Z0) (first|(go_at_call 170;refine(V.o _).mono ?_;rintro e R⟨rfl,q⟩;replace q:Qc Qb (w.alloc (.cells (Z4 true s) 29)) R:=Qc.aA Z0 q)|(go_at_call 170;refine(Z.o _).mono ?_;rintro e U⟨rfl,k⟩;replace k:Qc Qb (w.alloc (.cells (Z4 true s) 29)) U:=Qc.aA Z0 k));all_goals
     have K:=O (z.o.aA k);have a0:=(u.o.aB k).cells;clear q k;exact WD K
   |true=>
    have u:=O (Up.new w s true);have z:=O ((Zg Qb w).alloc (.cells (Z4 true s) 29));have d:=O (λ(w')(c:Qc Qb (w.alloc (.cells (Z4 true s) 29)) w')=>u.o.curves c);apply WH func248;go_wp2;go_region_held3 (λw':World=>w'.cell? ⟨w.heap.size,3,none⟩=some (ZU s.real.f)/\w'.cell? ⟨w.heap.size,4,none⟩=some (ZU s.real.l)/\w'.cell? ⟨w.heap.size,5,none⟩=some (ZU s.real.r)/\w'.cell? ⟨w.heap.size,6,none⟩=some (ZU s.share.f)/\w'.cell? ⟨w.heap.size,7,none⟩=some (ZU s.share.l)/\w'.cell? ⟨w.heap.size,8,none⟩=some (ZU s.share.r)) (exact d.o _ Z0) (first|(go_at_call 170;refine(V.o _).mono ?_;rintro e R⟨rfl,q⟩;replace q:Qc Qb (w.alloc (.cells (Z4 true s) 29)) R:=Qc.aA Z0 q)|(go_at_call 170;refine(Z.o _).mono ?_;rintro e U⟨rfl,k⟩;replace k:Qc Qb (w.alloc (.cells (Z4 true s) 29)) U:=Qc.aA Z0 k));all_goals
     have K:=O (z.o.aA k);have a0:=(u.o.aB k).cells;clear q k;exact WD K
  |true=>
   cases y with
   |false=>
    have u:=O (Up.new w s true);have z:=O ((Zg Qb w).alloc (.cells (Z4 true s) 29));have d:=O (λ(w')(c:Qc Qb (w.alloc (.cells (Z4 true s) 29)) w')=>u.o.curves c);apply WH func248;go_wp2;go_region_held3 (λw':World=>w'.cell? ⟨w.heap.size,3,none⟩=some (ZU s.real.f)/\w'.cell? ⟨w.heap.size,4,none⟩=some (ZU s.real.l)/\w'.cell? ⟨w.heap.size,5,none⟩=some (ZU s.real.r)/\w'.cell? ⟨w.heap.size,6,none⟩=some (ZU s.share.f)/\w'.cell? ⟨w.heap.size,7,none⟩=some (ZU s.share.l)/\w'.cell? ⟨w.heap.size,8,none⟩=some (ZU s.share.r)) (exact d.o _ Z0) (first|(go_at_call 170;refine(V.o _).mono ?_;rintro e R⟨rfl,q⟩;replace q:Qc Qb (w.alloc (.cells (Z4 true s) 29)) R:=Qc.aA Z0 q)|(go_at_call 170;refine(Z.o _).mono ?_;rintro e U⟨rfl,k⟩;replace k:Qc Qb (w.alloc (.cells (Z4 true s) 29)) U:=Qc.aA Z0 k));all_goals
     have K:=O (z.o.aA k);have a0:=(u.o.aB k).cells;clear q k;exact WD K
   |true=>
    have u:=O (Up.new w s true);have z:=O ((Zg Qb w).alloc (.cells (Z4 true s) 29));have d:=O (λ(w')(c:Qc Qb (w.alloc (.cells (Z4 true s) 29)) w')=>u.o.curves c);apply WH func248;go_wp2;go_region_held3 (λw':World=>w'.cell? ⟨w.heap.size,3,none⟩=some (ZU s.real.f)/\w'.cell? ⟨w.heap.size,4,none⟩=some (ZU s.real.l)/\w'.cell? ⟨w.heap.size,5,none⟩=some (ZU s.real.r)/\w'.cell? ⟨w.heap.size,6,none⟩=some (ZU s.share.f)/\w'.cell? ⟨w.heap.size,7,none⟩=some (ZU s.share.l)/\w'.cell? ⟨w.heap.size,8,none⟩=some (ZU s.share.r)) (exact d.o _ Z0) (first|(go_at_call 170;refine(V.o _).mono ?_;rintro e R⟨rfl,q⟩;replace q:Qc Qb (w.alloc (.cells (Z4 true s) 29)) R:=Qc.aA Z0 q)|(go_at_call 170;refine(Z.o _).mono ?_;rintro e U⟨rfl,k⟩;replace k:Qc Qb (w.alloc (.cells (Z4 true s) 29)) U:=Qc.aA Z0 k));all_goals
     have K:=O (z.o.aA k);have a0:=(u.o.aB k).cells;clear q k;exact WD K
def Yk.shapedB(s:Yk)(b:Bool):Bool:=if b then(Qrr b s.real.none s.share.none != 0)&&(inB s.pk 1 4096&&inB s.bt 1 16777216)else s.real.none&&(!s.share.none&&((s.pk==0)&&(s.bt==0)))
theorem Qpi(s:Yk)(b:Bool)(w):ZW 221 #[.agg (Z4 b s)] w (.bool (s.shapedB b)) λw'=>Qc Qb w w':=by
 unfold Yk.shapedB;cases b with
 |true=>
  have H1:=O (Qsr s true);have H2:=O (Ac s.pk 1 4096);have H3:=O (Ac s.bt 1 16777216);rw[if_pos rfl];generalize inB s.pk 1 4096=x at H2|-;generalize inB s.bt 1 16777216=y at H3|-;generalize Qrr true s.real.none s.share.none=k at H1|-;cases hk:k != 0 with
  |false=> have S0:=O (Up.new w s true);have C0:=O ((Zg Qb w).alloc (.cells (Z4 true s) 29));have B:=S0.o.cells;apply WH func221;go_wp2_with fail;apply Zz (H1.o _);intro w1 z;have S1:=O (S0.o.aB z);have C1:=O (C0.o.aA z);clear z B;have B:=S1.o.cells;exact WD C1
  |true=>
   cases x with
   |false=> have S0:=O (Up.new w s true);have C0:=O ((Zg Qb w).alloc (.cells (Z4 true s) 29));have B:=S0.o.cells;apply WH func221;go_wp2_with fail;apply Zz (H1.o _);intro w1 z;have S1:=O (S0.o.aB z);have C1:=O (C0.o.aA z);clear z B;have B:=S1.o.cells;go_wp2_with fail;apply Zz (H2.o _);rintro aa rfl;exact WD C1
   |true=> have S0:=O (Up.new w s true);have C0:=O ((Zg Qb w).alloc (.cells (Z4 true s) 29));have B:=S0.o.cells;apply WH func221;go_wp2_with fail;apply Zz (H1.o _);intro w1 z;have S1:=O (S0.o.aB z);have C1:=O (C0.o.aA z);clear z B;have B:=S1.o.cells;go_wp2_with fail;apply Zz (H2.o _);rintro aa rfl;go_wp2_with fail;apply Zz (H3.o _);rintro ab rfl;exact WD C1
 |false=>
  have H1:=O (Kz s.real);have H2:=O (Kz s.share);rw[if_neg (by simp)];generalize s.real.none=x at H1|-;generalize s.share.none=y at H2|-;cases x with
  |false=> have S0:=O (Up.new w s false);have C0:=O ((Zg Qb w).alloc (.cells (Z4 false s) 29));have B:=S0.o.cells;apply WH func221;go_wp2_with fail;apply Zz (H1.o _);intro w1 z;have S1:=O (S0.o.aB z);have C1:=O (C0.o.aA z);clear z B;have B:=S1.o.cells;exact WD C1
  |true=>
   cases y with
   |true=> have S0:=O (Up.new w s false);have C0:=O ((Zg Qb w).alloc (.cells (Z4 false s) 29));have B:=S0.o.cells;apply WH func221;go_wp2_with fail;apply Zz (H1.o _);intro w1 z;have S1:=O (S0.o.aB z);have C1:=O (C0.o.aA z);clear z B;have B:=S1.o.cells;go_wp2_with fail;apply Zz (H2.o _);intro w2 c2;have S2:=O (S1.o.aB c2);have C2:=O (C1.o.aA c2);clear c2 B;have B:=S2.o.cells;exact WD C2
   |false=>
    cases hp:s.pk==0 with
    |false=> have S0:=O (Up.new w s false);have C0:=O ((Zg Qb w).alloc (.cells (Z4 false s) 29));have B:=S0.o.cells;apply WH func221;go_wp2_with fail;apply Zz (H1.o _);intro w1 z;have S1:=O (S0.o.aB z);have C1:=O (C0.o.aA z);clear z B;have B:=S1.o.cells;go_wp2_with fail;apply Zz (H2.o _);intro w2 c2;have S2:=O (S1.o.aB c2);have C2:=O (C1.o.aA c2);clear c2 B;have B:=S2.o.cells;exact WD C2
    |true=> have S0:=O (Up.new w s false);have C0:=O ((Zg Qb w).alloc (.cells (Z4 false s) 29));have B:=S0.o.cells;apply WH func221;go_wp2_with fail;apply Zz (H1.o _);intro w1 z;have S1:=O (S0.o.aB z);have C1:=O (C0.o.aA z);clear z B;have B:=S1.o.cells;go_wp2_with fail;apply Zz (H2.o _);intro w2 c2;have S2:=O (S1.o.aB c2);have C2:=O (C1.o.aA c2);clear c2 B;have B:=S2.o.cells;exact WD C2
theorem Qid(s:Yk)(w):ZW 221 #[.agg (Z4 s.leaf s)] w (.bool (s.shapedB s.leaf)) λw'=>Qc Qb w w':=Qpi s s.leaf w
section
def Yk.curvesB(s:Yk):Bool:=decide s.real.May&&(decide s.share.May&&decide s.aN.May)
def Yk.sharedB(s:Yk):Bool:=s.share.goes&&(s.aN.goes&&(s.aN.none||!s.share.none))
def Yk.mayE(s:Yk):Int:=if s.named=false then 130 else if s.curvesB=false then 30 else if s.shapedB s.leaf=false then 130 else if s.sharedB=false then 130 else if s.aM=false then 130 else 0
theorem Quq(w):(Instr.index 289 (.agg #[.func (.func 219) #[] #[],ZI 130,.func (.func 220) #[] #[],ZI 30,.func (.func 221) #[] #[],ZI 130,.func (.func 222) #[] #[],ZI 130,.func (.func 223) #[] #[],ZI 130]) (ZI 0)).run prog w=.ok (.agg #[.func (.func 219) #[] #[],ZI 130]) w:=by kernel_rfl
theorem Qur(w):(Instr.index 289 (.agg #[.func (.func 219) #[] #[],ZI 130,.func (.func 220) #[] #[],ZI 30,.func (.func 221) #[] #[],ZI 130,.func (.func 222) #[] #[],ZI 130,.func (.func 223) #[] #[],ZI 130]) (ZI 1)).run prog w=.ok (.agg #[.func (.func 220) #[] #[],ZI 30]) w:=by kernel_rfl
theorem Qus(w):(Instr.index 289 (.agg #[.func (.func 219) #[] #[],ZI 130,.func (.func 220) #[] #[],ZI 30,.func (.func 221) #[] #[],ZI 130,.func (.func 222) #[] #[],ZI 130,.func (.func 223) #[] #[],ZI 130]) (ZI 2)).run prog w=.ok (.agg #[.func (.func 221) #[] #[],ZI 130]) w:=by kernel_rfl
theorem Qut(w):(Instr.index 289 (.agg #[.func (.func 219) #[] #[],ZI 130,.func (.func 220) #[] #[],ZI 30,.func (.func 221) #[] #[],ZI 130,.func (.func 222) #[] #[],ZI 130,.func (.func 223) #[] #[],ZI 130]) (ZI 3)).run prog w=.ok (.agg #[.func (.func 222) #[] #[],ZI 130]) w:=by kernel_rfl
theorem Quu(w):(Instr.index 289 (.agg #[.func (.func 219) #[] #[],ZI 130,.func (.func 220) #[] #[],ZI 30,.func (.func 221) #[] #[],ZI 130,.func (.func 222) #[] #[],ZI 130,.func (.func 223) #[] #[],ZI 130]) (ZI 4)).run prog w=.ok (.agg #[.func (.func 223) #[] #[],ZI 130]) w:=by kernel_rfl
attribute [local go_sem] Quq Qur Qus Qut Quu
theorem Qef(s:Yk)(w):ZW 163 #[.agg (Z4 s.leaf s)] w (ZI s.mayE) λw'=>Qc Qb w w':=by
 have S0:=O (Xx.new w s);have C0:=O ((Zg Qb w).alloc (.cells (Z4 s.leaf s) 29));have H1:=O (Qlf s);have H2:=O (Qic s);have H3:=O (Qid s);have H4:=O (Qie s);have hM:s.mayE=if s.named=false then 130 else if s.curvesB=false then 30 else if s.shapedB s.leaf=false then 130 else if s.sharedB=false then 130 else if s.aM=false then 130 else 0:=rfl;have hc:s.curvesB=(decide s.real.May&&(decide s.share.May&&decide s.aN.May)):=rfl;have hs:s.sharedB=(s.share.goes&&(s.aN.goes&&(s.aN.none||!s.share.none))):=rfl;have H5:s.curvesB=true->Hi (∀w,ZW 223 #[.agg (Z4 s.leaf s)] w (.bool s.aM) λw'=>Qc Qb w w'):=λh=>by rw[hc]at h;simp only[Zw,decide_eq_true_eq]at h;exact O (Qlg s h.1 h.2.2)
 rw[<-hc]at H2;rw[<-hs]at H4;rw[hM];clear hc hs hM;generalize s.named=x1 at H1|-;generalize s.curvesB=x2 at H2 H5|-;generalize s.shapedB s.leaf=x3 at H3|-;generalize s.sharedB=x4 at H4|-;cases x1 with
 |false=> clear H5;obtain⟨u,z,B,E,I,J,K,R,U,V,c,d,k,q⟩:=S0.o.cells;go_enter func163,ntmps163;go_wp2;refine wp_loop_rounds 1 ?_;rw[rounds_succ];go_wp2_with fail;refine Zz (H1.o _) ?_;intro w1 Z;have q1:=Z.blk (Qh.new (w.alloc (.cells (Z4 s.leaf s) 29)) #[.func (.func 219) #[] #[],ZI 130] 288) (λh=>h);have r1:=q1.cell 1;simp at r1;replace Z:=((Zg Qb (w.alloc (.cells (Z4 s.leaf s) 29))).alloc (.cells #[.func (.func 219) #[] #[],ZI 130] 288)).aA Z;have S1:=O (S0.o.aB Z);have C1:=O (C0.o.aA Z);clear Z q1 u z B E I J K R U V c d k q;obtain⟨u,z,B,E,I,J,K,R,U,V,c,d,k,q⟩:=S1.o.cells;have z1:=Qh.lt S1.o;go_wp2;go_ret;exact⟨rfl,C1.o⟩
 |true=>
  cases x2 with
  |false=> clear H5;obtain⟨u,z,B,E,I,J,K,R,U,V,c,d,k,q⟩:=S0.o.cells;go_enter func163,ntmps163;go_wp2;refine wp_loop_rounds 2 ?_;rw[rounds_succ];go_wp2_with fail;refine Zz (H1.o _) ?_;intro w1 Z;have q1:=Z.blk (Qh.new (w.alloc (.cells (Z4 s.leaf s) 29)) #[.func (.func 219) #[] #[],ZI 130] 288) (λh=>h);have r1:=q1.cell 1;simp at r1;replace Z:=((Zg Qb (w.alloc (.cells (Z4 s.leaf s) 29))).alloc (.cells #[.func (.func 219) #[] #[],ZI 130] 288)).aA Z;have S1:=O (S0.o.aB Z);have C1:=O (C0.o.aA Z);clear Z q1 u z B E I J K R U V c d k q;obtain⟨u,z,B,E,I,J,K,R,U,V,c,d,k,q⟩:=S1.o.cells;have z1:=Qh.lt S1.o;go_wp2;clear r1;rw[rounds_succ];go_wp2_with fail;refine Zz (H2.o _) ?_;intro w2 c2;have q2:=c2.blk (Qh.new w1 #[.func (.func 220) #[] #[],ZI 30] 288) (λh=>h);have r2:=q2.cell 1;simp at r2;replace c2:=((Zg Qb w1).alloc (.cells #[.func (.func 220) #[] #[],ZI 30] 288)).aA c2;have S2:=O (S1.o.aB c2);have C2:=O (C1.o.aA c2);clear c2 q2 u z B E I J K R U V c d k q;obtain⟨u,z,B,E,I,J,K,R,U,V,c,d,k,q⟩:=S2.o.cells;have z2:=Qh.lt S2.o;clear z1;go_wp2;go_ret;exact⟨rfl,C2.o⟩
  |true=>
   replace H5:=H5 rfl;generalize s.aM=x5 at H5|-;cases x3 with
   |false=> obtain⟨u,z,B,E,I,J,K,R,U,V,c,d,k,q⟩:=S0.o.cells;go_enter func163,ntmps163;go_wp2;refine wp_loop_rounds 3 ?_;rw[rounds_succ];go_wp2_with fail;refine Zz (H1.o _) ?_;intro w1 Z;have q1:=Z.blk (Qh.new (w.alloc (.cells (Z4 s.leaf s) 29)) #[.func (.func 219) #[] #[],ZI 130] 288) (λh=>h);have r1:=q1.cell 1;simp at r1;replace Z:=((Zg Qb (w.alloc (.cells (Z4 s.leaf s) 29))).alloc (.cells #[.func (.func 219) #[] #[],ZI 130] 288)).aA Z;have S1:=O (S0.o.aB Z);have C1:=O (C0.o.aA Z);clear Z q1 u z B E I J K R U V c d k q;obtain⟨u,z,B,E,I,J,K,R,U,V,c,d,k,q⟩:=S1.o.cells;have z1:=Qh.lt S1.o;go_wp2;clear r1;rw[rounds_succ];go_wp2_with fail;refine Zz (H2.o _) ?_;intro w2 c2;have q2:=c2.blk (Qh.new w1 #[.func (.func 220) #[] #[],ZI 30] 288) (λh=>h);have r2:=q2.cell 1;simp at r2;replace c2:=((Zg Qb w1).alloc (.cells #[.func (.func 220) #[] #[],ZI 30] 288)).aA c2;have S2:=O (S1.o.aB c2);have C2:=O (C1.o.aA c2);clear c2 q2 u z B E I J K R U V c d k q;obtain⟨u,z,B,E,I,J,K,R,U,V,c,d,k,q⟩:=S2.o.cells;have z2:=Qh.lt S2.o;clear z1;go_wp2;clear r2;rw[rounds_succ];go_wp2_with fail;refine Zz (H3.o _) ?_;intro w3 c3;have q3:=c3.blk (Qh.new w2 #[.func (.func 221) #[] #[],ZI 130] 288) (λh=>h);have r3:=q3.cell 1;simp at r3;replace c3:=((Zg Qb w2).alloc (.cells #[.func (.func 221) #[] #[],ZI 130] 288)).aA c3;have S3:=O (S2.o.aB c3);have C3:=O (C2.o.aA c3);clear c3 q3 u z B E I J K R U V c d k q;obtain⟨u,z,B,E,I,J,K,R,U,V,c,d,k,q⟩:=S3.o.cells;have z3:=Qh.lt S3.o;clear z2;go_wp2;go_ret;exact⟨rfl,C3.o⟩
   |true=>
    cases x4 with
    |false=> obtain⟨u,z,B,E,I,J,K,R,U,V,c,d,k,q⟩:=S0.o.cells;go_enter func163,ntmps163;go_wp2;refine wp_loop_rounds 4 ?_;rw[rounds_succ];go_wp2_with fail;refine Zz (H1.o _) ?_;intro w1 Z;have q1:=Z.blk (Qh.new (w.alloc (.cells (Z4 s.leaf s) 29)) #[.func (.func 219) #[] #[],ZI 130] 288) (λh=>h);have r1:=q1.cell 1;simp at r1;replace Z:=((Zg Qb (w.alloc (.cells (Z4 s.leaf s) 29))).alloc (.cells #[.func (.func 219) #[] #[],ZI 130] 288)).aA Z;have S1:=O (S0.o.aB Z);have C1:=O (C0.o.aA Z);clear Z q1 u z B E I J K R U V c d k q;obtain⟨u,z,B,E,I,J,K,R,U,V,c,d,k,q⟩:=S1.o.cells;have z1:=Qh.lt S1.o;go_wp2;clear r1;rw[rounds_succ];go_wp2_with fail;refine Zz (H2.o _) ?_;intro w2 c2;have q2:=c2.blk (Qh.new w1 #[.func (.func 220) #[] #[],ZI 30] 288) (λh=>h);have r2:=q2.cell 1;simp at r2;replace c2:=((Zg Qb w1).alloc (.cells #[.func (.func 220) #[] #[],ZI 30] 288)).aA c2;have S2:=O (S1.o.aB c2);have C2:=O (C1.o.aA c2);clear c2 q2 u z B E I J K R U V c d k q;obtain⟨u,z,B,E,I,J,K,R,U,V,c,d,k,q⟩:=S2.o.cells;have z2:=Qh.lt S2.o;clear z1;go_wp2;clear r2;rw[rounds_succ];go_wp2_with fail;refine Zz (H3.o _) ?_;intro w3 c3;have q3:=c3.blk (Qh.new w2 #[.func (.func 221) #[] #[],ZI 130] 288) (λh=>h);have r3:=q3.cell 1;simp at r3;replace c3:=((Zg Qb w2).alloc (.cells #[.func (.func 221) #[] #[],ZI 130] 288)).aA c3;have S3:=O (S2.o.aB c3);have C3:=O (C2.o.aA c3);clear c3 q3 u z B E I J K R U V c d k q;obtain⟨u,z,B,E,I,J,K,R,U,V,c,d,k,q⟩:=S3.o.cells;have z3:=Qh.lt S3.o;clear z2;go_wp2;clear r3;rw[rounds_succ];go_wp2_with fail;refine Zz (H4.o _) ?_;intro w4 c4;have q4:=c4.blk (Qh.new w3 #[.func (.func 222) #[] #[],ZI 130] 288) (λh=>h);have r4:=q4.cell 1;simp at r4;replace c4:=((Zg Qb w3).alloc (.cells #[.func (.func 222) #[] #[],ZI 130] 288)).aA c4;have S4:=O (S3.o.aB c4);have C4:=O (C3.o.aA c4);clear c4 q4 u z B E I J K R U V c d k q;obtain⟨u,z,B,E,I,J,K,R,U,V,c,d,k,q⟩:=S4.o.cells;have z4:=Qh.lt S4.o;clear z3;go_wp2;go_ret;exact⟨rfl,C4.o⟩
    |true=>
     cases x5 with
     |false=> obtain⟨u,z,B,E,I,J,K,R,U,V,c,d,k,q⟩:=S0.o.cells;go_enter func163,ntmps163;go_wp2;refine wp_loop_rounds 5 ?_;rw[rounds_succ];go_wp2_with fail;refine Zz (H1.o _) ?_;intro w1 Z;have q1:=Z.blk (Qh.new (w.alloc (.cells (Z4 s.leaf s) 29)) #[.func (.func 219) #[] #[],ZI 130] 288) (λh=>h);have r1:=q1.cell 1;simp at r1;replace Z:=((Zg Qb (w.alloc (.cells (Z4 s.leaf s) 29))).alloc (.cells #[.func (.func 219) #[] #[],ZI 130] 288)).aA Z;have S1:=O (S0.o.aB Z);have C1:=O (C0.o.aA Z);clear Z q1 u z B E I J K R U V c d k q;obtain⟨u,z,B,E,I,J,K,R,U,V,c,d,k,q⟩:=S1.o.cells;have z1:=Qh.lt S1.o;go_wp2;clear r1;rw[rounds_succ];go_wp2_with fail;refine Zz (H2.o _) ?_;intro w2 c2;have q2:=c2.blk (Qh.new w1 #[.func (.func 220) #[] #[],ZI 30] 288) (λh=>h);have r2:=q2.cell 1;simp at r2;replace c2:=((Zg Qb w1).alloc (.cells #[.func (.func 220) #[] #[],ZI 30] 288)).aA c2;have S2:=O (S1.o.aB c2);have C2:=O (C1.o.aA c2);clear c2 q2 u z B E I J K R U V c d k q;obtain⟨u,z,B,E,I,J,K,R,U,V,c,d,k,q⟩:=S2.o.cells;have z2:=Qh.lt S2.o;clear z1;go_wp2;clear r2;rw[rounds_succ];go_wp2_with fail;refine Zz (H3.o _) ?_;intro w3 c3;have q3:=c3.blk (Qh.new w2 #[.func (.func 221) #[] #[],ZI 130] 288) (λh=>h);have r3:=q3.cell 1;simp at r3;replace c3:=((Zg Qb w2).alloc (.cells #[.func (.func 221) #[] #[],ZI 130] 288)).aA c3;have S3:=O (S2.o.aB c3);have C3:=O (C2.o.aA c3);clear c3 q3 u z B E I J K R U V c d k q;obtain⟨u,z,B,E,I,J,K,R,U,V,c,d,k,q⟩:=S3.o.cells;have z3:=Qh.lt S3.o;clear z2;go_wp2;clear r3;rw[rounds_succ];go_wp2_with fail;refine Zz (H4.o _) ?_;intro w4 c4;have q4:=c4.blk (Qh.new w3 #[.func (.func 222) #[] #[],ZI 130] 288) (λh=>h);have r4:=q4.cell 1;simp at r4;replace c4:=((Zg Qb w3).alloc (.cells #[.func (.func 222) #[] #[],ZI 130] 288)).aA c4;have S4:=O (S3.o.aB c4);have C4:=O (C3.o.aA c4);clear c4 q4 u z B E I J K R U V c d k q;obtain⟨u,z,B,E,I,J,K,R,U,V,c,d,k,q⟩:=S4.o.cells;have z4:=Qh.lt S4.o;clear z3;go_wp2;clear r4;rw[rounds_succ];go_wp2_with fail;refine Zz (H5.o _) ?_;intro w5 c5;have q5:=c5.blk (Qh.new w4 #[.func (.func 223) #[] #[],ZI 130] 288) (λh=>h);have r5:=q5.cell 1;simp at r5;replace c5:=((Zg Qb w4).alloc (.cells #[.func (.func 223) #[] #[],ZI 130] 288)).aA c5;have S5:=O (S4.o.aB c5);have C5:=O (C4.o.aA c5);clear c5 q5 u z B E I J K R U V c d k q;obtain⟨u,z,B,E,I,J,K,R,U,V,c,d,k,q⟩:=S5.o.cells;have z5:=Qh.lt S5.o;clear z4;go_wp2;go_ret;exact⟨rfl,C5.o⟩
     |true=> obtain⟨u,z,B,E,I,J,K,R,U,V,c,d,k,q⟩:=S0.o.cells;go_enter func163,ntmps163;go_wp2;refine wp_loop_rounds 6 ?_;rw[rounds_succ];go_wp2_with fail;refine Zz (H1.o _) ?_;intro w1 Z;have q1:=Z.blk (Qh.new (w.alloc (.cells (Z4 s.leaf s) 29)) #[.func (.func 219) #[] #[],ZI 130] 288) (λh=>h);have r1:=q1.cell 1;simp at r1;replace Z:=((Zg Qb (w.alloc (.cells (Z4 s.leaf s) 29))).alloc (.cells #[.func (.func 219) #[] #[],ZI 130] 288)).aA Z;have S1:=O (S0.o.aB Z);have C1:=O (C0.o.aA Z);clear Z q1 u z B E I J K R U V c d k q;obtain⟨u,z,B,E,I,J,K,R,U,V,c,d,k,q⟩:=S1.o.cells;have z1:=Qh.lt S1.o;go_wp2;clear r1;rw[rounds_succ];go_wp2_with fail;refine Zz (H2.o _) ?_;intro w2 c2;have q2:=c2.blk (Qh.new w1 #[.func (.func 220) #[] #[],ZI 30] 288) (λh=>h);have r2:=q2.cell 1;simp at r2;replace c2:=((Zg Qb w1).alloc (.cells #[.func (.func 220) #[] #[],ZI 30] 288)).aA c2;have S2:=O (S1.o.aB c2);have C2:=O (C1.o.aA c2);clear c2 q2 u z B E I J K R U V c d k q;obtain⟨u,z,B,E,I,J,K,R,U,V,c,d,k,q⟩:=S2.o.cells;have z2:=Qh.lt S2.o;clear z1;go_wp2;clear r2;rw[rounds_succ];go_wp2_with fail;refine Zz (H3.o _) ?_;intro w3 c3;have q3:=c3.blk (Qh.new w2 #[.func (.func 221) #[] #[],ZI 130] 288) (λh=>h);have r3:=q3.cell 1;simp at r3;replace c3:=((Zg Qb w2).alloc (.cells #[.func (.func 221) #[] #[],ZI 130] 288)).aA c3;have S3:=O (S2.o.aB c3);have C3:=O (C2.o.aA c3);clear c3 q3 u z B E I J K R U V c d k q;obtain⟨u,z,B,E,I,J,K,R,U,V,c,d,k,q⟩:=S3.o.cells;have z3:=Qh.lt S3.o;clear z2;go_wp2;clear r3;rw[rounds_succ];go_wp2_with fail;refine Zz (H4.o _) ?_;intro w4 c4;have q4:=c4.blk (Qh.new w3 #[.func (.func 222) #[] #[],ZI 130] 288) (λh=>h);have r4:=q4.cell 1;simp at r4;replace c4:=((Zg Qb w3).alloc (.cells #[.func (.func 222) #[] #[],ZI 130] 288)).aA c4;have S4:=O (S3.o.aB c4);have C4:=O (C3.o.aA c4);clear c4 q4 u z B E I J K R U V c d k q;obtain⟨u,z,B,E,I,J,K,R,U,V,c,d,k,q⟩:=S4.o.cells;have z4:=Qh.lt S4.o;clear z3;go_wp2;clear r4;rw[rounds_succ];go_wp2_with fail;refine Zz (H5.o _) ?_;intro w5 c5;have q5:=c5.blk (Qh.new w4 #[.func (.func 223) #[] #[],ZI 130] 288) (λh=>h);have r5:=q5.cell 1;simp at r5;replace c5:=((Zg Qb w4).alloc (.cells #[.func (.func 223) #[] #[],ZI 130] 288)).aA c5;have S5:=O (S4.o.aB c5);have C5:=O (C4.o.aA c5);clear c5 q5 u z B E I J K R U V c d k q;obtain⟨u,z,B,E,I,J,K,R,U,V,c,d,k,q⟩:=S5.o.cells;have z5:=Qh.lt S5.o;clear z4;go_wp2;clear r5;rw[rounds_succ];go_wp2;go_ret;exact⟨rfl,C5.o⟩
end
structure Vm where
 sp:Yk
 d:Nat
def Vm.id(c:Vm):Int:=c.sp.id
abbrev Qm:=List Vm
def Qm.at(h:Qm)(id:Int):Option Vm:=h.find? λc=>decide (c.sp.id=id)
def Qm.aM(h:Qm)(id:Int):List Int:=(h.filter λc=>decide (c.sp.par=id)).map (·.sp.id)
def Mb(c:Vm):Qm->Qm
 |[]=>[c]
 |x::l=>if c.sp.id<x.sp.id then c::x::l else x::Mb c l
def Qm.depth(h:Qm)(c:Int):Nat:=if c=0 then 1 else match h.at c with
 |none=>0
 |some p=>if p.sp.leaf||decide (8<=p.d)then 0 else p.d+1
def Qm.aO(h:Qm)(s:Yk):Int:=
 if s.mayE≠0 then 130 else if 64<=h.length then 4 else if(h.at s.id).isSome then 80 else if h.depth s.par=0 then 160 else 0
def Qm.add(h:Qm)(s:Yk):Qm:=if h.aO s=0 then Mb ⟨s,h.depth s.par⟩ h else h
def Yk.aK(a s:Yk):Yk:={a with real:=s.real,share:=s.share,aN:=s.aN}
def Qm.aG(h:Qm)(s:Yk):Int:=match h.at s.id with
 |none=>81
 |some c=>if(c.sp.aK s).mayE≠0 then 130 else 0
def Qm.change(h:Qm)(s:Yk):Qm:=if h.aG s=0 then h.map λx=>if x.sp.id=s.id then⟨x.sp.aK s,x.d⟩else x else h
def Qm.aP(h:Qm)(id:Int):Int:=match h.at id with
 |none=>81
 |some _=>if h.aM id≠[]then 161 else 0
def Qm.drop(h:Qm)(id:Int):Qm:=if h.aP id=0 then h.filter λx=>!decide (x.sp.id=id)else h
def Qm.path(h:Qm):Nat->Int->List Int
 |0,_=>[]
 |n+1,id=>match h.at id with
  |none=>[]
  |some c=>id::h.path n c.sp.par
def Qm.below(h:Qm)(id x:Int):Bool:=decide (id=0)||(h.path 9 x).contains id
def Qm.aI(h:Qm)(id:Int):List Int:=(h.filter λc=>c.sp.leaf&&h.below id c.sp.id).map (·.sp.id)
def Eo(n c:Int):Int:=if c<1\/65536<=c then 2 else if n<1\/c<n then 100 else 0
structure Qw where
 id:Int
 pk:Nat
 bt:Nat
 q:List Jr
 debt:Option Ju
structure Qf where
 most:Int
 tree:Qm
 aI:List Qw
 row:List Xu
 pick:Qe
def Qf.new(c:Int):Qf:=⟨c,[],[],[],Qe.new⟩
def Xl(c:Jy):Option Ju:=if c.none then none else some (Ju.new c)
def Yk.aJ(s:Yk):Bool:=!s.share.none&&decide s.share.May
def Ha(c:Jy):Kg:=if c.none||!decide c.May then none else some (.new c)
def Qe.put(p:Qe)(s:Yk):Qe:=match p.at s.par with
 |none=>p
 |some q=>if s.id<1||(p.at s.id).isSome||q.leaf then p else
  Qe.set (p++[⟨s.id,s.par,s.leaf,s.aJ,0,Ha s.aN,⟨[],0⟩,[],0⟩]) {q with mem:=if s.aJ then q.mem.add s.id s.share else q.mem,aM:=q.aM+1}
def Qe.drop(p:Qe)(id:Int):Qe:=match p.at id with
 |none=>p
 |some c=>if id<1||decide (0<c.aM)||p.aL id then p else match p.at c.par with
  |none=>p
  |some q=>(p.set {q with mem:=q.mem.drop id,aM:=q.aM-1}).filter λx=>!decide (x.id=id)
def Qe.aK(p:Qe)(s:Yk):Qe:=match p.at s.id with
 |none=>p
 |some c=>if s.id<1||p.aL s.id then p else
  (p.fam s.id λf=>if s.aJ then(f.drop s.id).add s.id s.share else f.drop s.id).map λx=>if x.id=s.id then{x with aJ:=s.aJ,total:=0,limit:=Ha s.aN}else x
def Qf.leaf(s:Qf)(id:Int):Option Qw:=s.aI.find? λl=>decide (l.id=id)
def Qf.aR(s:Qf)(l:Qw):Qf:={s with aI:=s.aI.map λx=>if x.id=l.id then l else x}
def Qf.qOf(s:Qf)(id:Int):List Jr:=((s.leaf id).map (·.q)).getD []
def Qf.many(s:Qf)(id:Int):Int:=((s.tree.aI id).map λx=>((s.qOf x).length:Int)).sum
def Qf.bytes(s:Qf)(id:Int):Int:=((s.tree.aI id).map λx=>Jn (s.qOf x)).sum
def Qf.aO(s:Qf)(c:Yk):Int:=s.tree.aO c
def Qf.add(s:Qf)(c:Yk):Qf:=if s.aO c=0 then
  {s with tree:=s.tree.add c,pick:=s.pick.put c,aI:=if c.leaf then s.aI++[⟨c.id,c.pk.toNat,c.bt.toNat,[],Xl c.real⟩]else s.aI}
 else s
def Qf.aG(s:Qf)(c:Yk):Int:=if(s.tree.at c.id).isNone then 81 else if 0<s.many c.id then 230 else s.tree.aG c
def Qf.change(s:Qf)(c:Yk):Qf:=if s.aG c=0 then
  {s with tree:=s.tree.change c,pick:=s.pick.aK c,aI:=s.aI.map λl=>if l.id=c.id then{l with debt:=Xl c.real}else l}
 else s
def Qf.aP(s:Qf)(id:Int):Int:=if(s.tree.at id).isNone then 81 else if s.tree.aM id≠[]then 161 else if 0<s.many id then 230 else 0
def Qf.drop(s:Qf)(id:Int):Qf:=if s.aP id=0 then
  {s with tree:=s.tree.drop id,pick:=s.pick.drop id,aI:=s.aI.filter λl=>!decide (l.id=id)}
 else s
def Hj(c:List Xu)(id:Int)(d:Ju):List Xu:=if d.aL then Vf id d.elig d.due c else Xa id c
def Qf.owe(s:Qf)(l:Qw)(f:Ju->Ju):Qf:=match l.debt with
 |none=>s.aR l
 |some d=>{s.aR {l with debt:=some (f d)}with row:=Hj s.row l.id (f d)}
def Qf.aQ(s:Qf)(p:Jr):Int:=match s.tree.at p.cls with
 |none=>81
 |some c=>if !c.sp.leaf then 162 else if Eo p.len s.most≠0 then Eo p.len s.most else match s.leaf p.cls with
  |none=>1
  |some l=>if l.q.length=l.pk\/(l.bt:Int)-Jn l.q<p.len then 110 else 0
def Qf.push(s:Qf)(p:Jr)(now:Nat):Qf:=if s.aQ p=0 then match s.leaf p.cls with
  |none=>s
  |some l=>
   let l':={l with q:=l.q++[p]}
   if l.q≠[]then s.aR l' else
    let s':=s.owe l' λd=>d.wake now p.len
    {s' with pick:=s'.pick.wake p.cls now}
 else s
structure ChM where
 p:Jr
 rule:Nat
 due:Nat
def Qf.aX(s:Qf)(id:Int)(rule:Nat):ChM:=match s.leaf id with
 |none=>⟨Jr.zero,rule,0⟩
 |some l=>⟨l.q.headD Jr.zero,rule,match l.debt with
  |none=>0
  |some d=>if rule=1 then d.dueAt else 0⟩
def Qf.take(s:Qf)(id:Int)(rule:Nat):Qf:=match s.leaf id with
 |none=>s
 |some l=>
  let p:=l.q.headD Jr.zero;let c:=l.q.tail.headD Jr.zero;let s':=s.owe {l with q:=l.q.tail} λd=>d.serve rule p.len c.len
  {s' with pick:=s'.pick.sent id (p.len*256).toNat (decide (l.q.tail≠[]))}
def Qf.who(s:Qf)(now:Nat):Option (Int×Nat):=match Jt now s.row with
 |some x=>some (x.2,1)
 |none=>(s.pick.next now 10 0).map λid=>(id,2)
def Qf.next(s:Qf)(now:Nat):Option ChM×Qf:=match s.who now with
 |none=>(none,s)
 |some (id,rule)=>(some (s.aX id rule),s.take id rule)
def Hk(c:List Xu):Nat:=match c with
 |[]=>Qq
 |e::_=>e.1
def Qf.tick(s:Qf):Nat:=min (Hk s.row) s.pick.tick
end Go.Proofs.YtigcnnkagkbflaaGreat
