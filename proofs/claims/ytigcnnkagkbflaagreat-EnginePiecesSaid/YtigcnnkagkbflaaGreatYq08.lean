/- A part of the proof: no condition. -/
import Derived.Test.YtigcnnkagkbflaaGreatYq01
import Derived.RangeFuncBox
import Derived.RangeFuncStops
import Derived.RangeFuncMany
import Derived.Sort.MapsRangeIn
import Derived.Sort.KeysCollected
import Derived.RegionIn
import Derived.RangeFuncWrites
import Derived.Outline
import Derived.RegionTactic
import Derived.ChangeAlike
namespace Go.Proofs.YtigcnnkagkbflaaGreat
set_option linter.unusedVariables false
set_option maxRecDepth 100000
set_option maxHeartbeats 4000000
open Go.RowKit
open Go.Proofs.Tryz
section
open Go.Maps Go.Shelf
attribute [local go_sem] Oper.semAt_some
theorem law64:Keyed prog 22:=int_keyed underlying22
theorem Qde{key:Value}{c:Lit}(h:keyOf prog 22 key=some c):∃x:Int,key=.int .u64 x/\c=.int .u64 x/\(Lit.int .u64 x).wf=true:=by have d:=underlying22;cases key<;>simp[keyOf,d,mapKey]at h;obtain⟨⟨rfl,k⟩,rfl⟩:=h;exact⟨_,rfl,rfl,k⟩
def Ag{H:Type}(d:DataW H)(left:Lit->Bool)(c:List Int):Prop:=c.Nodup/\∀x,x∈c↔(has d (.int .u64 x)=true/\left (.int .u64 x)=false)
theorem Ag.start{H:Type}(c:DataW H):Ag c (has c) []:=⟨List.nodup_nil,λx=>by cases has c (.int .u64 x)<;>simp⟩
theorem Ag.step{H:Type}{k:DataW H}{left:Lit->Bool}{B:List Int}(h:Ag k left B){x:Int}{y:DataW H}(u:left (.int .u64 x)=true)(q:∀K,k.atKey (.int .u64 x) K=y):
  Ag k (λz=>left z&&!z.sameKey (.int .u64 x)) (B++[x]):=by
 have c:has k (.int .u64 x)=true:=has_true_of_atKey q;have d:x∉B:=λJ=>by have:=((h.2 x).1 J).2;rw[u]at this;cases this
 refine⟨List.nodup_append.2 ⟨h.1,by simp,λa ha b E=>by simp at E;subst E;exact λe=>d (e▸ha)⟩,λy=>?_⟩;by_cases I:y=x;·subst I;simp[c,Lit.sameKey]
 .simp[h.2 y,I,Lit.sameKey]
theorem Qrx(F:Fence)(n:Nat)(k:F.fn 274)(c:F.round=none)(d:Option Nat)(w):
  CallsIn F n prog 274 #[.map d] w λe w'=>e=.returned (.func (.func 286) #[] #[.pointer (some ⟨w.heap.size,0,none⟩)])/\w.alloc (.cells #[.map d] 346)=w':=by
 refine callsIn_of_wp func274 rfl k ?_ c;simp only[ntmps274,List.size_toArray,Zm,List.length_nil,Nat.reduceAdd,Nat.reduceSub,Array.replicate_succ,Array.replicate_zero,List.push_toArray,List.append_toArray,List.nil_append,List.cons_append];gi_wp2;go_ret;exact⟨rfl,rfl⟩
theorem Qo6{H:Type}(F:Fence)(n:Nat)(ae:F.fn 286)(ao:F.round=none)(hn:1<=n)(l Bm b nn:Nat)(u:DataW H){R:Value->Option (DataW H×List MemPlace)}(J Jx:List Int->World->Prop)
  (hY:∀k x W,J k W->k.length<Maps.size u->YieldAt F (n-1) prog l #[.int .u64 x] W λe E=>
   (e=.returned (.bool true)/\J (k++[x]) E/\KeepsWalks W E)\/(e=.returned (.bool false)/\Jx (k++[x]) E))
  (W:World) (hJ:AbidesFrom W.heap.size J) (hm:W.cell? ⟨Bm,0,none⟩=some (.map (some b))) (Z:W.ownsMap prog 22 R b nn u) (h0:J [] W):
  CallsIn F n prog 286 #[.func (.yield l) #[] #[],.pointer (some ⟨Bm,0,none⟩)] W λe E=>(∃v,e=.returned v)/\
   ((∃d:List Int,(d.Nodup/\∀x,x∈d↔has u (.int .u64 x)=true)/\J d E)\/(∃k:List Int,True/\Jx k E)):=by
 refine callsIn_of_wp func286 rfl ae ?_ ao;simp only[ntmps286,List.size_toArray,Zm,List.length_nil,Nat.reduceAdd,Nat.reduceSub,Array.replicate_succ,Array.replicate_zero,List.push_toArray,List.append_toArray,List.nil_append,List.cons_append];gi_wp2_with (first
  |(gi_at_range;refine wpListIn_range_own _ rfl _ 346 rfl 22 3 law64 underlying346 _ b nn _ rfl Z ?_;intro w0 aa aj ax)
  |gi_in)
 go_frame;gi_loopw [3] (λ_ wr=>∃(left:Lit->Bool)(z:Nat)(d:List Int),wr.ranges prog 22 R b W.heap.size nn u left z/\d.length+z<=Maps.size u/\Ag u left d/\J d wr)
  (λ_ wr=>wr.rangeLeft b W.heap.size)
 case atStart=> exact⟨_,_,[],aa,by simp,Ag.start u,hJ [] W w0 none h0 aj (λr e=>by cases e)⟩
 case round=>
  obtain⟨left,z,d,B,av,hC,K⟩:=hrel;gi_wp2_with (first
   |(gi_at_next;refine wpListIn_next_ranges _ rfl _ rfl 22 law64 R (Value.int .u64) id (λkey kl hk=>by obtain⟨x,hx,_⟩:=Qde hk;exact⟨x,hx⟩) (λv _ _=>⟨v,rfl⟩) b W.heap.size nn _ _ _ rfl B ?_ ?_)
   |gi_in)
  .intro au am;gi_wp2;go_end0;exact⟨⟨_,rfl⟩,.inl ⟨d,⟨hC.1,λx=>by rw[hC.2 x,am];simp⟩,K⟩⟩
  .intro x c kl yd yp w2 I V an hv ai ab Xg ak ap aw;obtain⟨x',ex,rfl,_⟩:=Qde V;obtain rfl:x=x':=by simpa using ex
   have ag:J d w2:=hJ d wr w2 (some W.heap.size) K ak (λr e=>by cases e;exact⟨Zv _,B.iter_walk⟩);obtain⟨fn,ar,ac,aq,hy,hR⟩:=hY d x w2 ag (by omega);clear ap;gi_wp2;refine hR.mono ?_;have af:=hC.step an ai;rintro e W3(⟨rfl,ah,al⟩|⟨rfl,U⟩)
   .gi_wp2;have q:=ab.of_walks al;go_roundw;case rel=>exact⟨_,I,d++[x],q,by simp;omega,af,ah⟩
    case measure=>rw[q.left_eq,B.left_eq];exact Xg
   .gi_wp2;refine WA rfl rfl ?_;exact⟨⟨_,rfl⟩,.inr ⟨d++[x],trivial,U⟩⟩
theorem Qhu{H:Type}(F:Fence)(n:Nat)(z:F.fn 286)(I:F.round=none)(hn:1<=n)(q b K:Nat)(u:DataW H){R:Value->Option (DataW H×List MemPlace)}(w:World)(B:q<w.heap.size)
  (hm:w.cell? ⟨q,0,none⟩=some (.map (some b)))(c:w.ownsMap prog 22 R b K u):
  SeqStopsA F n prog 286 #[.pointer (some ⟨q,0,none⟩)] (λx:Int=>#[Value.int .u64 x]) (λV=>V.Nodup/\∀x,x∈V↔has u (.int .u64 x)=true) (λaa=>True) (Maps.size u) w:=λl J Jx W U hJ _ hY h0=>by
 have k:W.ownsMap prog 22 R b K u:=by have E:=c.lt;obtain⟨es,d,hb,Z,hs,hD⟩:=c;exact⟨es,d,(U.block b E).trans hb,Z,hs,hD⟩
 exact Qo6 F n z I hn l q b K u J Jx hY W hJ ((U.cell (p:=⟨q,0,none⟩) B).trans hm) k h0
theorem Qtq:(prog.info? 22).map (λi=>(i.zero,i.size,i.bytes))=some (some (.int .u64 0),1,8):=by kernel_rfl
theorem Qn2{H:Type}(F:Fence)(n:Nat)(h3:F.fn 290)(h5:F.fn 286)(U:F.round=none)(hn:3<=n)(u b nn:Nat)(V:DataW H){R:Value->Option (DataW H×List MemPlace)}(w:World)(ap:Maps.size V<maxLen)(ae:Maps.size V*8+8<=140737488355328)
  (af:u<w.heap.size)(hm:w.cell? ⟨u,0,none⟩=some (.map (some b)))(z:w.ownsMap prog 22 R b nn V):
  CallsIn F n prog 290 #[.slice none 0 0,.func (.func 286) #[] #[.pointer (some ⟨u,0,none⟩)]] w λe W'=>∃(v:Value)(ss:List Int),e=.returned v/\W'.ownsRow w.heap.size 22 1 v ss.length (ss.map (Value.int .u64))/\ss.Nodup/\(∀x,x∈ss↔has V (.int .u64 x)=true)/\Below w.heap.size w W':=by
 have h1:1<=n:=by omega
 obtain⟨i0,hi,al,am,an⟩:=info_parts Qtq;refine callsIn_of_wp_marks func290 rfl h3 ?_ U;simp only[ntmps290,List.size_toArray,Zm,List.length_nil,Nat.reduceAdd,Nat.reduceSub,Array.replicate_succ,Array.replicate_zero,List.push_toArray,List.append_toArray,List.nil_append,List.cons_append];gi_wp2;have bO:=Boxed.new w 296 (.slice none 0 0);have E:Below w.heap.size w (w.alloc (.cells #[.slice none 0 0] 296)):=(Below.refl _ w).alloc (Zv _) _;have J:(w.alloc (.cells #[.slice none 0 0] 296)).ownsMap prog 22 R b nn V:=by have ah:=z.lt;obtain⟨es,B,hb,Ft,hs,hD⟩:=z;exact⟨es,B,(E.block b ah).trans hb,Ft,hs,hD⟩
 refine wpIn_rangeFunc_ownG U h1 (gf:=286) (lb:=#[.pointer (some ⟨u,0,none⟩)]) rfl h5 (enters_of func286 (by kernel_rfl) rfl)
  (Qhu F (n-1) h5 U (by omega) u b nn V _ (by simp;omega) ((E.cell (p:=⟨u,0,none⟩) af).trans hm) J) walksK_t walksK_b (Below.refl _ _) (λ_=>rfl)
  (λ(d:List Int)W=>(∃v,Boxed W w.heap.size 296 v/\W.ownsRow w.heap.size 22 1 v d.length (d.map (Value.int .u64))/\True)/\Below w.heap.size w W)
  (λ_ _ _=>False)
  (OwnFrom.and (Own.from (holdsRow_own w.heap.size w.heap.size 296 22 1 (λ(d:List Int)=>d.length) (λ(d:List Int)=>d.map (Value.int .u64)) (λ(d:List Int)v=>True)) _) (ownFrom_below (Zv _) (by simp)))
  (λ_ _ _ _ _ hs _ _=>hs)
  ⟨⟨_,bO,World.ownsRow_nil _ _ _ _,trivial⟩,E⟩
  (λx=>{tmps:=#[.slice none 0 0,.func (.func 286) #[] #[.pointer (some ⟨u,0,none⟩)],.pointer (some ⟨w.heap.size,0,none⟩),undef,.slice none 0 0,.int .u64 x,.func (.func 286) #[] #[.pointer (some ⟨u,0,none⟩)],.int .u64 x,undef,undef,undef,undef,undef],defers:=[]}) ?assign ?body ?done ?stop
 case assign=> intro l x W K hK;gi_wp2;exact hK
 case body=> rintro l d x W⟨⟨v,hv,k,_⟩,Z⟩Xg;have hc:=hv.cell;gi_wp2_with (gi_at_builtin;refine wpListIn_append_own _ rfl _ _ 296 rfl w.heap.size 22 i0 (.int .u64 0) 1 8 underlying296 hi al am an rfl (by decide) _ _ _ rfl (k.alloc _) ⟨W.heap.size,0,none⟩ 1 1 [.int .u64 x] rfl rfl (cell_one_new _ _ _) (by simp[Value.oneCell']) (by omega) (by omega) (by have:=Z.size;simp;omega) ?_;intro v' w1 q I _;obtain⟨g',ao,rfl⟩:=ownsRow_succ q;obtain⟨ac,ak,aj,aa,ag⟩:=hv.appended (by decide) k Z.size (Zv _) q I;have aq:=ac.cell;have ar:=ac.frozen);exact⟨aa.from _,aa.walks,⟨_,ak,by simpa using aj,trivial⟩,Z.trans ag⟩
 case done=> rintro D ys W hD⟨ai,ab⟩⟨⟨v,hv,k,_⟩,Z⟩hK;have hc:=hv.cell;gi_wp2;refine⟨by simp,.inl ⟨_,_,rfl,run_takeDeferred hK,?_⟩⟩;exact⟨_,results_tmp rfl _ _ _,v,ys,rfl,ownsRow_putObj k _ hK rfl,ai,ab,Z.trans (belowK_b (w:=w) (Zv _) W D _ _ (by simp at hD;omega) hK rfl rfl)⟩
 case stop=> rintro D c d W _ _ h _;exact h.elim
end
section
open Go.Maps Go.Shelf
theorem Qcm{H:Type}(B b nn:Nat)(u:DataW H){R:Value->Option (DataW H×List MemPlace)}(w:World)(d:Maps.size u<maxLen)(c:Maps.size u*8+8<=140737488355328)
  (z:B<w.heap.size)(Z:w.cell? ⟨B,0,none⟩=some (.map (some b)))(k:w.ownsMap prog 22 R b nn u):
  Cl 284 #[.func (.func 286) #[] #[.pointer (some ⟨B,0,none⟩)]] w λe I=>∃(v:Value)(q:List Int),e=.returned v/\I.ownsRow w.heap.size 22 1 v q.length (q.map (Value.int .u64))/\q.Nodup/\(∀x,x∈q↔has u (.int .u64 x)=true)/\Below w.heap.size w I:=by
 have C:=O (callsIn_wide.1 (Qn2 Fence.wide 3 trivial trivial rfl (by omega) B b nn u w d c z Z k));clear d c z Z k;apply WH func284;go_wp2_with fail;refine(C.o).mono ?_;rintro e w1⟨v,q,rfl,J,K,U,V⟩;have E:=O (Zt J (Zt K (Zt U V)));clear J K U V;go_wp2;go_ret;exact⟨v,q,rfl,E.o.1,E.o.2.1,E.o.2.2.1,E.o.2.2.2⟩
theorem Qub(a:Option Addr)(cap:Nat)(k:Int)(d:k<=1)(c:0<=k)(w):Cl 293 #[.slice a k.toNat cap,.int .i64 0,.int .i64 k] w λe w'=>(∃r,e=.returned r)/\w=w':=by apply WH func293;go_wp2;refine wp_loop_rounds 1 ?_;rw[rounds_succ];go_wp2;go_end0;exact⟨⟨_,rfl⟩,rfl⟩
theorem Qnt(a:Option Addr)(cap:Nat)(k c:Int)(q:k<=1)(d:0<=k)(w):Cl 291 #[.slice a k.toNat cap,.int .i64 0,.int .i64 k,.int .i64 c] w λe w'=>(∃r,e=.returned r)/\w=w':=by apply WH func291;go_wp2;refine wp_loop_rounds 1 ?_;rw[rounds_succ];go_wp2_with (go_at_call 293;refine(Qub _ _ _ q d _).mono ?_;rintro e w1⟨⟨r,rfl⟩,rfl⟩);refine WA rfl rfl ?_;exact⟨⟨_,rfl⟩,rfl⟩
theorem Qzl(x y:Int)(w):ZW 299 #[.int .u64 x,.int .u64 y] w (.bool (decide (x<y))) λw'=>w=w':=by apply WH func299;exact WE
theorem Quc(g cap:Nat)(x y:Int)(w:World)(k:w.cell? ⟨g,0,none⟩=some (.int .u64 x))(q:w.cell? ⟨g,1,none⟩=some (.int .u64 y))(d:∀i,w.frozen? ⟨g,i,none⟩=false)(Xg:x<=y):
  Cl 293 #[.slice (some ⟨g,0,none⟩) 2 cap,.int .i64 0,.int .i64 2] w λe w'=>(∃r,e=.returned r)/\Qc Qb w w':=by
 have L:=O (Qzl y x);have c:decide (y<x)=false:=by simp;omega
 rw[c]at L;clear Xg c;apply WH func293;go_wp2;refine wp_loop_rounds 2 ?_;rw[rounds_succ];go_wp2;refine wp_loop_rounds 1 ?_;rw[rounds_succ];go_wp2;go_quiet ((go_at_call 299;exact Qbe (L.o _)));go_wp2;rw[rounds_succ];go_wp2;go_end0;refine⟨⟨_,rfl⟩,?_⟩;(exact Z0)
theorem Qsq(g cap:Nat)(x y:Int)(w:World)(k:w.cell? ⟨g,0,none⟩=some (.int .u64 x))(q:w.cell? ⟨g,1,none⟩=some (.int .u64 y))(d:∀i,w.frozen? ⟨g,i,none⟩=false)(Xg:y<x):
  Cl 293 #[.slice (some ⟨g,0,none⟩) 2 cap,.int .i64 0,.int .i64 2] w λe w'=>(∃r,e=.returned r)/\∃n m,(((w.drewN n).setCell ⟨g,1,none⟩ (.int .u64 x)).setCell ⟨g,0,none⟩ (.int .u64 y)).drewN m=w':=by
 have L:=O (Qzl y x);have c:decide (y<x)=true:=by simp;omega
 rw[c]at L;clear Xg c;apply WH func293;go_wp2;refine wp_loop_rounds 2 ?_;rw[rounds_succ];go_wp2;refine wp_loop_rounds 2 ?_;rw[rounds_succ];go_wp2;go_quiet ((go_at_call 299;exact Qbe (L.o _)));go_wp2;go_region;all_goals go_wp2
 rw[rounds_succ];go_wp2;go_quiet (fail);go_wp2;rw[rounds_succ];go_wp2;go_end0;exact⟨⟨_,rfl⟩,_,_,rfl⟩
theorem Qqc(g cap:Nat)(x y:Int)(t:TypeId)(cs:List Value)(w)(c:Qh w g (.int .u64 x:: .int .u64 y::cs).toArray t):
  Cl 293 #[.slice (some ⟨g,0,none⟩) 2 cap,.int .i64 0,.int .i64 2] w λe w'=>(∃r,e=.returned r)/\Qh w' g (.int .u64 (min x y):: .int .u64 (max x y)::cs).toArray t/\Qc (λk=>k=g) w w':=by
 rcases Int.lt_or_le y x with h|h
 .refine(Qsq g cap x y w (c.cell 0) (c.cell 1) c.frozen h).mono λe w' d=>?_;obtain⟨q,n,m,rfl⟩:=d;refine⟨q,?_,?_⟩;·rw[Int.min_eq_right (Int.le_of_lt h),Int.max_eq_left (Int.le_of_lt h)];exact(((c.drewN n).set' 1 _ rfl).set' 0 _ rfl).drewN m
  ·(exact Z0)
 .refine(Quc g cap x y w (c.cell 0) (c.cell 1) c.frozen h).mono λe w' d=>?_;rw[Int.min_eq_left h,Int.max_eq_right h];exact⟨d.1,d.2.blk c (λh=>h),d.2.mono λk h=>h.elim⟩
theorem Qqd(g cap:Nat)(x y c:Int)(t:TypeId)(cs:List Value)(w)(u:Qh w g (.int .u64 x:: .int .u64 y::cs).toArray t):
  Cl 291 #[.slice (some ⟨g,0,none⟩) 2 cap,.int .i64 0,.int .i64 2,.int .i64 c] w λe w'=>(∃r,e=.returned r)/\Qh w' g (.int .u64 (min x y):: .int .u64 (max x y)::cs).toArray t/\Qc (λk=>k=g) w w':=by
 have I:=O (Qqc g cap x y t cs w u);clear u;apply WH func291;go_wp2;refine wp_loop_rounds 1 ?_;rw[rounds_succ];go_wp2_with (go_at_call 293;apply Zo I;rintro e w1⟨⟨r,rfl⟩,d,q⟩;have H:=O (Zt d q);clear d q);refine WA rfl rfl ?_;exact⟨⟨_,rfl⟩,H.o.1,H.o.2⟩
theorem Aq(k:Nat)(c:k<=2)(w):Cl 143 #[.int .u64 k] w λe w'=>(∃r,e=.returned (.int .i64 r))/\w=w':=by
 obtain rfl|rfl|rfl:k=0\/k=1\/k=2:=by omega
 all_goals
  apply WH func143;go_wp2;go_ret;exact⟨⟨_,rfl⟩,rfl⟩
theorem Qbx(a:Option Addr)(cap k:Nat)(d:k<=1)(w):Cl 285 #[.slice a k cap] w λe w'=>(∃r,e=.returned r)/\w=w':=by
 obtain rfl|rfl:k=0\/k=1:=by omega
 .have P:=O (λc w=>Qnt a cap 0 c (by omega) (by omega) w);apply WH func285;go_wp2_with fail;refine(Aq 0 (by omega) _).mono ?_;rintro e w0⟨⟨c,rfl⟩,rfl⟩;go_wp2_with fail;refine(P.o _ _).mono ?_;rintro e w1⟨⟨r,rfl⟩,rfl⟩;go_wp2;go_end0;exact⟨⟨_,rfl⟩,rfl⟩
 .have P:=O (λc w=>Qnt a cap 1 c (by omega) (by omega) w);apply WH func285;go_wp2_with fail;refine(Aq 1 (by omega) _).mono ?_;rintro e w0⟨⟨c,rfl⟩,rfl⟩;go_wp2_with fail;refine(P.o _ _).mono ?_;rintro e w1⟨⟨r,rfl⟩,rfl⟩;go_wp2;go_end0;exact⟨⟨_,rfl⟩,rfl⟩
theorem Qmj(g cap:Nat)(x y:Int)(t:TypeId)(cs:List Value)(w)(u:Qh w g (.int .u64 x:: .int .u64 y::cs).toArray t):
  Cl 285 #[.slice (some ⟨g,0,none⟩) 2 cap] w λe w'=>(∃r,e=.returned r)/\Qh w' g (.int .u64 (min x y):: .int .u64 (max x y)::cs).toArray t/\Qc (λk=>k=g) w w':=by
 have P:=O (λc=>Qqd g cap x y c t cs w u);clear u;apply WH func285;go_wp2_with fail;refine(Aq 2 (by omega) _).mono ?_;rintro e w0⟨⟨c,rfl⟩,rfl⟩;go_wp2_with fail;refine(P.o _).mono ?_;rintro e w1⟨⟨r,rfl⟩,d,q⟩;have H:=O (Zt d q);clear d q;go_wp2;go_end0;exact⟨⟨_,rfl⟩,H.o.1,H.o.2⟩
theorem Qcj{w:World}{base:Nat}{e:TypeId}{sz:Nat}{v:Value}{n:Nat}{k:List Value}(h:w.ownsRow base e sz v n k):∃a cap,v=.slice a n cap:=by
 rcases h.2 with⟨rfl,d⟩|⟨g,cap,c,rfl,_⟩;·exact⟨none,0,by rw[d]⟩
 .exact⟨_,cap,rfl⟩
theorem Qib{w:World}{base:Nat}{e:TypeId}{v:Value}{x y:Value}(h:w.ownsRow base e 1 v 2 [x,y]):∃g cap cs,v=.slice (some ⟨g,0,none⟩) 2 cap/\base<=g/\Qh w g (x::y::cs).toArray e/\
  ∀(w')(d k:Value),Qh w' g (d::k::cs).toArray e->w'.ownsRow base e 1 v 2 [d,k]:=by
 rcases h.2 with⟨_,B⟩|⟨g,cap,c,rfl,q,I,J,E,K,u⟩;·cases B
 .have z:c.toList=x::y::c.toList.drop 2:=by have:=List.take_append_drop 2 c.toList;rw[Nat.mul_one]at u;rw[u]at this;exact this.symm
  refine⟨g,cap,c.toList.drop 2,rfl,q,?_,λw' d k R=>?_⟩;·unfold Qh;rw[I,<-z]
  .refine⟨rfl,.inr ⟨g,cap,(d::k::c.toList.drop 2).toArray,rfl,q,R,J,E,?_,?_⟩⟩;·have U:c.size=cap*1:=K;simp;omega
   .simp
theorem Qfw{H:Type}(Bm b nn:Nat)(U:DataW H){R:Value->Option (DataW H×List MemPlace)}(w:World)(E:Maps.size U<maxLen)(c:Maps.size U*8+8<=140737488355328)
  (aa:∀u:List Int,u.Nodup->(∀x,x∈u↔has U (.int .u64 x)=true)->u.length<=2)
  (Z:Bm<w.heap.size) (hm:w.cell? ⟨Bm,0,none⟩=some (.map (some b))) (I:w.ownsMap prog 22 R b nn U):
  Cl 273 #[.func (.func 286) #[] #[.pointer (some ⟨Bm,0,none⟩)]] w λe W'=>∃(v:Value)(u:List Int),e=.returned v/\W'.ownsRow w.heap.size 22 1 v u.length (u.map (Value.int .u64))/\u.length<=2/\(∀x,x∈u↔has U (.int .u64 x)=true)/\Below w.heap.size w W':=by
 have C:=O (Qcm Bm b nn U w E c Z hm I);clear E c Z hm I;apply WH func273;go_wp2_with fail;apply Zo C;rintro e w1⟨v,u,rfl,J,h2,K,V⟩;have hl:=aa u h2 K;obtain⟨a,cap,rfl⟩:=Qcj J
 match u,hl with
 |[],_=> have S:=O (Qbx a cap 0 (by omega) w1);have d:=O (Zt J (Zt K V));clear J h2 K V;go_wp2_with fail;apply Zo S;rintro e w2⟨⟨r,rfl⟩,rfl⟩;go_wp2;go_ret;exact⟨_,[],rfl,d.o.1,by simp,d.o.2.1,d.o.2.2⟩
 |[x],_=> have S:=O (Qbx a cap 1 (by omega) w1);have d:=O (Zt J (Zt K V));clear J h2 K V;go_wp2_with fail;apply Zo S;rintro e w2⟨⟨r,rfl⟩,rfl⟩;go_wp2;go_ret;exact⟨_,[x],rfl,d.o.1,by simp,d.o.2.1,d.o.2.2⟩
 |[x,y],_=>
  obtain⟨g,ab,cs,hv,hb,hB,q⟩:=Qib J;injection hv with e1 e2 e3;subst e1 e3;have S:=O (Qmj g cap x y _ cs w1 hB);have d:=O (Zt q (Zt K (Zt V hb)));clear J h2 K V hB q hb;go_wp2_with fail;apply Zo S;rintro e w2⟨⟨r,rfl⟩,s1,s2⟩;have HS:=O (Zt s1 s2);clear s1 s2;go_wp2;go_ret;refine⟨_,[min x y,max x y],rfl,d.o.1 _ _ _ HS.o.1,by simp,λz=>?_,?_⟩;·rw[<-d.o.2.1 z];simp only[Zu,List.not_mem_nil,or_false];omega
  .refine d.o.2.2.1.trans (HS.o.2.toBelow (B:=w.heap.size) d.o.2.2.1.size (λk hk=>by have:=d.o.2.2.2;have ac:k=g:=hk;omega))
end
end Go.Proofs.YtigcnnkagkbflaaGreat
