/- A part of the proof: no condition. -/
import Derived.Test.YtnnhmpehkbihnaaGreatPk25
import Derived.Test.YtnnhmpehkbihnaaGreatPk22
namespace Go.Proofs.YtnnhmpehkbihnaaGreat
set_option linter.unusedVariables false
set_option maxRecDepth 100000
set_option maxHeartbeats 4000000
open Go.RowKit
open Go.Proofs.Tryz
section
open Go.Shelf
attribute [local go_sem] Oper.semAt_some Qp
theorem Qqi(n l' V b:Nat)(T:Fp)(J K:List Xu→World→Prop)(W){t:Tr}{p:Value}{k:Int}(hB:Qh W V #[ptr b] 195)(U:Qh W b #[Dd,Vv,t.aH,.int .i64 k] 254)(hA:Jw W t)(u:∀a∈t.aC,T a)
  (hJ:∀c W,J c W→J c W.drew)
  (hY:∀m c x R,J c R→c.length<t.flat.length→YieldAt Fence.wide m prog l' (Qof x) R fun e d=>(e=.returned (.bool true)∧J (c++[x]) d∧Le T R d)∨(e=.returned (.bool false)∧K (c++[x]) d))(h0:J [] W):
  CallsIn Fence.wide n prog 227 #[.func (.yield l') #[] #[],.pointer (some ⟨V,0,none⟩)] W fun e d=>(∃v,e=.returned v)∧((∃B,B=t.flat∧J B d)∨(∃c,c<+:t.flat∧K c d)):=by
 have Z:=O (fun n=>Wf (n:=n) hJ hY t);have c0:=Jf hB;obtain⟨c1,c2,c3,c4⟩:=X9 U;have I:=O (Zt hA (Zt u h0));have HN:=O (fun W(h:Qgc W b)=>Od h);have q:Hi (Qgc W b):=O ⟨_,_,U⟩;obtain⟨pv,z⟩:=Zx (t.aH);rw[←z]at c3 Z;clear z hB U hA u hJ hY h0;unfold ptr at*;refine callsIn_of_wp func227 rfl trivial ?_ rfl;simp only[ntmps227,List.size_toArray,Zm,List.length_nil,Nat.reduceAdd,Nat.reduceSub,Array.replicate_succ,Array.replicate_zero,List.push_toArray,List.append_toArray,List.nil_append,List.cons_append];gi_wp2;refine⟨trivial,(fun h=>by cases h),?_⟩;refine(callsIn_wide.2 (HN.o _ q.o)).mono ?_;rintro e w1⟨rfl,rfl⟩;gi_wp2;refine⟨trivial,(fun h=>by cases h),?_⟩;refine(Z.o _ [] W I.o.1 I.o.2.1 I.o.2.2 (by simp)).mono ?_;rintro e w2⟨b2,rfl,k1,k2⟩;have E:Hi ((∃B,B=t.flat∧J B w2)∨(∃c,c<+:t.flat∧K c w2)):=O (by
  cases b2 with
  |true=>exact .inl ⟨_,rfl,by simpa using(k1 rfl).1⟩
  |false=>
   obtain⟨p,hp,hx⟩:=k2 rfl;exact .inr ⟨p,hp,by simpa using hx⟩)
 clear k1 k2;gi_wp2;refine bodyPost_end (results_none rfl _ _ _) rfl ?_;exact⟨⟨_,rfl⟩,E.o⟩
theorem Qjc(n q b:Nat)(T:Fp)(w){t:Tr}{p:Value}{k:Int}(I:Qh w q #[ptr b] 195)(R:Qh w b #[Dd,Vv,t.aH,.int .i64 k] 254)(E:Jw w t)(u:∀a∈t.aC,T a):
  SeqStopsK Fence.wide n prog 227 #[.pointer (some ⟨q,0,none⟩)] Qof (Le T) (fun V=>V=t.flat) (fun c=>c<+:t.flat) t.flat.length w:=fun l' J z W hW K _ U h0=>
 Qqi (p:=p) n l' q b T J z W ((Qc.ofBelow (S:=Qb) hW).blk I (fun h=>h)) ((Qc.ofBelow (S:=Qb) hW).blk R (fun h=>h)) (Jw.aB (Qc.ofBelow (S:=Qb) hW) t E (fun _ _ h=>h)) u
  (fun c d h=>K c d d.drew none h ⟨rfl,rfl,rfl,Zv _,fun _ _ _=>rfl⟩ (fun r e=>by cases e)) (fun m c x d h1 B=>Qf6 (U c x d h1 B)) h0
theorem Qqj(b:Nat)(w):Cl 213 #[ptr b] w fun e w'=>e=.returned (.func (.func 227) #[] #[.pointer (some ⟨w.heap.size,0,none⟩)])∧w'=w.alloc (.cells #[ptr b] 195):=by unfold ptr;go_enter func213,ntmps213;go_wp2;go_ret;exact⟨rfl,rfl⟩
def Qrf(l:List Xu):Nat:=(l.head?.map (·.1)).getD 0
def Wl(l:List Xu):Int:=(l.head?.map (·.2.1)).getD 0
theorem Qis{w}{F:Fp}{b:Nat}{l:List Xu}(h:Vz w F b l):
  Cl 170 #[ptr b] w fun e w'=>e=.returned (.tuple #[Yo (Qrf l) (Wl l),.bool (!l.isEmpty)])∧Qc Qb w w':=by
 obtain⟨t,hR⟩:=h;have HU:=O (Qqj b);refine callsIn_wide (n:=9).1 ?_;unfold ptr at HU⊢;refine callsIn_of_wp_marks func170 rfl trivial ?_;simp only[ntmps170,List.size_toArray,Zm,List.length_nil,Nat.reduceAdd,Nat.reduceSub,Array.replicate_succ,Array.replicate_zero,List.push_toArray,List.append_toArray,List.nil_append,List.cons_append];gi_wp2_with (refine⟨trivial,?_⟩;gi_at_call 213;refine(callsIn_wide.2 (HU.o _)).mono ?_;rintro e w1⟨rfl,rfl⟩);obtain⟨s,hs⟩:=Zx (w.heap.size);obtain⟨z,B⟩:=Zx ((((w.alloc (.cells #[.int .u64 0,.int .i64 0] 204)).alloc (.cells #[.bool false] 4)).alloc (.cells #[.pointer (some ⟨b,0,none⟩)] 195)));have C0:Hi (Qc Qb w z):=O (by rw[B];exact(((Zg _ _).alloc _).alloc _).alloc _);have ah:z.heap.size=s+3:=by rw[B,hs];simp
 have B2:Hi (Qh z s #[.int .u64 0,.int .i64 0] 204):=O (by rw[B,hs];exact((Qh.new' _ _ (by simp)).alloc _).alloc _);have B3:Hi (Qh z (s+1) #[.bool false] 4):=O (by rw[B,hs];exact(Qh.new' _ _ (by simp)).alloc _);have B4:Hi (Qh z (s+1+1) #[ptr b] 195):=O (by rw[B,hs];exact Qh.new' _ _ (by simp));have ac:Hi (Qh z b #[Dd,Vv,t.aH,.int .i64 l.length] 254):=O (C0.o.blk hR.top (fun h=>h));have ab:Hi (Jw z t):=O (Jw.aB C0.o t hR.sub.at' (fun _ _ h=>h));have Xg:∀a∈t.aC,a<s:=fun a ha=>by rw[hs];exact Jw.lt t hR.sub.at' a ha
 have HF:=O hR.flat;rw[←hs,←B];have J:=O hs;clear B hs hR;refine wpIn_rangeFunc_ownH rfl (by decide) (gf:=227) (lb:=#[.pointer (some ⟨s+1+1,0,none⟩)]) rfl trivial (enters_of func227 (by kernel_rfl) rfl)
  (Qjc (p:=.pointer none) 8 (s+1+1) b (fun k=>k∈t.aC) z B4.o ac.o ab.o (fun a h=>h))
  (fun h k=>h.trans k) (fun W l o o' h1 h2 h3 h4=>Le.put (w:=z) W l o o' h1 h2 h3 h4) (Below.refl _ _) (fun _=>rfl)
  (fun E W=>(E=[]∧Qh W s #[.int .u64 0,.int .i64 0] 204∧Qh W (s+1) #[.bool false] 4)∧Qc Qb z W)
  (fun c E W=>(c=.ret∧(∃x,E=[x]∧Qh W s #[.int .u64 x.1,.int .i64 x.2.1] 204)∧Qh W (s+1) #[.bool true] 4)∧Qc (fun k=>k=s∨k=s+1) z W)
  ?o1 ?o2 ⟨⟨rfl,B2.o,B3.o⟩,Zg _ _⟩
  (fun x a' W=>∃V,s+3≤V∧Qh W V #[.int .u64 x.1,.int .i64 x.2.1] 204∧a'={tmps:=#[.pointer (some ⟨b,0,none⟩),undef,.pointer (some ⟨s,0,none⟩),.pointer (some ⟨s+1,0,none⟩),.pointer (some ⟨V,0,none⟩),.pointer (some ⟨b,0,none⟩),.func (.func 227) #[] #[.pointer (some ⟨s+1+1,0,none⟩)],Yo x.1 x.2.1,.int .u64 x.2.2,undef,undef],defers:=[]})
  ?o3 ?assign ?body ?done ?stop
 case assign=> rintro l' E x W K hI hK;obtain⟨U,R,xv⟩:=x;dsimp only[Qof,Yo];gi_wp2;have cc:Qc Qb W (W.alloc (.cells #[.int .u64 U,.int .i64 R] 204)):=(Zg _ _).alloc _;exact hK _ _ (Vg cc (fun k h=>h.elim)) (Le.chg cc (fun _ _ h=>h)) ⟨⟨hI.1.1,cc.blk hI.1.2.1 (fun h=>h),cc.blk hI.1.2.2 (fun h=>h)⟩,hI.2.aA cc⟩ ⟨W.heap.size,by have:=hI.2.size;omega,Qh.new W _ _,rfl⟩
 case body=>
  rintro l' E⟨U,R,xv⟩a' W hl ag⟨⟨rfl,b2,I⟩,q⟩⟨V,af,bX,rfl⟩ae;obtain⟨x0,x1⟩:=Q4 bX;obtain⟨y0,y1⟩:=Q4 b2;have y2:=Jf I;have z0:=b2.frozen;have z1:=I.frozen 0;dsimp only[Yo]at*;have HW:Hi (∀w',w'=((W.setCell ⟨s,0,none⟩ (.int .u64 U)).setCell ⟨s,1,none⟩ (.int .i64 R)).setCell ⟨s+1,0,none⟩ (.bool true)→KeepsFrom z.heap.size W w'∧Qh w' s #[.int .u64 U,.int .i64 R] 204∧Qh w' (s+1) #[.bool true] 4∧Qc (fun k=>k=s∨k=s+1) z w'):=O (by
   rintro w' rfl;have c1:Qc (fun k=>k=s∨k=s+1) W (((W.setCell ⟨s,0,none⟩ (.int .u64 U)).setCell ⟨s,1,none⟩ (.int .i64 R)).setCell ⟨s+1,0,none⟩ (.bool true)):=(((Zg _ _).setCell _ (.inl (.inl rfl))).setCell _ (.inl (.inl rfl))).setCell _ (.inl (.inr rfl));refine⟨Vg c1 (fun k hk=>by rcases hk with h|h<;>omega),((b2.set' 0 _ rfl).set' 1 _ rfl).other _ (by show s+1≠s;omega),?_,(q.none).aA c1⟩;exact((I.other (a:=⟨s,0,none⟩) _ (by show s≠s+1;omega)).other (a:=⟨s,1,none⟩) _ (by show s≠s+1;omega)).set' 0 _ rfl)
  clear b2 I bX q;gi_wp2;obtain⟨k1,k2,k3,k4⟩:=HW.o _ rfl;exact⟨k1,⟨rfl,⟨_,rfl,k2⟩,k3⟩,k4⟩
 case o1=>exact OwnFrom.and (OwnFrom.and (ownFrom_pure _ _) (OwnFrom.and (Yx _ _ (fun _=>_) _) (Yx _ _ (fun _=>_) _))) (Dr (Zv _))
 case o2=> intro c E W W' row h hg hr;obtain⟨⟨e,⟨x,Z,b2⟩,I⟩,hc⟩:=h;exact⟨⟨e,⟨x,Z,Yx z.heap.size s (fun(_:Unit)=>#[.int .u64 x.1,.int .i64 x.2.1]) _ () W W' row b2 hg hr⟩,Yx z.heap.size (s+1) (fun(_:Unit)=>#[.bool true]) _ () W W' row I hg hr⟩,Dr (β:=Unit) (Zv _) () W W' row hc hg hr⟩
 case o3=>exact fun x a' _ X Y row hs hg hr=>by obtain⟨V,e1,Z,e3⟩:=hs;exact⟨V,e1,Yx z.heap.size V (fun(_:Unit)=>#[.int .u64 x.1,.int .i64 x.2.1]) _ () X Y row Z hg hr,e3⟩
 case done=>
  rintro D ys W hD hp⟨⟨rfl,b2,I⟩,q⟩hK;have hl:l=[]:=by rw[←HF.o];exact hp.symm
  subst hl;obtain⟨y0,y1⟩:=Q4 b2;have y2:=Jf I;have z0:=b2.frozen;have z1:=I.frozen 0;obtain⟨W2,hW2⟩:=Zx (((W.setCell ⟨s,0,none⟩ (.int .u64 0)).setCell ⟨s,1,none⟩ (.int .i64 0)).setCell ⟨s+1,0,none⟩ (.bool false));have c1:Qc (fun k=>k=s∨k=s+1) W W2:=by rw[hW2];exact(((Zg _ _).setCell _ (.inl (.inl rfl))).setCell _ (.inl (.inl rfl))).setCell _ (.inl (.inr rfl))
  have q2:Qh W2 s #[.int .u64 0,.int .i64 0] 204:=by rw[hW2];exact((b2.set' 0 _ rfl).set' 1 _ rfl).other _ (by show s+1≠s;omega)
  have q3:Qh W2 (s+1) #[.bool false] 4:=by rw[hW2];exact((I.other (a:=⟨s,0,none⟩) _ (by show s≠s+1;omega)).other (a:=⟨s,1,none⟩) _ (by show s≠s+1;omega)).set' 0 _ rfl
  have d:=O (c1.heap hK (fun h=>by rcases h with h|h<;>omega));have CC:Hi (Qc Qb w W2):=O (C0.o.trans (q.none.aA c1) (fun k hk=>.inr (by rw[←J.o];rcases hk with h|h<;>omega)));have Q2:=O q2;have Q3:=O q3;have aa:w.heap.size≤D:=by have:=J.o;omega
  clear b2 I q c1 q2 q3 hK hp;gi_wp2;rw[←hW2];clear hW2;refine⟨by simp,.inl ⟨_,_,rfl,run_takeDeferred d.o,?_⟩⟩;have r2:=Uc Q2.o d.o;have r3:=Uc Q3.o d.o;obtain⟨e0,e1⟩:=Q4 r2;have Z:=Jf r3;refine⟨.tuple #[Yo 0 0,.bool false],?_,rfl,Ud CC.o aa (Z2.1 d.o).1⟩;clear r2 r3;simp[results,Tryz.results170,go_sem,e0,e1,Z,Yo]
 case stop=>
  rintro D c' E W hD u⟨⟨rfl,⟨x,rfl,b2⟩,I⟩,q⟩hK;obtain⟨U,R,xv⟩:=x;obtain⟨l2,hl⟩:∃l2,l=(U,R,xv)::l2:=by
   rw[←HF.o];cases ht:t.flat with
   |nil=>rw[ht]at u;simp at u
   |cons y l2=> rw[ht]at u;obtain⟨rfl,_⟩:=List.cons_prefix_cons.1 u;exact⟨l2,rfl⟩
  subst hl;have CC:Hi (Qc Qb w W):=O (C0.o.trans q (fun k hk=>.inr (by rw[←J.o];rcases hk with h|h<;>omega)));have aa:w.heap.size≤D:=by have:=J.o;omega
  have Q2:=O b2;have Q3:=O I;have d:=O hK;clear b2 I q hK u;gi_wp2;refine⟨by simp,.inl ⟨_,_,rfl,run_takeDeferred d.o,?_⟩⟩;have r2:=Uc Q2.o d.o;have r3:=Uc Q3.o d.o;obtain⟨e0,e1⟩:=Q4 r2;have Z:=Jf r3;refine⟨.tuple #[Yo U R,.bool true],?_,rfl,Ud CC.o aa (Z2.1 d.o).1⟩;clear r2 r3;simp[results,Tryz.results170,go_sem,e0,e1,Z,Yo]
end
section
attribute [local go_sem] Qp
theorem Fm{w}{F:Fp}{b:Nat}{l:List Xu}(h:Jg w F b l):Cl 104 #[ptr b] w fun e w'=>e=.returned (.tuple #[.int .i64 (Wl l),.bool (!l.isEmpty)])∧Qc Qb w w':=by obtain⟨T,m,L,B,h0,⟨G,h1⟩,z⟩:=h.opn;have q:=O (Dp h0);have c:=O (Qis h1);generalize Qrf l=n at c;generalize Wl l=i at c⊢;generalize(!l.isEmpty)=u at c⊢;unfold ptr Yo at*;clear h B h0 h1 z;go_enter func104,ntmps104;go_wp2_with fail;refine Zy q ?_;rintro w1 rfl;go_wp2_with fail;refine Zy c ?_;intro w1 d;have k:=O (d.alloc (.cells #[.int .u64 n,.int .i64 i] 204));clear d;go_wp2;refine bodyPost_ret (v:=.tuple #[.int .i64 i,.bool u]) (by simp[results,Tryz.results104,go_sem]) rfl ⟨rfl,k.o⟩
theorem Qkc{w}{F:Fp}{b:Nat}{l:List Xu}(h:Yq w F b l):Cl 49 #[ptr b] w fun e w'=>e=.returned (.int .u64 ((Hk l:Nat):Int))∧Qc Qb w w':=by
 obtain⟨p,G,u,k,z⟩:=h.ex;have B:Hi (Cl 103 #[ptr p] w fun e w'=>e=.returned (.int .u64 ((Hk l:Nat):Int))∧Qc Qb w w'):=O (by
  cases l with
  |nil=> have q:=O (Fm k);rw[show((Hk []:Nat):Int)=9223372036854775808 from rfl];dsimp only[Wl,List.head?_nil,Option.map_none,Option.getD_none,List.isEmpty_nil,Bool.not_true]at q;unfold ptr at*;clear h u k z;go_enter func103,ntmps103;go_wp2_with fail;refine Zy q ?_;intro w1 c;have d:=O c;clear c;go_wp2;go_ret;exact⟨rfl,d.o⟩
  |cons e l=>
   obtain⟨n,i,v⟩:=e;have q:=O (Fm k);have K:=O (fun w'(hc:Qc Qb w w')=>Qn0 (Jg.obj.aB k hc (Jl.none G)) n i v (List.mem_cons_self));rw[show Hk ((n,i,v)::l)=n from rfl];dsimp only[Wl,List.head?_cons,Zn,Option.getD_some,List.isEmpty_cons,Bool.not_false]at q;unfold ptr at*;clear h u k z;go_enter func103,ntmps103;go_wp2_with fail;refine Zy q ?_;intro w1 c;have d:=O c;clear c;go_wp2_with fail;refine Zz (K.o _ d.o) ?_;intro w2 I;have J:=O (d.o.aA I);clear I;go_wp2;go_ret;exact⟨rfl,J.o⟩)
 have E:Hi (Cl 102 #[ptr b,.func (.func 103) #[] #[],.int .u64 9223372036854775808] w fun e w'=>e=.returned (.int .u64 ((Hk l:Nat):Int))∧Qc Qb w w'):=O (by
  have R:=Jf u;generalize((Hk l:Nat):Int)=v at B⊢;unfold ptr at*;clear h u k z;go_enter func102,ntmps102;go_wp2_with fail;refine Zy B ?_;intro w1 c;have d:=O c;clear c;go_wp2;go_ret;exact⟨rfl,d.o⟩)
 generalize((Hk l:Nat):Int)=v at E⊢;unfold ptr at*;clear h u k z B;go_enter func49,ntmps49;go_wp2_with fail;refine Zy E ?_;intro w1 c;have d:=O c;clear c;go_wp2;go_ret;exact⟨rfl,d.o⟩
theorem Qmi{w:World}{g c:Nat}{x:Nat}(h:w.cell? ⟨g,0,none⟩=some (.int .u64 x)):
  Cl 212 #[.slice (some ⟨g,0,none⟩) 1 c] w fun e w'=>e=.returned (.int .u64 x)∧Qc Qb w w':=by
 have h':w.drew.cell? ⟨g,0,none⟩=some (.int .u64 x):=h;go_enter func212,ntmps212;go_wp2_with fail;refine wp_loop_rounds 1 ?_;rw[rounds_succ];go_wp2;go_ret;exact⟨rfl,Zg _ _⟩
section
attribute [local go_sem ↓] Yd
theorem Qjf{w:World}{g c:Nat}{own x:Nat}(h:w.cell? ⟨g,0,none⟩=some (.int .u64 x)):
  Cl 169 #[.int .u64 own,.slice (some ⟨g,0,none⟩) 1 c] w fun e w'=>e=.returned (.int .u64 ((max own x:Nat):Int))∧Qc Qb w w':=by
 have q:=O (fun(w:World)(h:w.cell? ⟨g,0,none⟩=some (.int .u64 x))=>Qmi (c:=c) h);have u:((max own x:Nat):Int)=max (own:Int) (x:Int):=by omega
 rw[u];go_enter func169,ntmps169;go_wp2_with fail;refine Zz (q.o _ h) ?_;intro w1 d;have k:=O d;clear d;go_wp2;go_ret;exact⟨rfl,k.o⟩
end
end
end Go.Proofs.YtnnhmpehkbihnaaGreat
