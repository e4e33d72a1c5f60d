/- A part of the proof: no condition. -/
import Derived.Test.YtnnhmpehkbihnaaGreatPp16
import Derived.ScopeJumps
namespace Go.Proofs.YtnnhmpehkbihnaaGreat
set_option linter.unusedVariables false
set_option maxRecDepth 100000
set_option maxHeartbeats 4000000
open Go.RowKit
open Go.Proofs.Tryz
section
open Go.Shelf
attribute [local go_sem] Oper.semAt_some Qq
theorem Qt5(n l' Bf b:Nat)(T:Fp)(J K:List J6→World→Prop)(W:World){t:Tr}{p:Value}{k:Int}(V:Qh W Bf #[ptr b] 195)(U:Qh W b #[O0,Vw,t.ptrV,.int .i64 k] 254)(hA:Jk W t)(q:∀a∈t.addrs,T a)
  (Z:∀c W,J c W→J c W.drew)
  (hY:∀m c x E,J c E→c.length<t.flat.length→YieldAt Fence.wide m prog l' (Qt3 x) E fun e d=>(e=.returned (.bool true)∧J (c++[x]) d∧Db T E d)∨(e=.returned (.bool false)∧K (c++[x]) d))(h0:J [] W):
  CallsIn Fence.wide n prog 227 #[.func (.yield l') #[] #[],.pointer (some ⟨Bf,0,none⟩)] W fun e d=>(∃v,e=.returned v)∧((∃B,B=t.flat∧J B d)∨(∃c,c<+:t.flat∧K c d)):=by
 have HE:=O (fun n=>Qgy (n:=n) Z hY t);have c0:=Zv V;obtain⟨c1,c2,c3,c4⟩:=Xt U;have R:=O (And.intro hA (And.intro q h0));have HN:=O (fun W(h:Qms W b)=>Hr h);have u:Hid (Qms W b):=O ⟨_,_,U⟩;obtain⟨pv,z⟩:=Zx (t.ptrV);rw[←z]at c3 HE;clear z V U hA q Z hY h0;unfold ptr at*;refine callsIn_of_wp func227 rfl trivial ?_ rfl;simp only[ntmps227,List.size_toArray,List.length_cons,List.length_nil,Nat.reduceAdd,Nat.reduceSub,Array.replicate_succ,Array.replicate_zero,List.push_toArray,List.append_toArray,List.nil_append,List.cons_append];gi_wp2;refine⟨trivial,(fun h=>by cases h),?_⟩;refine(callsIn_wide.2 (HN.out _ u.out)).mono ?_;rintro e w1⟨rfl,rfl⟩;gi_wp2;refine⟨trivial,(fun h=>by cases h),?_⟩;refine(HE.out _ [] W R.out.1 R.out.2.1 R.out.2.2 (by simp)).mono ?_;rintro e w2⟨b2,rfl,k1,k2⟩;have I:Hid ((∃B,B=t.flat∧J B w2)∨(∃c,c<+:t.flat∧K c w2)):=O (by
  cases b2 with
  |true=>exact .inl ⟨_,rfl,by simpa using(k1 rfl).1⟩
  |false=>
   obtain⟨p,hp,hx⟩:=k2 rfl;exact .inr ⟨p,hp,by simpa using hx⟩)
 clear k1 k2;gi_wp2;refine bodyPost_end (results_none rfl _ _ _) rfl ?_;exact⟨⟨_,rfl⟩,I.out⟩
theorem Qnr(n u b:Nat)(T:Fp)(w:World){t:Tr}{p:Value}{k:Int}(U:Qh w u #[ptr b] 195)(V:Qh w b #[O0,Vw,t.ptrV,.int .i64 k] 254)(z:Jk w t)(q:∀a∈t.addrs,T a):
  SeqStopsK Fence.wide n prog 227 #[.pointer (some ⟨u,0,none⟩)] Qt3 (Db T) (fun E=>E=t.flat) (fun c=>c<+:t.flat) t.flat.length w:=fun l' J K W hW I _ B h0=>
 Qt5 (p:=p) n l' u b T J K W ((Qc.ofBelow (S:=Qb) hW).blk U (fun h=>h)) ((Qc.ofBelow (S:=Qb) hW).blk V (fun h=>h)) (Jk.keep (Qc.ofBelow (S:=Qb) hW) t z (fun _ _ h=>h)) q
  (fun c d h=>I c d d.drew none h ⟨rfl,rfl,rfl,Nat.le_refl _,fun _ _ _=>rfl⟩ (fun r e=>by cases e)) (fun m c x d h1 R=>Qkz (B c x d h1 R)) h0
theorem Qt6(b:Nat)(w:World):Cl 213 #[ptr b] w fun e w'=>e=.returned (.func (.func 227) #[] #[.pointer (some ⟨w.heap.size,0,none⟩)])∧w'=w.alloc (.cells #[ptr b] 195):=by unfold ptr;go_enter func213,ntmps213;go_wp2;go_ret;exact⟨rfl,rfl⟩
def Qws(l:List J6):Nat:=(l.head?.map (·.1)).getD 0
def Qgz(l:List J6):Int:=(l.head?.map (·.2.1)).getD 0
theorem Qns{w:World}{F:Fp}{b:Nat}{l:List J6}(h:V0 w F b l):
  Cl 170 #[ptr b] w fun e w'=>e=.returned (.tuple #[Xi (Qws l) (Qgz l),.bool (!l.isEmpty)])∧Qc Qb w w':=by
 obtain⟨t,hR⟩:=h;have HU:=O (Qt6 b);refine callsIn_wide (n:=9).1 ?_;unfold ptr at HU⊢;refine callsIn_of_wp_marks func170 rfl trivial ?_;simp only[ntmps170,List.size_toArray,List.length_cons,List.length_nil,Nat.reduceAdd,Nat.reduceSub,Array.replicate_succ,Array.replicate_zero,List.push_toArray,List.append_toArray,List.nil_append,List.cons_append];gi_wp2_with (refine⟨trivial,?_⟩;gi_at_call 213;refine(callsIn_wide.2 (HU.out _)).mono ?_;rintro e w1⟨rfl,rfl⟩);obtain⟨s,hs⟩:=Zx (w.heap.size);obtain⟨z,E⟩:=Zx ((((w.alloc (.cells #[.int .u64 0,.int .i64 0] 204)).alloc (.cells #[.bool false] 4)).alloc (.cells #[.pointer (some ⟨b,0,none⟩)] 195)));have C0:Hid (Qc Qb w z):=O (by rw[E];exact(((Qc.refl _ _).alloc _).alloc _).alloc _);have ag:z.heap.size=s+3:=by rw[E,hs];simp
 have B2:Hid (Qh z s #[.int .u64 0,.int .i64 0] 204):=O (by rw[E,hs];exact((Qh.new' _ _ (by simp)).alloc _).alloc _);have B3:Hid (Qh z (s+1) #[.bool false] 4):=O (by rw[E,hs];exact(Qh.new' _ _ (by simp)).alloc _);have B4:Hid (Qh z (s+1+1) #[ptr b] 195):=O (by rw[E,hs];exact Qh.new' _ _ (by simp));have aa:Hid (Qh z b #[O0,Vw,t.ptrV,.int .i64 (l.length:Int)] 254):=O (C0.out.blk hR.top (fun h=>h));have ab:Hid (Jk z t):=O (Jk.keep C0.out t hR.sub.at' (fun _ _ h=>h));have Jl:∀a∈t.addrs,a<s:=fun a ha=>by rw[hs];exact Jk.lt t hR.sub.at' a ha
 have HF:=O hR.flat;rw[←hs,←E];have J:=O hs;clear E hs hR;refine wpIn_rangeFunc_ownH rfl (by decide) (gf:=227) (lb:=#[.pointer (some ⟨s+1+1,0,none⟩)]) rfl trivial (enters_of func227 (by kernel_rfl) rfl)
  (Qnr (p:=.pointer none) 8 (s+1+1) b (fun k=>k∈t.addrs) z B4.out aa.out ab.out (fun a h=>h))
  (fun h k=>h.trans k) (fun W l o o' h1 h2 h3 h4=>Db.put (w:=z) W l o o' h1 h2 h3 h4) (Below.refl _ _) (fun _=>rfl)
  (fun B W=>(B=[]∧Qh W s #[.int .u64 0,.int .i64 0] 204∧Qh W (s+1) #[.bool false] 4)∧Qc Qb z W)
  (fun c B W=>(c=.ret∧(∃x,B=[x]∧Qh W s #[.int .u64 (x.1:Int),.int .i64 x.2.1] 204)∧Qh W (s+1) #[.bool true] 4)∧Qc (fun k=>k=s∨k=s+1) z W)
  ?o1 ?o2 ⟨⟨rfl,B2.out,B3.out⟩,Qc.refl _ _⟩
  (fun x a' W=>∃Bx,s+3≤Bx∧Qh W Bx #[.int .u64 (x.1:Int),.int .i64 x.2.1] 204∧a'={tmps:=#[.pointer (some ⟨b,0,none⟩),undef,.pointer (some ⟨s,0,none⟩),.pointer (some ⟨s+1,0,none⟩),.pointer (some ⟨Bx,0,none⟩),.pointer (some ⟨b,0,none⟩),.func (.func 227) #[] #[.pointer (some ⟨s+1+1,0,none⟩)],Xi x.1 x.2.1,.int .u64 (x.2.2:Int),undef,undef],defers:=[]})
  ?o3 ?assign ?body ?done ?stop
 case assign=> rintro l' B x W K hI hK;obtain⟨U,R,xv⟩:=x;dsimp only[Qt3,Xi];gi_wp2;have cc:Qc Qb W (W.alloc (.cells #[.int .u64 (U:Int),.int .i64 R] 204)):=(Qc.refl _ _).alloc _;exact hK _ _ (Y7 cc (fun k h=>h.elim)) (Db.chg cc (fun _ _ h=>h)) ⟨⟨hI.1.1,cc.blk hI.1.2.1 (fun h=>h),cc.blk hI.1.2.2 (fun h=>h)⟩,hI.2.trans' cc⟩ ⟨W.heap.size,by have:=hI.2.size;omega,Qh.new W _ _,rfl⟩
 case body=>
  rintro l' B⟨U,R,xv⟩a' W hl ae⟨⟨rfl,b2,I⟩,u⟩⟨Bx,af,bX,rfl⟩ac;obtain⟨x0,x1⟩:=Qz bX;obtain⟨y0,y1⟩:=Qz b2;have y2:=Zv I;have z0:=b2.frozen;have z1:=I.frozen 0;dsimp only[Xi]at*;have HW:Hid (∀w',w'=((W.setCell ⟨s,0,none⟩ (.int .u64 (U:Int))).setCell ⟨s,1,none⟩ (.int .i64 R)).setCell ⟨s+1,0,none⟩ (.bool true)→KeepsFrom z.heap.size W w'∧Qh w' s #[.int .u64 (U:Int),.int .i64 R] 204∧Qh w' (s+1) #[.bool true] 4∧Qc (fun k=>k=s∨k=s+1) z w'):=O (by
   rintro w' rfl;have c1:Qc (fun k=>k=s∨k=s+1) W (((W.setCell ⟨s,0,none⟩ (.int .u64 (U:Int))).setCell ⟨s,1,none⟩ (.int .i64 R)).setCell ⟨s+1,0,none⟩ (.bool true)):=(((Qc.refl _ _).setCell _ (.inl (.inl rfl))).setCell _ (.inl (.inl rfl))).setCell _ (.inl (.inr rfl));refine⟨Y7 c1 (fun k hk=>by rcases hk with h|h<;>omega),((b2.set' 0 _ rfl).set' 1 _ rfl).other _ (by show s+1≠s;omega),?_,(u.none).trans' c1⟩;exact((I.other (a:=⟨s,0,none⟩) _ (by show s≠s+1;omega)).other (a:=⟨s,1,none⟩) _ (by show s≠s+1;omega)).set' 0 _ rfl)
  clear b2 I bX u;gi_wp2;obtain⟨k1,k2,k3,k4⟩:=HW.out _ rfl;exact⟨k1,⟨rfl,⟨_,rfl,k2⟩,k3⟩,k4⟩
 case o1=>exact OwnFrom.and (OwnFrom.and (ownFrom_pure _ _) (OwnFrom.and (Xr _ _ (fun _=>_) _) (Xr _ _ (fun _=>_) _))) (U4 (Nat.le_refl _))
 case o2=> intro c B W W' row h hg hr;obtain⟨⟨e,⟨x,V,b2⟩,I⟩,hc⟩:=h;exact⟨⟨e,⟨x,V,Xr z.heap.size s (fun(_:Unit)=>#[.int .u64 (x.1:Int),.int .i64 x.2.1]) _ () W W' row b2 hg hr⟩,Xr z.heap.size (s+1) (fun(_:Unit)=>#[.bool true]) _ () W W' row I hg hr⟩,U4 (β:=Unit) (Nat.le_refl _) () W W' row hc hg hr⟩
 case o3=>exact fun x a' _ X Y row hs hg hr=>by obtain⟨Bx,e1,V,e3⟩:=hs;exact⟨Bx,e1,Xr z.heap.size Bx (fun(_:Unit)=>#[.int .u64 (x.1:Int),.int .i64 x.2.1]) _ () X Y row V hg hr,e3⟩
 case done=>
  rintro D ys W hD hp⟨⟨rfl,b2,I⟩,u⟩hK;have hl:l=[]:=by rw[←HF.out];exact hp.symm
  subst hl;obtain⟨y0,y1⟩:=Qz b2;have y2:=Zv I;have z0:=b2.frozen;have z1:=I.frozen 0;obtain⟨W2,hW2⟩:=Zx (((W.setCell ⟨s,0,none⟩ (.int .u64 0)).setCell ⟨s,1,none⟩ (.int .i64 0)).setCell ⟨s+1,0,none⟩ (.bool false));have c1:Qc (fun k=>k=s∨k=s+1) W W2:=by rw[hW2];exact(((Qc.refl _ _).setCell _ (.inl (.inl rfl))).setCell _ (.inl (.inl rfl))).setCell _ (.inl (.inr rfl))
  have q2:Qh W2 s #[.int .u64 0,.int .i64 0] 204:=by rw[hW2];exact((b2.set' 0 _ rfl).set' 1 _ rfl).other _ (by show s+1≠s;omega)
  have q3:Qh W2 (s+1) #[.bool false] 4:=by rw[hW2];exact((I.other (a:=⟨s,0,none⟩) _ (by show s≠s+1;omega)).other (a:=⟨s,1,none⟩) _ (by show s≠s+1;omega)).set' 0 _ rfl
  have d:=O (c1.heap hK (fun h=>by rcases h with h|h<;>omega));have CC:Hid (Qc Qb w W2):=O (C0.out.trans (u.none.trans' c1) (fun k hk=>.inr (by rw[←J.out];rcases hk with h|h<;>omega)));have Q2:=O q2;have Q3:=O q3;have Z:w.heap.size≤D:=by have:=J.out;omega
  clear b2 I u c1 q2 q3 hK hp;gi_wp2;rw[←hW2];clear hW2;refine⟨by simp,.inl ⟨_,_,rfl,run_takeDeferred d.out,?_⟩⟩;have r2:=Vr Q2.out d.out;have r3:=Vr Q3.out d.out;obtain⟨e0,e1⟩:=Qz r2;have V:=Zv r3;refine⟨.tuple #[Xi 0 0,.bool false],?_,rfl,Vq CC.out Z (Array.getElem?_eq_some_iff.1 d.out).1⟩;clear r2 r3;simp[results,Tryz.results170,go_sem,e0,e1,V,Xi]
 case stop=>
  rintro D c' B W hD q⟨⟨rfl,⟨x,rfl,b2⟩,I⟩,u⟩hK;obtain⟨U,R,xv⟩:=x;obtain⟨l2,hl⟩:∃l2,l=(U,R,xv)::l2:=by
   rw[←HF.out];cases ht:t.flat with
   |nil=>rw[ht]at q;simp at q
   |cons y l2=> rw[ht]at q;obtain⟨rfl,_⟩:=List.cons_prefix_cons.1 q;exact⟨l2,rfl⟩
  subst hl;have CC:Hid (Qc Qb w W):=O (C0.out.trans u (fun k hk=>.inr (by rw[←J.out];rcases hk with h|h<;>omega)));have Z:w.heap.size≤D:=by have:=J.out;omega
  have Q2:=O b2;have Q3:=O I;have d:=O hK;clear b2 I u hK q;gi_wp2;refine⟨by simp,.inl ⟨_,_,rfl,run_takeDeferred d.out,?_⟩⟩;have r2:=Vr Q2.out d.out;have r3:=Vr Q3.out d.out;obtain⟨e0,e1⟩:=Qz r2;have V:=Zv r3;refine⟨.tuple #[Xi U R,.bool true],?_,rfl,Vq CC.out Z (Array.getElem?_eq_some_iff.1 d.out).1⟩;clear r2 r3;simp[results,Tryz.results170,go_sem,e0,e1,V,Xi]
end
section
attribute [local go_sem] Qq
theorem Qef{w:World}{F:Fp}{b:Nat}{l:List J6}(h:Zo w F b l):Cl 104 #[ptr b] w fun e w'=>e=.returned (.tuple #[.int .i64 (Qgz l),.bool (!l.isEmpty)])∧Qc Qb w w':=by obtain⟨T,m,L,z,h0,⟨G,h1⟩,u⟩:=h.opn;have q:=O (U6 h0);have c:=O (Qns h1);generalize Qws l=n at c;generalize Qgz l=i at c⊢;generalize(!l.isEmpty)=k at c⊢;unfold ptr Xi at*;clear h z h0 h1 u;go_enter func104,ntmps104;go_wp2_with fail;refine q.out.mono ?_;rintro e w1⟨rfl,rfl⟩;go_wp2_with fail;refine c.out.mono ?_;rintro e w1⟨rfl,d⟩;have B:=O (d.alloc (.cells #[.int .u64 (n:Int),.int .i64 i] 204));clear d;go_wp2;refine bodyPost_ret (v:=.tuple #[.int .i64 i,.bool k]) (by simp[results,Tryz.results104,go_sem]) rfl ⟨rfl,B.out⟩
theorem Qqm{w:World}{F:Fp}{b:Nat}{l:List J6}(h:Kh w F b l):Cl 49 #[ptr b] w fun e w'=>e=.returned (.int .u64 ((Of l:Nat):Int))∧Qc Qb w w':=by
 obtain⟨p,G,q,k,z⟩:=h.ex;have B:Hid (Cl 103 #[ptr p] w fun e w'=>e=.returned (.int .u64 ((Of l:Nat):Int))∧Qc Qb w w'):=O (by
  cases l with
  |nil=> have u:=O (Qef k);rw[show((Of []:Nat):Int)=9223372036854775808 from rfl];dsimp only[Qgz,List.head?_nil,Option.map_none,Option.getD_none,List.isEmpty_nil,Bool.not_true]at u;unfold ptr at*;clear h q k z;go_enter func103,ntmps103;go_wp2_with fail;refine u.out.mono ?_;rintro e w1⟨rfl,c⟩;have d:=O c;clear c;go_wp2;go_ret;exact⟨rfl,d.out⟩
  |cons e l=>
   obtain⟨n,i,v⟩:=e;have u:=O (Qef k);have K:=O (fun w'(hc:Qc Qb w w')=>Qtp (Zo.obj.keep k hc (Je.none G)) n i v (List.mem_cons_self));rw[show Of ((n,i,v)::l)=n from rfl];dsimp only[Qgz,List.head?_cons,Option.map_some,Option.getD_some,List.isEmpty_cons,Bool.not_false]at u;unfold ptr at*;clear h q k z;go_enter func103,ntmps103;go_wp2_with fail;refine u.out.mono ?_;rintro e w1⟨rfl,c⟩;have d:=O c;clear c;go_wp2_with fail;refine(K.out _ d.out).mono ?_;rintro e w2⟨rfl,E⟩;have J:=O (d.out.trans' E);clear E;go_wp2;go_ret;exact⟨rfl,J.out⟩)
 have I:Hid (Cl 102 #[ptr b,.func (.func 103) #[] #[],.int .u64 9223372036854775808] w fun e w'=>e=.returned (.int .u64 ((Of l:Nat):Int))∧Qc Qb w w'):=O (by
  have R:=Zv q;generalize((Of l:Nat):Int)=v at B⊢;unfold ptr at*;clear h q k z;go_enter func102,ntmps102;go_wp2_with fail;refine B.out.mono ?_;rintro e w1⟨rfl,c⟩;have d:=O c;clear c;go_wp2;go_ret;exact⟨rfl,d.out⟩)
 generalize((Of l:Nat):Int)=v at I⊢;unfold ptr at*;clear h q k z B;go_enter func49,ntmps49;go_wp2_with fail;refine I.out.mono ?_;rintro e w1⟨rfl,c⟩;have d:=O c;clear c;go_wp2;go_ret;exact⟨rfl,d.out⟩
theorem Qqn{w:World}{g c:Nat}{x:Nat}(h:w.cell? ⟨g,0,none⟩=some (.int .u64 (x:Int))):
  Cl 212 #[.slice (some ⟨g,0,none⟩) 1 c] w fun e w'=>e=.returned (.int .u64 (x:Int))∧Qc Qb w w':=by
 have h':w.drew.cell? ⟨g,0,none⟩=some (.int .u64 (x:Int)):=h;go_enter func212,ntmps212;go_wp2_with fail;refine wp_loop_rounds 1 ?_;rw[rounds_succ];go_wp2;go_ret;exact⟨rfl,Qc.refl _ _⟩
section
attribute [local go_sem ↓] Xn
theorem Qnt{w:World}{g c:Nat}{own x:Nat}(h:w.cell? ⟨g,0,none⟩=some (.int .u64 (x:Int))):
  Cl 169 #[.int .u64 (own:Int),.slice (some ⟨g,0,none⟩) 1 c] w fun e w'=>e=.returned (.int .u64 ((max own x:Nat):Int))∧Qc Qb w w':=by
 have q:=O (fun(w:World)(h:w.cell? ⟨g,0,none⟩=some (.int .u64 (x:Int)))=>Qqn (c:=c) h);have k:((max own x:Nat):Int)=max (own:Int) (x:Int):=by omega
 rw[k];go_enter func169,ntmps169;go_wp2_with fail;refine(q.out _ h).mono ?_;rintro e w1⟨rfl,d⟩;have u:=O d;clear d;go_wp2;go_ret;exact⟨rfl,u.out⟩
end
end
section
attribute [local go_sem] Qq
attribute [local irreducible] Y4
structure Ee(N:Nat)(c:Qv):Prop where
 total:c.total≤Jz
 lim:∀r,c.limit=some r→r.l.length≤N
 mem:∀x∈c.mem.all,x.total≤Jz∧x.run.l.length≤N∧x.v≤Qx
 mark:c.mem.mark≤Qx
 tree:c.tree.length≤N
 under:c.under≤65536
structure Qp(dep:Int→Nat)(N:Nat)(p:Qe):Prop where
 nd:(p.map Qv.id).Nodup
 root:∃r,p.at 0=some r∧r.leaf=false
 up:dep 0=0∧∀c∈p,c.id≠0→0<c.id∧(∃q,p.at c.par=some q)∧dep c.id=dep c.par+1∧dep c.id≤8
 tr:∀q∈p,∀e∈q.tree,∃c,p.at e.2.1=some c∧c.par=q.id∧0<e.2.1
 ok:∀c∈p,Ee N c
theorem Ee.more{N M:Nat}{c:Qv}(h:Ee N c)(k:N≤M):Ee M c:=⟨h.total,fun r hr=>Nat.le_trans (h.lim r hr) k,fun x d=>⟨(h.mem x d).1,Nat.le_trans (h.mem x d).2.1 k,(h.mem x d).2.2⟩,h.mark,Nat.le_trans h.tree k,h.under⟩
theorem Qp.par{dep:Int→Nat}{N:Nat}{p:Qe}(h:Qp dep N p){i:Int}{c:Qv}(hc:p.at i=some c)(hi:0<i):∃q,p.at c.par=some q:=by obtain⟨d,rfl⟩:=Qe.at_mem hc;obtain⟨_,k⟩:=h.up;exact(k c d (by omega)).2.1
theorem Qp.pos{dep:Int→Nat}{N:Nat}{p:Qe}(h:Qp dep N p){i:Int}{c:Qv}(hc:p.at i=some c):0≤i:=by
 obtain⟨d,rfl⟩:=Qe.at_mem hc;obtain⟨_,k⟩:=h.up;by_cases h0:c.id=0;·omega
 ·have:=(k c d h0).1;omega
section
variable{A:Og}{w:World}{F:Fp}{b:Nat}{p:Qe}{N:Nat}{dep:Int→Nat}
theorem Qo.fam(h:Qo A w F b p){i:Int}{c:Qv}(hc:p.at i=some c):∃G,Jb w G (A.pf i) c.mem:=by obtain⟨d,rfl⟩:=Qe.at_mem hc;obtain⟨G,h1,_⟩:=h.famOf d;exact⟨G,h1⟩
theorem Qo.cell(h:Qo A w F b p){i:Int}{c:Qv}(hc:p.at i=some c):Qh w (A.ad i) (Qbc c (A.vl i) (A.pf i) (A.pt i)) 143:=by obtain⟨d,rfl⟩:=Qe.at_mem hc;exact h.cells d
theorem Xc{i:Int}{c:Qv}(hc:p.at i=some c):pkV A p i=ptr (A.ad i):=by unfold pkV;rw[hc]
theorem Ef{i:Int}(hc:p.at i=none):pkV A p i=.pointer none:=by unfold pkV;rw[hc]
theorem Qo.drew(h:Qo A w F b p):Qo A w.drew F b p:=(Qo.obj A).keep h (Qc.refl Qb w).drew (Je.none F)
theorem V6(h:Qo A w F b p)(i:Int):Cl 93 #[ptr b,.int .i64 i] w fun e w'=>e=.returned (pkV A p i)∧w=w':=by have c:=h.look1 i;have d:=Zv h.blk;generalize pkV A p i=v at c⊢;unfold ptr;clear h;go_enter func93,ntmps93;go_wp2;go_ret;exact⟨rfl,rfl⟩
theorem Qe.awake_eq{i:Int}{c q:Qv}(hc:p.at i=some c)(d:p.at c.par=some q)(hi:0<i):p.awake i=q.mem.up i:=by unfold Qe.awake;rw[hc];dsimp only;rw[d];simp[hi]
theorem Qe.awake_none{i:Int}(hc:p.at i=none):p.awake i=false:=by unfold Qe.awake;rw[hc]
theorem Qe.awake_neg{i:Int}(hi:¬0<i):p.awake i=false:=by
 unfold Qe.awake;cases p.at i with
 |none=>rfl
 |some c=>simp[hi]
theorem Qe.v_eq{i:Int}{c q:Qv}(hc:p.at i=some c)(d:p.at c.par=some q)(hi:0<i):p.v i=q.mem.v i:=by unfold Qe.v;rw[hc];dsimp only;rw[d,if_neg (by omega)];rfl
theorem Qe.v_none{i:Int}(hc:p.at i=none):p.v i=0:=by unfold Qe.v;rw[hc]
theorem Qe.v_neg{i:Int}(hi:¬0<i):p.v i=0:=by
 unfold Qe.v;cases p.at i with
 |none=>rfl
 |some c=>dsimp only;rw[if_pos (by omega)]
theorem U7(h:Qo A w F b p)(d:Qp dep N p)(i:Int):Cl 100 #[ptr b,.int .i64 i] w fun e w'=>e=.returned (.bool (p.awake i))∧Qc Qb w w':=by
 have u:=O (V6 h i);have B:=O (Qc.refl Qb w).drew;by_cases hi:0<i
 ·have V:decide (0<i)=true:=by simpa using hi
  cases k:p.at i with
  |none=>
   rw[Qe.awake_none k];rw[Ef k]at u;unfold ptr at*;clear h k d;go_enter func100,ntmps100;go_wp2_with fail;refine u.out.mono ?_;rintro e w1⟨rfl,rfl⟩;go_wp2_with fail;refine Qi [(0,0),(0,1),(0,2),(0,3),(0,4),(0,5),(0,6),(0,7),(0,8),(0,9),(0,10),(0,11),(0,12),(0,13),(0,14),(0,15),(0,16),(0,17),(0,18),(0,19),(2,20),(0,21),(2,22)] (by kernel_rfl) (by kernel_rfl) ?_ ?_;·exact fun _ _ _ _ _ h=>h
   simp only[Zs,Zf,Ze,Zd];iterate 7 (refine Zz (by kernel_rfl) (by go_simp;try with_reducible rfl) ?_)
   iterate 14 (first|(refine Qwm (by kernel_rfl) ?_)|(refine Qqf (by kernel_rfl) ?_)|(refine Qwn (by kernel_rfl) ?_);try simp only[Act.put,Za,Zc,Zb])
   refine Zz (by kernel_rfl) (by go_simp;try with_reducible rfl) ?_;refine Jj ?_;go_wp2_with fail;refine Zu ?_;go_wp2;go_ret;exact⟨rfl,B.out⟩
  |some c=>
   obtain⟨q,z⟩:=d.par k hi;obtain⟨G,J⟩:=h.drew.fam z;have I:=O (Qnh J i);rw[Qe.awake_eq k z hi];rw[Xc k]at u;have E:=h.drew.look1 c.par;rw[Xc z]at E;have U:=Zv h.drew.blk;obtain⟨c0,c1,Z,c3,c4,c5,c6,c7⟩:=Q7 (h.drew.cell k);obtain⟨R,q1,q2,q3,q4,K,q6,q7⟩:=Q7 (h.drew.cell z);generalize q.mem.up i=r at I⊢;unfold ptr at*;clear h k d z J;go_enter func100,ntmps100;go_wp2_with fail;refine u.out.mono ?_;rintro e w1⟨rfl,rfl⟩;go_wp2_with fail;refine Qi [(0,0),(0,1),(0,2),(0,3),(0,4),(0,5),(0,6),(0,7),(0,8),(0,9),(0,10),(0,11),(0,12),(0,13),(0,14),(0,15),(0,16),(0,17),(0,18),(0,19),(2,20),(0,21),(2,22)] (by kernel_rfl) (by kernel_rfl) ?_ ?_;·exact fun _ _ _ _ _ h=>h
   simp only[Zs,Zf,Ze,Zd];iterate 20 (refine Zz (by kernel_rfl) (by go_simp;try with_reducible rfl) ?_)
   clear E U c0 c1 Z c3 c4 c5 c6 c7 R q1 q2 q3 q4 K q6 q7;refine Jj ?_;go_wp2_with fail;refine I.out.mono ?_;rintro e w2⟨rfl,rfl⟩;go_wp2_with fail;refine Zz (by kernel_rfl) (by go_simp;try with_reducible rfl) ?_;refine Jj ?_;go_wp2_with fail;refine Zu ?_;go_wp2;go_ret;exact⟨rfl,B.out⟩
 ·have V:decide (0<i)=false:=by simpa using hi
  rw[Qe.awake_neg hi];generalize pkV A p i=v at u;unfold ptr at*;clear h d;go_enter func100,ntmps100;go_wp2_with fail;refine u.out.mono ?_;rintro e w1⟨rfl,rfl⟩;go_wp2_with fail;refine Qi [(0,0),(0,1),(0,2),(0,3),(0,4),(0,5),(0,6),(0,7),(0,8),(0,9),(0,10),(0,11),(0,12),(0,13),(0,14),(0,15),(0,16),(0,17),(0,18),(0,19),(2,20),(0,21),(2,22)] (by kernel_rfl) (by kernel_rfl) ?_ ?_;·exact fun _ _ _ _ _ h=>h
  simp only[Zs,Zf,Ze,Zd];iterate 3 (refine Zz (by kernel_rfl) (by go_simp;try with_reducible rfl) ?_)
  iterate 2 (first|(refine Qwm (by kernel_rfl) ?_)|(refine Qqf (by kernel_rfl) ?_)|(refine Qwn (by kernel_rfl) ?_);try simp only[Act.put,Za,Zc,Zb])
  iterate 2 (refine Zz (by kernel_rfl) (by go_simp;try with_reducible rfl) ?_)
  iterate 14 (first|(refine Qwm (by kernel_rfl) ?_)|(refine Qqf (by kernel_rfl) ?_)|(refine Qwn (by kernel_rfl) ?_);try simp only[Act.put,Za,Zc,Zb])
  refine Zz (by kernel_rfl) (by go_simp;try with_reducible rfl) ?_;refine Jj ?_;go_wp2_with fail;refine Zu ?_;go_wp2;go_ret;exact⟨rfl,B.out⟩
theorem Qyd(h:Qo A w F b p)(d:Qp dep N p)(i:Int):Cl 114 #[ptr b,.int .i64 i] w fun e w'=>e=.returned (.int .u64 ((p.v i:Nat):Int))∧Qc Qb w w':=by
 have u:=O (V6 h i);have V:=O (Qc.refl Qb w).drew;by_cases hi:0<i
 ·have U:decide (i<1)=false:=by simp;omega
  have d2:¬i<1:=by omega
  cases k:p.at i with
  |none=> rw[Qe.v_none k];rw[Ef k]at u;unfold ptr at*;clear h k d;go_enter func114,ntmps114;go_wp2_with fail;refine u.out.mono ?_;rintro e w1⟨rfl,rfl⟩;go_wp2;go_ret;exact⟨rfl,Qc.refl _ _⟩
  |some c=>
   obtain⟨q,z⟩:=d.par k hi;obtain⟨G,I⟩:=h.drew.fam z;have E:=O (Qyb I i);rw[Qe.v_eq k z hi];rw[Xc k]at u;have B:=h.drew.look1 c.par;rw[Xc z]at B;have R:=Zv h.drew.blk;obtain⟨c0,c1,Z,c3,c4,c5,c6,c7⟩:=Q7 (h.drew.cell k);obtain⟨K,q1,q2,q3,q4,J,q6,q7⟩:=Q7 (h.drew.cell z);generalize q.mem.v i=r at E⊢;unfold ptr at*;clear h k d z I;go_enter func114,ntmps114;go_wp2_with fail;refine u.out.mono ?_;rintro e w1⟨rfl,rfl⟩;go_wp2_with fail;refine Qi [(0,0),(0,1),(0,2),(0,3),(0,4),(0,5),(0,6),(0,7),(0,8),(0,9),(0,10),(0,11),(0,12),(2,13),(2,14)] (by kernel_rfl) (by kernel_rfl) ?_ ?_;·exact fun _ _ _ _ _ h=>h
   simp only[Zs,Zf,Ze,Zd];iterate 13 (refine Zz (by kernel_rfl) (by go_simp;try with_reducible rfl) ?_)
   clear B R c0 c1 Z c3 c4 c5 c6 c7 K q1 q2 q3 q4 J q6 q7;refine Jj ?_;go_wp2_with fail;refine E.out.mono ?_;rintro e w2⟨rfl,rfl⟩;go_wp2_with fail;refine Jj ?_;go_wp2_with fail;refine Zu ?_;go_wp2;go_ret;exact⟨rfl,V.out⟩
 ·have U:decide (i<1)=true:=by simp;omega
  have d2:i<1:=by omega
  rw[Qe.v_neg hi];generalize pkV A p i=v at u;unfold ptr at*;clear h d;go_enter func114,ntmps114;go_wp2_with fail;refine u.out.mono ?_;rintro e w1⟨rfl,rfl⟩;go_wp2;go_ret;exact⟨rfl,Qc.refl _ _⟩
end
section
variable{A:Og}{w:World}{F:Fp}{b:Nat}{p:Qe}{N:Nat}{dep:Int→Nat}
theorem Qt7(x:Nat)(w:World):Cl 168 #[.pointer none,.int .u64 (x:Int)] w fun e w'=>e=.returned (.int .u64 0)∧Qc Qb w w':=by have d:=O (Qed w);go_enter func168,ntmps168;go_wp2_with fail;refine d.out.mono ?_;rintro e w1⟨rfl,c⟩;have k:=O c;clear c;go_wp2;go_ret;exact⟨rfl,k.out⟩
theorem Qqo{v:Value}{l:Yt}{G:Fp}(h:Dd v l w G)(hn:∀r,l=some r→r.l.length<549755813888)(x:Nat)(c:x<18446744073709551616):
  Cl 168 #[v,.int .u64 (x:Int)] w fun e w'=>e=.returned (.int .u64 ((l.fit x:Nat):Int))∧Qc Qb w w':=by
 rcases h with⟨rfl,rfl,_⟩|⟨b,rfl,h⟩;·exact Qt7 x w
 ·exact Qt1 h hn x c
theorem Qo.lim(h:Qo A w F b p){i:Int}{c:Qv}(hc:p.at i=some c):∃G,Dd (A.vl i) c.limit w G:=by obtain⟨d,rfl⟩:=Qe.at_mem hc;obtain⟨G,h1,_⟩:=h.limOf d;exact⟨G,h1⟩
theorem Qo.tre(h:Qo A w F b p){i:Int}{c:Qv}(hc:p.at i=some c):∃G,Zo w G (A.pt i) c.tree:=by obtain⟨d,rfl⟩:=Qe.at_mem hc;obtain⟨G,h1,_⟩:=h.treeOf d;exact⟨G,h1⟩
theorem Qt8(h:Qo A w F b p){i:Int}{c:Qv}(hc:p.at i=some c)(k:Ee N c)(hN:N<549755813888):
  Cl 101 #[ptr (A.ad i)] w fun e w'=>e=.returned (.int .u64 ((c.fit:Nat):Int))∧Qc Qb w w':=by
 obtain⟨G1,hl⟩:=h.drew.lim hc;have K:=O (Qqo hl (fun r hr=>Nat.lt_of_le_of_lt (k.lim r hr) hN) c.total (by have:=k.total;have:=Xu;omega));obtain⟨G2,ht⟩:=h.tre hc;have I:=O (fun w'(hc:Qc Qb w w')=>Qb8 (Zo.obj.keep ht hc (Je.none G2)));have HB:=O (h.cell hc);obtain⟨d0,d1,d2,d3,d4,d5,d6,d7⟩:=Q7 (h.drew.cell hc);unfold Qv.fit;dsimp only;generalize c.limit.fit c.total=own at K⊢;cases q:c.leaf with
 |true=>
  have E0:=O q;simp only[if_true];unfold ptr at*;clear h hc k hl ht q;go_enter func101,ntmps101;go_wp2_with fail;refine Qi [(0,0),(0,1),(0,2),(0,3),(0,4),(0,5),(0,6),(0,7),(2,8),(2,9)] (by kernel_rfl) (by kernel_rfl) ?_ ?_;·exact fun _ _ _ _ _ h=>h
  simp only[Zs,Zf,Ze,Zd];iterate 8 (refine Zz (by kernel_rfl) (by go_simp;try with_reducible rfl) ?_)
  clear d0 d1 d2 d3 d4 d5 d6 d7;refine Jj ?_;go_wp2_with fail;refine K.out.mono ?_;rintro e w1⟨rfl,E⟩;have z:=O E.undrew;obtain⟨V,d,R,J,Z,c5,c6,U⟩:=Q7 (z.out.blk HB.out (fun h=>h));rw[E0.out]at d;clear E;go_wp2_with fail;refine Jj ?_;go_wp2_with fail;refine Zu ?_;go_wp2;go_ret;exact⟨rfl,z.out⟩
 |false=>
  have E0:=O q;simp only[Bool.false_eq_true,if_false];cases B:low c.tree with
  |none=>
   rw[B]at I;dsimp only[Option.getD_none,Option.isSome_none]at I⊢;rw[show((Qx:Nat):Int)=9223372036854775808 from rfl];unfold ptr at*;clear h hc k hl ht q B;go_enter func101,ntmps101;go_wp2_with fail;refine Qi [(0,0),(0,1),(0,2),(0,3),(0,4),(0,5),(0,6),(0,7),(2,8),(2,9)] (by kernel_rfl) (by kernel_rfl) ?_ ?_;·exact fun _ _ _ _ _ h=>h
   simp only[Zs,Zf,Ze,Zd];iterate 8 (refine Zz (by kernel_rfl) (by go_simp;try with_reducible rfl) ?_)
   clear d0 d1 d2 d3 d4 d5 d6 d7;refine Jj ?_;go_wp2_with fail;refine K.out.mono ?_;rintro e w1⟨rfl,E⟩;have z:=O E.undrew;obtain⟨V,d,R,J,Z,c5,c6,U⟩:=Q7 (z.out.blk HB.out (fun h=>h));rw[E0.out]at d;unfold ptr at*;clear E;go_wp2_with fail;refine Jj ?_;go_wp2_with fail;refine Zu ?_;go_wp2_with fail;refine(I.out _ z.out).mono ?_;rintro e w2⟨rfl,u⟩;have C2:=O (z.out.trans' u);clear u V d R J Z c5 c6 U;go_wp2;go_ret;exact⟨rfl,C2.out⟩
  |some s=>
   rw[B]at I;dsimp only[Option.getD_some,Option.isSome_some]at I⊢;obtain⟨s1,s2⟩:=s;dsimp only at I⊢;have HI:=O (fun(w:World)(g:Nat)(h:w.cell? ⟨g,0,none⟩=some (.int .u64 (s1:Int)))=>Qnt (c:=1) (own:=own) h);unfold ptr at*;clear h hc k hl ht q B;go_enter func101,ntmps101;go_wp2_with fail;refine Qi [(0,0),(0,1),(0,2),(0,3),(0,4),(0,5),(0,6),(0,7),(2,8),(2,9)] (by kernel_rfl) (by kernel_rfl) ?_ ?_;·exact fun _ _ _ _ _ h=>h
   simp only[Zs,Zf,Ze,Zd];iterate 8 (refine Zz (by kernel_rfl) (by go_simp;try with_reducible rfl) ?_)
   clear d0 d1 d2 d3 d4 d5 d6 d7;refine Jj ?_;go_wp2_with fail;refine K.out.mono ?_;rintro e w1⟨rfl,E⟩;have z:=O E.undrew;obtain⟨V,d,R,J,Z,c5,c6,U⟩:=Q7 (z.out.blk HB.out (fun h=>h));rw[E0.out]at d;unfold ptr at*;clear E;go_wp2_with fail;refine Jj ?_;go_wp2_with fail;refine Zu ?_;go_wp2_with fail;refine(I.out _ z.out).mono ?_;rintro e w2⟨rfl,u⟩;have C2:=O (z.out.trans' u);clear u V d R J Z c5 c6 U;go_wp2_with fail;refine(HI.out _ _ (Zv (Qh.new _ _ _))).mono ?_;rintro e w3⟨rfl,J⟩;have C3:=O ((C2.out.alloc _).trans' J);clear J;go_wp2;go_ret;exact⟨rfl,C3.out⟩
theorem Qqp(h:Qo A w F b p)(d:Qp dep N p):
  Cl 50 #[ptr b] w fun e w'=>e=.returned (.int .u64 ((p.tick:Nat):Int))∧Qc Qb w w':=by
 have u:=O (V6 h 0);obtain⟨r,hr,_⟩:=d.root;rw[Xc hr]at u;obtain⟨G,ht⟩:=h.tre hr;have k:=O (Qb8 ht);obtain⟨E,B,J,U,R,K,I,V⟩:=Q7 (h.cell hr);unfold Qe.tick;rw[hr];dsimp only;cases c:low r.tree with
 |none=> rw[c]at k;dsimp only[Option.getD_none,Option.isSome_none]at k⊢;rw[show((Qx:Nat):Int)=9223372036854775808 from rfl];unfold ptr at*;clear h d hr ht c;go_enter func50,ntmps50;go_wp2_with fail;refine u.out.mono ?_;rintro e w1⟨rfl,rfl⟩;go_wp2_with fail;refine k.out.mono ?_;rintro e w1⟨rfl,q⟩;have z:=O q;clear q E B J U R K I V;go_wp2;go_ret;exact⟨rfl,z.out⟩
 |some s=> rw[c]at k;obtain⟨s1,s2⟩:=s;dsimp only[Option.getD_some,Option.isSome_some]at k⊢;unfold ptr at*;clear h d hr ht c;go_enter func50,ntmps50;go_wp2_with fail;refine u.out.mono ?_;rintro e w1⟨rfl,rfl⟩;go_wp2_with fail;refine k.out.mono ?_;rintro e w1⟨rfl,q⟩;have z:=O q;clear q E B J U R K I V;go_wp2;go_ret;exact⟨rfl,z.out⟩
end
end
section
attribute [local go_sem] Qq
attribute [local irreducible] Y4 Jm
section
variable{A:Og}{w:World}{F:Fp}{b:Nat}{p:Qe}{N:Nat}{dep:Int→Nat}
theorem Qig{v:Nat}{l:List J6}{e:J6}(h:Xf v l=some e):e∈l:=List.mem_of_find?_eq_some h
theorem Qt9(p:Qe)(now n:Nat)(i:Int){c:Qv}(hc:p.at i=some c):p.next now (n+1) i=if c.leaf then some i else match Xf now c.tree with
  |none=>none
  |some e=>p.next now n e.2.1:=by
 rw[Qe.next,hc];rfl
theorem Qqq(h:Qo A w F b p)(u:Qp dep N p)(now:Nat):
  Cl 44 #[ptr b,.int .u64 (now:Int)] w fun e w'=>e=.returned (.tuple #[.int .i64 ((p.next now 10 0).getD 0),.bool (p.next now 10 0).isSome])∧Qc Qb w w':=by
 have HA:=O (V6 h 0);obtain⟨r,hr,_⟩:=u.root;obtain⟨Gk,hd⟩:=u.up;rw[Xc hr]at HA;have HO:=O u;have HH:=O h;have k:Hid (∃(id:Int)(c:Qv)(n:Nat),(0:Int)=id∧A.ad 0=A.ad id∧p.at id=some c∧n+dep id=9∧p.next now (n+1) id=p.next now 10 0∧Qc Qb w w):=O ⟨0,r,9,rfl,rfl,hr,by omega,rfl,Qc.refl _ _⟩;generalize U:p.next now 10 0=aa at k⊢;have HD:=O hd;unfold ptr at*;clear h u hr U hd;go_enter func44,ntmps44;go_wp2_with fail;refine HA.out.mono ?_;rintro e w1⟨rfl,rfl⟩;go_wp2_with fail;go_loopw [6,7] (fun i v wr=>∃(id:Int)(c:Qv)(n:Nat),i=.int .i64 id∧v=.pointer (some ⟨A.ad id,0,none⟩)∧p.at id=some c∧n+dep id=9∧p.next now (n+1) id=aa∧Qc Qb w wr) (fun i _ wr=>9-dep (intOf i));case atStart=> obtain⟨id,c,n,h1,h2,h3,h4,h5,h6⟩:=k.out;exact⟨id,c,n,by rw[←h1],by rw[←h2],h3,h4,h5,h6⟩
 case round=>
  obtain⟨id,c,n,rfl,rfl,hc,hn,d,J⟩:=hrel;have K:=(Qo.obj A).keep HH.out J (Je.none F);obtain⟨c0,c1,c2,c3,c4,c5,c6,c7⟩:=Q7 (K.cell hc);rw[Qt9 p now n id hc]at d;cases Z:c.leaf with
  |true=> rw[Z]at d c1;simp only[if_true]at d;subst d;have CW:=O J;clear K J hc;go_wp2;refine bodyPost_ret (v:=.tuple #[.int .i64 id,.bool true]) (by simp[results,Tryz.results44,go_sem]) rfl ⟨rfl,CW.out⟩
  |false=>
   rw[Z]at d c1;simp only[Bool.false_eq_true,if_false]at d;obtain⟨G,ht⟩:=K.tre hc;have R:=O (Qkt ht now);cases q:Xf now c.tree with
   |none=> rw[q]at R d;dsimp only[Option.map_none,Option.getD_none,Option.isSome_none]at R d;subst d;have CW:=O J;unfold ptr at*;clear K J hc ht q;go_wp2_with fail;refine R.out.mono ?_;rintro e w2⟨rfl,B⟩;have C2:=O (CW.out.trans' B);clear B c0 c1 c2 c3 c4 c5 c6 c7;go_wp2;refine bodyPost_ret (v:=.tuple #[.int .i64 0,.bool false]) (by simp[results,Tryz.results44,go_sem]) rfl ⟨rfl,C2.out⟩
   |some x=>
    rw[q]at R d;dsimp only[Option.map_some,Option.getD_some,Option.isSome_some]at R d;obtain⟨ac,rfl⟩:=Qe.at_mem hc;obtain⟨c',z,ab,ag⟩:=HO.out.tr c ac x (Qig q);obtain⟨E,V⟩:=Qe.at_mem z;have I:=HD.out c' E (by omega);rw[V,ab]at I;have af:Hid (∃(id:Int)(c:Qv)(n:Nat),Value.int .i64 x.2.1=.int .i64 id∧(Value.pointer (some ⟨A.ad x.2.1,0,none⟩))=.pointer (some ⟨A.ad id,0,none⟩)∧p.at id=some c∧n+dep id=9∧p.next now (n+1) id=aa):=O ⟨x.2.1,c',n-1,rfl,rfl,z,by omega,by rw[show n-1+1=n by omega];exact d⟩;have LT:Hid (9-dep x.2.1<9-dep c.id):=O (by omega);have CW:=O J;have hL:=fun w'(B:Qc Qb wr w')=>((Qo.obj A).keep K B (Je.none F)).look1 x.2.1;rw[Xc z]at hL;have HL:=O hL;have HB:=O K.blk;unfold ptr at*;clear K J hc ht q z ac E hL I d hn;go_wp2_with fail;refine R.out.mono ?_;rintro e w2⟨rfl,B⟩;have CC:=O B;have C2:=O (CW.out.trans' B);clear B c0 c1 c2 c3 c4 c5 c6 c7;go_wp2_with fail;refine Z9 [(0,0),(1,1),(1,2),(1,3),(1,4),(1,5),(1,6),(2,7),(3,8)] (fun wv=>Qc (Qb) (w2) wv) (by kernel_rfl) (by kernel_rfl) ?_ (by(repeat' (first|(with_reducible first|exact Zg _ _|assumption|refine Zh ?_ _|refine Zi ?_ _|refine Zj ?_ |refine Zk ?_ _ ?_ |(apply Or.inl;rfl))|(apply Or.inl;simp;done)|(apply Or.inr;simp;first|done|omega)))) ?_;·exact fun _ _ _ _ _ h=>h
    simp only[Zs,Zf,Ze,Zd];refine Jr (by kernel_rfl) (by go_simp;try with_reducible rfl) ?_;iterate 6 (refine Q4 (by kernel_rfl) (fun wv hv=>by(have zz:=hv.blk (CC.out.blk HB.out (fun h=>h)) (fun h=>h);have y0:=Zv zz;have y1:=HL.out _ (CC.out.trans' hv));go_simp;try with_reducible rfl) ?_;try simp only[Act.put,Za,Zc,Zb])
    refine Yc ?_;go_wp2_with fail;refine⟨(Qc.refl _ _).drew,?_⟩;refine V5 ?_;go_wp2_with fail;refine K8 ?_;go_wp2;obtain⟨ae,c2,n2,r1,r2,r3,r4,r5⟩:=af.out;exact⟨⟨ae,c2,n2,r1,r2,r3,r4,r5,C2.out.drew⟩,LT.out⟩
end
section
variable{A:Og}{w:World}{F:Fp}{b:Nat}{p:Qe}{N:Nat}{dep:Int→Nat}
theorem E9{i:Int}{c q:Qv}(hc:p.at i=some c)(d:p.at c.par=some q):p.note i=p.set {q with tree:=if p.awake i then Kg i (p.v i) c.fit q.tree else Jc i q.tree}:=by unfold Qe.note;rw[hc];dsimp only;rw[d]
theorem Yl{G:Fp}{w w1 w2:World}(h:w.heap.size≤w1.heap.size):∀k,Qn G w1 w2 k→Qn G w w2 k:=fun k c=>c.elim .inl (fun c=>.inr ⟨Nat.le_trans h c.1,c.2⟩)
theorem Qbe(h:Qo A w F b p)(u:Qp dep N p)(hN:N<549755813888){i:Int}{c q:Qv}(hi:0<i)(hc:p.at i=some c)(V:p.at c.par=some q):
  Cl 141 #[ptr b,.int .i64 i] w fun e w'=>e=.returned (.tuple #[])∧Qo A w' (Qn F w w') b (p.note i)∧Qc F w w':=by
 rw[E9 hc V];obtain⟨J,af⟩:=Qe.at_mem V;have k:=u.ok q J;have R:=h.look1 i;rw[Xc hc]at R;have U:=h.drew.look1 c.par;rw[Xc V]at U;have a0:=Zv h.blk;have aa:=Zv h.drew.blk;obtain⟨c0,_,_,_,_,_,_,_⟩:=Q7 (h.drew.cell hc);obtain⟨_,_,_,_,_,_,q6,_⟩:=Q7 (h.drew.cell V);obtain⟨G,ht,ae,z⟩:=h.treeOf J;rw[af]at ht;have I:=O (U7 h.drew u i);have HV:=O (fun w'(B:Qc Qb w w')=>Qyd ((Qo.obj A).keep h B (Je.none F)) u i);have HF:=O (fun w'(B:Qc Qb w w')=>Qt8 ((Qo.obj A).keep h B (Je.none F)) hc (u.ok c (Qe.at_mem hc).1) hN);have E:=O (fun w'(B:Qc Qb w w')=>Qjj (Zo.obj.keep ht B (Je.none G)) (Nat.lt_of_le_of_lt k.tree (by omega)) i (p.v i) c.fit);have ac:=O (fun w'(B:Qc Qb w w')=>Qa9 (Zo.obj.keep ht B (Je.none G)) (Nat.lt_of_le_of_lt k.tree (by omega)) i);have ab:Hid (∀w1 w2 t,Qc Qb w w1→Zo w2 (Qn G w1 w2) (A.pt c.par) t→Qc G w1 w2→Qo A w2 (Qn F w w2) b (p.set {q with tree:=t})∧Qc F w w2):=O (fun w1 w2 t K h2 c2=>by
  have B:Qc G w w2:=K.none.trans' c2;exact z w2 t (by rw[af];exact Zo.obj.more h2 (Yl K.size) ((Zo.obj.bd ht).ext B)) B)
 rcases Bool.eq_false_or_eq_true (p.awake i)with d|d
 ·rw[if_pos d];rw[d]at I;generalize p.v i=v at HV E⊢;generalize c.fit=ft at HF E⊢;unfold ptr at*;clear h u hc V ht z d ae k J ac;go_enter func141,ntmps141;go_wp2_with fail;refine Qi [(0,0),(0,1),(0,2),(0,3),(0,4),(0,5),(0,6),(0,7),(0,8),(0,9),(0,10),(0,11),(2,12)] (by kernel_rfl) (by kernel_rfl) ?_ ?_;·exact fun _ _ _ _ _ h=>h
  simp only[Zs,Zf,Ze,Zd];iterate 12 (refine Zz (by kernel_rfl) (by go_simp;try with_reducible rfl) ?_)
  refine Jj ?_;go_wp2_with fail;refine Zu ?_;clear R U a0 aa c0 q6;go_wp2_with fail;refine I.out.mono ?_;rintro e w1⟨rfl,K⟩;have C1:=O K.undrew;clear K;go_wp2_with fail;refine(HV.out _ C1.out).mono ?_;rintro e w2⟨rfl,c2⟩;have C2:=O (C1.out.trans' c2);clear c2;go_wp2_with fail;refine(HF.out _ C2.out).mono ?_;rintro e w3⟨rfl,c3⟩;have C3:=O (C2.out.trans' c3);clear c3;go_wp2_with fail;refine(E.out _ C3.out).mono ?_;rintro e w4⟨rfl,Z,c4⟩;have FF:=O (ab.out _ _ _ C3.out Z c4);clear Z c4;go_wp2;refine bodyPost_end (by simp[*,results,Tryz.results141,go_sem]) rfl ⟨rfl,FF.out⟩
 ·rw[if_neg (by rw[d];decide)];rw[d]at I;unfold ptr at*;clear h u hc V ht z d ae k J E HV HF;go_enter func141,ntmps141;go_wp2_with fail;refine Qi [(0,0),(0,1),(0,2),(0,3),(0,4),(0,5),(0,6),(0,7),(0,8),(0,9),(0,10),(0,11),(2,12)] (by kernel_rfl) (by kernel_rfl) ?_ ?_;·exact fun _ _ _ _ _ h=>h
  simp only[Zs,Zf,Ze,Zd];iterate 12 (refine Zz (by kernel_rfl) (by go_simp;try with_reducible rfl) ?_)
  refine Jj ?_;go_wp2_with fail;refine Zu ?_;clear R U a0 aa c0 q6;go_wp2_with fail;refine I.out.mono ?_;rintro e w1⟨rfl,K⟩;have C1:=O K.undrew;clear K;go_wp2_with fail;refine(ac.out _ C1.out).mono ?_;rintro e w4⟨rfl,Z,c4⟩;have FF:=O (ab.out _ _ _ C1.out Z c4);clear Z c4;go_wp2;refine bodyPost_end (by simp[*,results,Tryz.results141,go_sem]) rfl ⟨rfl,FF.out⟩
end
def Gk:List Int→Int
 |[]=>0
 |i::_=>i
section
variable{A:Og}{w:World}{F:Fp}{b:Nat}{p:Qe}{N:Nat}
theorem Di(g:FuncId)(V:Array Value)(eg:∀ac w,(callFunc g ac).run prog w=.ok (.enter g ac) w)(d:Qe→Int→Qe)(J:List Int→Qe→Prop)(mu:Int→Nat)
  (hJ:∀id rest p',J (id::rest) p'→0<id∧mu (Gk rest)<mu id∧J rest (d p' id)∧(∃c,p'.at id=some c)∧∃c',(d p' id).at id=some c'∧c'.par=Gk rest)
  (hS:∀id rest p' w',J (id::rest) p'→Qo A w' (Qn F w w') b p'→Qc F w w'→Cl g (#[.int .i64 id,ptr (A.ad id)]++V) w' fun e ae=>e=.returned (.tuple #[])∧Qo A ae (Qn (Qn F w w') w' ae) b (d p' id)∧Qc (Qn F w w') w' ae)
  (h:Qo A w F b p) (l:List Int) (hl:J l p) (i:Int) (hi:i=Gk l):
  Cl 136 #[ptr b,.int .i64 i,.func (.func g) #[] V] w fun e w'=>e=.returned (.tuple #[])∧Qo A w' (Qn F w w') b (l.foldl d p)∧Qc F w w':=by
 have aa:Hid (∃rest p',i=Gk rest∧J rest p'∧rest.foldl d p'=l.foldl d p∧Qo A w (Qn F w w) b p'∧Qc F w w):=O ⟨l,p,hi,hl,rfl,(Qo.obj A).more h (fun k hk=>.inl hk) (((Qo.obj A).bd h).ext (Qc.refl F w)),Qc.refl _ _⟩;have HJ:=O hJ;have HS:=O hS;have ak:=O ((Qo.obj A).bd h);generalize aj:l.foldl d p=al at aa⊢;unfold ptr at*;clear h hl hJ hS hi aj;go_enter func136,ntmps136;go_wp2;refine wp_scope_jumps 0 (fun a' wr=>∃rest p' u3 u4 u5 u6 u7 u8 u9 u10 u11 u12 u13 u14 u15 u16 u17 u18 u19 u20 u21 u22,a'={tmps:=#[.pointer (some ⟨b,0,none⟩),.int .i64 (Gk rest),.func (.func g) #[] V,u3,u4,u5,u6,u7,u8,u9,u10,u11,u12,u13,u14,u15,u16,u17,u18,u19,u20,u21,u22],defers:=[]}∧J rest p'∧rest.foldl d p'=al∧Qo A wr (Qn F w wr) b p'∧Qc F w wr)
  (fun a' _=>mu (intOf (a'.tmps.getD 1 undef))) rfl ?_ ?_
 ·obtain⟨rest,p',rfl,hj,hf,E,hc⟩:=aa.out;cases rest with
  |nil=> dsimp only[List.foldl_nil]at hf;rw[show Gk []=0 from rfl];subst hf;have af:=O (And.intro E hc);clear hj E hc;go_wp2;go_step3;go_wp2;simp only[Exit.jump];refine bodyPost_end (results_none rfl _ _ _) rfl ⟨rfl,af.out⟩
  |cons id rest=>
   dsimp only[List.foldl_cons]at hf;rw[show Gk (id::rest)=id from rfl];obtain⟨U,R,I,⟨c,Z⟩,c',q,u⟩:=HJ.out id rest p' hj;have d1:decide (0<id)=true:=by simpa using U
   have hL:=E.look1 id;rw[Xc Z]at hL;have a0:=Zv E.blk;have HC:=O (HS.out id rest p' w hj E hc);have CC:=O hc;have ah:=O hf;have ai:=O I;have ab:=O R;have B:=O (And.intro q u);obtain⟨nx,z⟩:=Zx (Gk rest);rw[←z]at ab B;have ag:=O z;clear z;unfold ptr at*;clear hj I E Z q hc hf u R;go_wp2;go_step3;go_wp2_with fail;refine HC.out.mono ?_;rintro e w2⟨rfl,h2,c2⟩;obtain⟨k1,k2⟩:=(Qo.obj A).two h2 ak.out CC.out c2;obtain⟨d0,_,_,_,_,_,_,_⟩:=Q7 (k1.cell B.out.1);rw[B.out.2]at d0;have K:=O (And.intro k1 k2);clear h2 c2 k1 k2 hL a0;go_wp2;go_step3;exact⟨rfl,⟨rest,_,_,_,_,_,_,_,_,_,_,_,_,_,_,_,_,_,_,_,_,_,by rw[←ag.out],ai.out,ah.out,K.out.1,K.out.2⟩⟩
 ·rintro a' wr⟨rest,p',u3,u4,u5,u6,u7,u8,u9,u10,u11,u12,u13,u14,u15,u16,u17,u18,u19,u20,u21,u22,rfl,hj,hf,E,hc⟩;cases rest with
  |nil=> dsimp only[List.foldl_nil]at hf;rw[show Gk []=0 from rfl];subst hf;have af:=O (And.intro E hc);clear hj E hc;go_wp2;simp only[Exit.jump];refine bodyPost_end (results_none rfl _ _ _) rfl ⟨rfl,af.out⟩
  |cons id rest=>
   dsimp only[List.foldl_cons]at hf;rw[show Gk (id::rest)=id from rfl];obtain⟨U,R,I,⟨c,Z⟩,c',q,u⟩:=HJ.out id rest p' hj;have d1:decide (0<id)=true:=by simpa using U
   have hL:=E.look1 id;rw[Xc Z]at hL;have a0:=Zv E.blk;have HC:=O (HS.out id rest p' wr hj E hc);have CC:=O hc;have ah:=O hf;have ai:=O I;have ab:=O R;have B:=O (And.intro q u);obtain⟨nx,z⟩:=Zx (Gk rest);rw[←z]at ab B;have ag:=O z;clear z;unfold ptr at*;clear hj I E Z q hc hf u R;go_wp2_with fail;refine HC.out.mono ?_;rintro e w2⟨rfl,h2,c2⟩;obtain⟨k1,k2⟩:=(Qo.obj A).two h2 ak.out CC.out c2;obtain⟨d0,_,_,_,_,_,_,_⟩:=Q7 (k1.cell B.out.1);rw[B.out.2]at d0;have K:=O (And.intro k1 k2);clear h2 c2 k1 k2 hL a0;go_wp2;go_step3;exact⟨rfl,⟨rest,_,_,_,_,_,_,_,_,_,_,_,_,_,_,_,_,_,_,_,_,_,by rw[←ag.out],ai.out,ah.out,K.out.1,K.out.2⟩,ab.out⟩
end
end
end Go.Proofs.YtnnhmpehkbihnaaGreat
