/- A part of the proof: no condition. -/
import Derived.Test.YtnnhmpehkbihnaaGreatPs10
import Derived.Shelf.SlMaps.Clone
import Derived.RangeFuncBox
import Derived.RangeFuncStops
import Derived.RangeFuncMany
import Derived.Sort.MapsRangeIn
import Derived.Sort.KeysCollected
import Derived.RegionIn
import Derived.RangeFuncWrites
import Derived.RegionTactic
import Derived.ChangeAlike
namespace Go.Proofs.YtnnhmpehkbihnaaGreat
set_option linter.unusedVariables false
set_option maxRecDepth 100000
set_option maxHeartbeats 4000000
open Go.RowKit
open Go.Proofs.Tryz
section
attribute [local go_sem] Qp
theorem Qjr(w):(zeroValue 204).run prog w=.ok (.agg #[.int .u64 0,.int .i64 0]) w:=by go_simp
theorem Qre{F:Fp}{w w1 w2 w3 w4:World}(h1:w.heap.size≤w1.heap.size)(d:w1.heap.size≤w2.heap.size)(q:w2.heap.size≤w3.heap.size)(u:w3.heap.size≤w4.heap.size):∀k,Qn (Qn F w1 w2) w3 w4 k→Qn F w w4 k:=by
 intro k c;rcases c with(c|c)|c;·exact .inl c
 ·exact .inr ⟨by omega,by omega⟩
 ·exact .inr ⟨by omega,by omega⟩
theorem Qux{F:Fp}{w w':World}(h:Bd F w)(hs:w.heap.size≤w'.heap.size):Bd (Qn F w w') w':=fun k c=>c.elim (fun c=>Nat.lt_of_lt_of_le (h k c) hs) (fun c=>c.2)
theorem Qt4{l:List Xu}(h:Ol l){e f:Xu}(u:e∈l)(hf:f∈l)(hi:e.2.1=f.2.1):e=f:=by
 unfold Ol at h;induction l with
 |nil=>cases u
 |cons a l z=>
  simp only[List.map_cons,List.nodup_cons]at h;rcases Zu.1 u with q|d
  ·rcases Zu.1 hf with k|c;·rw[q,k]
   ·exact absurd (Z3.2 ⟨f,c,by rw[←hi,q]⟩) h.1
  ·rcases Zu.1 hf with k|c;·exact absurd (Z3.2 ⟨e,d,by rw[hi,k]⟩) h.1
   ·exact z h.2 d c
theorem Qjx{l:List Xu}(h:Ol l){e:Xu}(c:e∈l):On e.2.1 l=some e:=by
 cases d:On e.2.1 l with
 |none=>exact absurd rfl (Pu d _ c)
 |some f=> obtain⟨h1,k⟩:=Pv d;rw[Qt4 h h1 c k]
theorem Qn0{w}{F:Fp}{b:Nat}{l:List Xu}(h:Jg w F b l)(n:Nat)(id:Int)(v:Nat)(E:(n,id,v)∈l):
  Cl 105 #[ptr b,.int .i64 id] w fun e w'=>e=.returned (.tuple #[.int .u64 n,.int .u64 v,.bool true])∧Qc Qb w w':=by
 obtain⟨T,m,L,Z,h0,⟨G,h1⟩,U⟩:=h.opn;have V:On id l=some (n,id,v):=Qjx h.1 E;have k:=Qht (id:=id) Z h.1;rw[V,Zn]at k;have B:=Dj (P:=prog) U underlying196 underlying3 (Qjr w) id;rw[k]at B;dsimp only[Option.getD_some,Option.isSome_some]at B;obtain⟨q,I⟩:=Zx (w.heap.size);obtain⟨W,hW⟩:=Zx (w.alloc (.cells #[.int .u64 n,.int .i64 id] 204));have z:Hi (Qc Qb w W):=O (by rw[hW];exact(Zg _ _).alloc _);have J:Hi (Qh W q #[.int .u64 n,.int .i64 id] 204):=O (by rw[hW,I];exact Qh.new _ _ _);have B0:=O (z.o.blk h0 (fun h=>h));have HO:=O (Dp h0);have HG:=O (fun w'(hc:Qc Qb w w')=>Qpz (Vz.obj.aB h1 hc (Jl.none G)) n id v E);obtain⟨a0,a1⟩:=Q4 h0;unfold ptr Yo at*;clear h Z h0 h1 U V k E;go_enter func105,ntmps105;go_wp2_with fail;refine Zy HO ?_;rintro w1 rfl;go_wp2_with fail;rw[←I,←hW];clear I hW a0 a1 B;have E1:=fun x=>Q4 (Qk (S:=Qb) B0.o (fun h=>h) x);have E2:=fun x=>Q4 (Qk (S:=Qb) J.o (fun h=>h) x);refine Qcp [(true,0),(true,1),(true,2),(true,3),(true,4),(false,5),(true,6),(true,7),(true,8),(false,9),(false,10)] (fun w'=>∃x,w'=Qz (Qb) (W) x) Zq (by kernel_rfl) (fun _ _ _ _ _ h=>h) (Qd (Zj (Zg _ _))) ?_;simp only[E8,Zf,Ze,Zd];iterate 5 (refine Qr1 (by kernel_rfl) (fun u d=>(by obtain⟨x,rfl⟩:=d;go_simp;try rfl)) ?_;try simp only[Act.put,Za,Zc,Zb])
 refine Qr0 (fun u d=>?_);obtain⟨x,rfl⟩:=d;have c:=O (Qv Qb W x);generalize Qz Qb W x=w1 at c⊢;clear E1 E2;go_wp2_with fail;refine Zz (HG.o _ (z.o.aA c.o)) ?_;intro w2 R;have K:=O (c.o.aA R);clear R;go_wp2;refine⟨Qd K.o,?_⟩;clear K w2 c w1;try simp only[Act.put,Za,Zc,Zb]
 iterate 3 (refine Qr1 (by kernel_rfl) (fun u d=>(by obtain⟨x,rfl⟩:=d;go_simp;try rfl)) ?_;try simp only[Act.put,Za,Zc,Zb])
 iterate 2 (refine Qr0 (fun u d=>?_);go_wp2;refine⟨d,?_⟩;clear d u;try simp only[Act.put,Za,Zc,Zb])
 refine Qt2 (fun wz hz=>?_);obtain⟨x,rfl⟩:=hz;have c:=O (Qv Qb W x);generalize Qz Qb W x=w1 at c⊢;obtain⟨k0,k1⟩:=Q4 (c.o.blk J.o (fun h=>h));go_wp2;refine bodyPost_ret (v:=.tuple #[.int .u64 n,.int .u64 v,.bool true]) ?_ rfl ⟨rfl,?_⟩;·simp[*,results,Tryz.results105,go_sem]
 ·exact z.o.aA c.o
theorem Qjw{l:List Xu}(h:Ol l){e:Xu}(c:e∈l):Xa e.2.1 l=del e.1 e.2.1 l:=Qgj h c rfl
theorem Jg.o{w W w2 w3}{F:Fp}{b:Nat}{l:List Xu}{e:Xu}(h:Jg w F b l)(he:e∈l){T m:Nat}{L:List (Int×Value)}(hp:L.Perm (atV l))(hs:Oh (Qet b T m l L) w F)(z:Qc Qb w W)
  (hM:Xq w2 m (Vu e.2.1 L)) (V:Qc (fun j=>j=m) W w2) (B:Qc Qb w2 w3):
  Qh w3 b #[ptr T,.map (some m)] 198∧∃G,Vz w3 G T l∧∀w4,Qc G w3 w4→Vz w4 (Qn G w3 w4) T (del e.1 e.2.1 l)→Jg w4 (Qn F w w4) b (Xa e.2.1 l)∧Qc F w w4:=by
 have g:=Je (Yl b T m l L);have s1:=g.aB hs z (Jl.none F);obtain⟨G2,⟨m1,m2,m3⟩,u,ab,d⟩:=Xv 2 (Yl b T m l L) rfl s1;have I:Qc G2 W w2:=V.sub fun k U=>U▸m2;have s2:Oh (Qet b T m l (Vu e.2.1 L)) w2 (Qn F W w2):=d w2 (Qo8 m (Vu e.2.1 L)) I ⟨hM,.inl m2,m3.ext I⟩;have J:=Yl b T m l (Vu e.2.1 L);have s3:=(Je J).aB s2 B (Jl.none _);obtain⟨B0,K,_⟩:=J6 J 0 rfl s3;obtain⟨G,hG,q,aa,c⟩:=Xv 1 J rfl s3;refine⟨K.1,G,hG,fun w4 E hT=>?_⟩;have s4:Oh (Qet b T m (del e.1 e.2.1 l) (Vu e.2.1 L)) w4 (Qn (Qn F W w2) w3 w4):=c w4 (fun w G=>Vz w G T (del e.1 e.2.1 l)) E hT;have R:=Jg.obj.bd h;have Z:Qc F w w4:=((z.none.aA (I.sub u)).aA B.none).trans E fun k U=>(q k U).elim .inl (fun h=>.inr (Zp z.size h.1));have s5:=(Je (Yl b T m _ _)).more s4 (Qre z.size V.size B.size E.size) (R.ext Z);refine⟨⟨h.1.drop,T,m,_,Qq1 hp,?_⟩,Z⟩;rw[Qjw h.1 he];exact s5
theorem Jg.same{w w'}{F:Fp}{b:Nat}{l:List Xu}{id:Int}(h:Jg w F b l)(hn:On id l=none)(hc:Qc Qb w w'):Jg w' (Qn F w w') b (Xa id l)∧Qc F w w':=by rw[M7 (Pu hn)];exact⟨Jg.obj.more (Jg.obj.aB h hc (Jl.none F)) (fun k c=>.inl c) ((Jg.obj.bd h).ext (hc.none (F:=F))),hc.none⟩
theorem Tt{w}{F:Fp}{b:Nat}{l:List Xu}(h:Jg w F b l)(hl:l.length<4611686018427387904)(id:Int):
  Cl 197 #[ptr b,.int .i64 id] w fun e w'=>e=.returned (.bool (On id l).isSome)∧Jg w' (Qn F w w') b (Xa id l)∧Qc F w w':=by
 have V:=h;obtain⟨ho,T,m,L,Z,hs⟩:=h;obtain⟨G0,h0,_⟩:=J6 (Yl _ T m _ L) 0 rfl hs;obtain⟨G2,d,_⟩:=J6 (Yl _ T m _ L) 2 rfl hs;have h0:=h0.1;have d:=d.1;have u:=Qht (id:=id) Z ho;have z:=Dj (P:=prog) d underlying196 underlying3 (Qjr w) id;rw[u]at z;have HO:=O (Dp h0);obtain⟨a0,a1⟩:=Q4 h0;obtain⟨q,hq⟩:=Zx (w.heap.size);cases B:On id l with
 |none=> rw[B]at z;dsimp only[Option.map_none,Option.getD_none,Option.isSome_none]at z⊢;have c:=O (fun w'(hc:Qc Qb w w')=>V.same B hc);unfold ptr at*;clear h0 d u Z hs B V hl;go_enter func197,ntmps197;go_wp2_with fail;refine Zy HO ?_;rintro w1 rfl;go_wp2;go_ret;refine⟨rfl,c.o _ ?_⟩;exact Zh (Zg _ _) _
 |some e0=>
  obtain⟨k,R⟩:=Pv B;obtain⟨n,i,v⟩:=e0;dsimp only at R;subst R;rw[B]at z;dsimp only[Zn,Option.getD_some,Option.isSome_some]at z⊢;obtain⟨W,hW⟩:=Zx (w.alloc (.cells #[.int .u64 n,.int .i64 i] 204));have C0:Hi (Qc Qb w W):=O (by rw[hW];exact(Zg _ _).alloc _);have K0:Hi (Qh W q #[.int .u64 n,.int .i64 i] 204):=O (by rw[hW,hq];exact Qh.new _ _ _);have B0:=O (C0.o.blk h0 (fun h=>h));obtain⟨w2,J,I,c2⟩:=Di (P:=prog) (d.aB C0.o (fun h=>h)) underlying196 underlying3 3 0 i;have AO:=O (fun w3 E=>Jg.o V k Z hs C0.o I c2 (w3:=w3) E);have K2:=O (c2.blk K0.o (fun e=>by have:=d.lt;have:=hq;omega));have aa:=O (fun w3 G(h:Vz w3 G T l)=>Qly h hl n i ⟨_,k,rfl,rfl⟩);unfold ptr Yo at*;clear h0 d u Z hs B V k I c2 hl;go_enter func197,ntmps197;go_wp2_with fail;refine Zy HO ?_;rintro w1 rfl;go_upto_region 6 with fail;rw[←hq,←hW];clear hq hW a0 a1 z;obtain⟨a0,a1⟩:=Q4 B0.o;go_wp2_with fail;clear a0 a1 J;have E1:=fun x=>Q4 (Qk (S:=Qb) ((AO.o w2 (Zg _ _)).1) (fun h=>h) x);have E2:=fun x=>Q4 (Qk (S:=Qb) K2.o (fun h=>h) x);refine Qu [] [0,1,2,3,4] [] [5,6,7] (Qz (Qb) (w2)) Zq (by kernel_rfl) (fun _ _ _ _ _ h=>h) (Qd (Zj (Zg _ _))) ?_;simp only[pick,Zf,Ze,Zd];refine Qg ?_;iterate 5 (refine Ql (fun K hK=>?_);go_simp;refine hK _ ?_;clear hK K)
  refine Qg ?_;intro _ ab;obtain⟨xo,U⟩:=ab;subst U;simp only[Jd];have E:=Qv Qb w2 xo;generalize Qz Qb w2 xo=w3 at E⊢;obtain⟨_,G,hG,c⟩:=AO.o w3 E;have HF:=O c;have HD:=O (aa.o w3 G hG);clear E1 E2 c hG E;go_wp2_with fail;refine Zy HD ?_;rintro w4⟨hT,c4⟩;have FF:=O (HF.o w4 c4 hT);clear hT c4;go_wp2;go_ret;exact⟨rfl,FF.o⟩
theorem Jg.putIn{w W}{F:Fp}{b:Nat}{l:List Xu}(ho:Ol l){n v:Nat}{i:Int}(hn:∀e∈l,e.2.1≠i){T m:Nat}{L:List (Int×Value)}(hp:L.Perm (atV l))(hs:Oh (Qet b T m l L) w F)(z:Qc Qb w W):
  Qh W b #[ptr T,.map (some m)] 198∧∃G,Vz W G T l∧(∀k,G k→F k)∧(∀w2 w3,Qc G W w2→Vz w2 (Qn G W w2) T (Un (n,i,v) l)→Qc Qb w2 w3→
   Qh w3 b #[ptr T,.map (some m)] 198∧Xq w3 m L∧(∀w4,Qc (fun j=>j=m) w3 w4→Xq w4 m (Oi i (Yo n i) L)→Jg w4 (Qn F w w4) b (Un (n,i,v) l)∧Qc F w w4)):=by
 have B:=Yl b T m l L;have s1:=(Je B).aB hs z (Jl.none F);obtain⟨B0,R,_⟩:=J6 B 0 rfl s1;obtain⟨G,hG,c,aa,d⟩:=Xv 1 B rfl s1;refine⟨R.1,G,hG,c,fun w2 w3 E hT I=>?_⟩;have s2:Oh (Qet b T m (Un (n,i,v) l) L) w2 (Qn F W w2):=d w2 (fun w G=>Vz w G T (Un (n,i,v) l)) E hT;have K:=Yl b T m (Un (n,i,v) l) L;have s3:=(Je K).aB s2 I (Jl.none _);obtain⟨B1,U,_⟩:=J6 K 0 rfl s3;obtain⟨G2,⟨m1,m2,m3⟩,u,ab,q⟩:=Xv 2 K rfl s3;refine⟨U.1,m1,fun w4 c4 hM=>?_⟩;have J:Qc G2 w3 w4:=c4.sub fun k Z=>Z▸m2;have s4:Oh (Qet b T m (Un (n,i,v) l) (Oi i (Yo n i) L)) w4 (Qn (Qn F W w2) w3 w4):=q w4 (Qo8 m (Oi i (Yo n i) L)) J ⟨hM,.inl m2,m3.ext J⟩;have V:=(Je B).bd hs;have cF:Qc F w w4:=((z.none.aA (E.sub c)).aA I.none).trans J fun k Z=>(u k Z).elim .inl (fun h=>.inr (Zp z.size h.1));have s5:=(Je (Yl b T m _ _)).more s4 (Qre z.size E.size I.size c4.size) (V.ext cF);refine⟨⟨?_,T,m,_,Qta hp hn,s5⟩,cF⟩;have:=Ol.put (id:=i) (key:=n) (value:=v) ho;unfold Vf at this;rwa[M7 hn]at this
theorem Qn.ext{F:Fp}{w w1 w2}{b:Nat}{l:List Xu}(h:Jg w2 (Qn (Qn F w w1) w1 w2) b l)(h1:w.heap.size≤w1.heap.size)(c:w1.heap.size≤w2.heap.size)(d:Bd F w):Jg w2 (Qn F w w2) b l:=
 Jg.obj.more h (Qn.trans h1 c) (Qux d (Zp h1 c))
theorem Qct{w}{F:Fp}{b:Nat}{l:List Xu}(h:Jg w F b l)(hl:l.length<4611686018427387903)(id:Int)(n v:Nat):
  Cl 199 #[ptr b,.int .i64 id,.int .u64 n,.int .u64 v] w fun e w'=>e=.returned (.tuple #[])∧Jg w' (Qn F w w') b (Vf id n v l)∧Qc F w w':=by
 have HD:=O (Tt h (by omega) id);obtain⟨T0,m0,L0,ag,U,_⟩:=h.opn;have HO:=O (Dp U);have ac:=O (Jg.obj.bd h);have af:(Xa id l).length≤l.length:=List.length_filter_le _ _;have d:Hi (∀e∈Xa id l,e.2.1≠id):=O (fun e he hi=>by have:=(List.mem_filter.1 he).2;simp at this;exact this hi);have u:Hi (Un (n,id,v) (Xa id l)=Vf id n v l):=O rfl;have J:Hi ((Xa id l).length<4611686018427387904):=O (by omega);generalize Vf id n v l=lp at u⊢;generalize Xa id l=ld at HD d u J;unfold ptr at*;clear h ag U af hl;go_enter func199,ntmps199;go_wp2_with fail;refine Zy HO ?_;rintro w1 rfl;go_wp2_with fail;refine Zy HD ?_;rintro w1⟨⟨ho,T,m,L,hp,hs⟩,c1⟩;obtain⟨q,hq⟩:=Zx (w1.heap.size);obtain⟨W,hW⟩:=Zx (w1.alloc (.cells #[.int .u64 n,.int .i64 id] 204));have C0:Hi (Qc Qb w1 W):=O (by rw[hW];exact(Zg _ _).alloc _);have K0:Hi (Qh W q #[.int .u64 n,.int .i64 id] 204):=O (by rw[hW,hq];exact Qh.new _ _ _);have PU:=O (fun W(c0:Qc Qb w1 W)=>Jg.putIn (n:=n) (v:=v) ho d.o hp hs c0);have C1:=O c1;have BB:=O ((PU.o W C0.o).1);have ab:=O ((Je (Yl _ T m _ L)).bd hs);have KQ:=O (show∀k,(Qn F w w1) k→k≠q from fun k hk e=>by have:=ab.o k hk;omega);clear ho hp hs c1 HD HO;go_wp2_with fail;rw[←hq,←hW];clear hq hW;have E1:=fun x=>Q4 (Qk (S:=Qb) BB.o (fun h=>h) x);have E2:=fun x=>Q4 (Qk (S:=Qb) K0.o (fun h=>h) x);refine Qu [] [0,1,2,3,4,5] [] [6] (Qz (Qb) (W)) Zq (by kernel_rfl) (fun _ _ _ _ _ h=>h) (Qd (Zj (Zg _ _))) ?_;simp only[pick,Zf,Ze,Zd];refine Qg ?_;iterate 6 (refine Ql (fun K Z=>?_);go_simp;refine Z _ ?_;clear Z K)
 refine Qg ?_;intro _ B;obtain⟨xo,c⟩:=B;subst c;simp only[Jd];have c3:=O (Qv Qb W xo);generalize Qz Qb W xo=w3 at c3⊢;clear E1 E2;obtain⟨_,G,hG,V,NX⟩:=PU.o w3 (C0.o.aA c3.o);have HG:=O hG;have ae:=O V;have R:=O NX;have z:=O (Qp2 HG.o J.o n id v (fun e he h=>d.o e he h.2));have K3:=O (c3.o.blk K0.o (fun h=>h));unfold Yo ptr at z;clear hG V NX PU;go_wp2_with fail;refine Zy z ?_;rintro w5⟨hT,c5⟩;have N5:=O (fun w6(E:Qc Qb w5 w6)=>R.o w5 w6 c5 hT E);have K5:=O (c5.blk K3.o (fun h=>KQ.o _ (ae.o _ h) rfl));have S5:=O (Zp C0.o.size (Zp c3.o.size c5.size));have E1:=fun x=>Q4 (Qk (S:=Qb) ((N5.o w5 (Zg _ _)).1) (fun h=>h) x);have E2:=fun x=>Q4 (Qk (S:=Qb) K5.o (fun h=>h) x);clear hT c5 R HG z;unfold ptr at E1;go_wp2_with fail;refine Qu [] [0,1,2,3,4,5] [] [6] (Qz (Qb) (w5)) Zq (by kernel_rfl) (fun _ _ _ _ _ h=>h) (Qd (Zj (Zg _ _))) ?_;simp only[pick,Zf,Ze,Zd];refine Qg ?_;iterate 6 (refine Ql (fun K Z=>?_);go_simp;refine Z _ ?_;clear Z K)
 refine Qg ?_;intro _ B;obtain⟨xo,c⟩:=B;subst c;simp only[Jd];have E:=Qv Qb w5 xo;generalize Qz Qb w5 xo=w6 at E⊢;clear E1 E2;obtain⟨_,hM,I⟩:=N5.o w6 E;obtain⟨w7,ah,aa,c7⟩:=X6 (P:=prog) hM underlying196 underlying3 id (Yo n id);have FF:=O (I w7 c7 aa);have SS:=O (Zp S5.o (Zp E.size c7.size));unfold Yo at ah;clear I aa c7 hM E N5;go_wp2;refine bodyPost_end (by simp[*,results,Tryz.results199,go_sem]) rfl ⟨rfl,?_⟩;rw[←u.o];exact⟨Qn.ext FF.o.1 C1.o.size SS.o ac.o,C1.o.ext FF.o.2⟩
theorem Qo9{w}{b:Nat}{L:List (Int×Value)}(h:Xq w b L):Cl 155 #[.map (some b)] w fun e w'=>e=.returned (.map (some w.heap.size))∧Xq w' w.heap.size L∧Qc Qb w w':=by obtain⟨q,d,u,c⟩:=h;have k:=O c;have z:=fun w=>run_eql_map_nil_sl (P:=prog) w 196 _ _ (some b) underlying196;clear c;go_enter func155,ntmps155;go_wp2;rw[run_callFunc_extern func142 (by kernel_rfl) (by kernel_rfl) (by kernel_rfl) (e:=Extern.MapsClone.clone) (by kernel_rfl),run_maps_clone_sl w 196 u];simp only[Result.andThen];rw[Oper.upon_value];go_wp2;rw[run_typeAssert_map_sl _ 196 _ _ _ _ underlying196];simp only[Result.andThen];rw[Oper.upon_value];go_wp2;go_ret;exact⟨rfl,⟨q,d,(MapKept.heap_alloc w _).1,k.o⟩,(Zg _ _).alloc _⟩
theorem Jg.made{w w':World}{b T m:Nat}{G:Fp}{l:List Xu}{L:List (Int×Value)}(R:Ol l)(U:L.Perm (atV l))(q:Qh w' b #[ptr T,.map (some m)] 198)(z:Vz w' G T l)(d:Xq w' m L)
  (h1:w.heap.size≤b) (B:w.heap.size≤m) (E:∀k,G k→w.heap.size≤k) (I:b≠m) (J:¬G b) (K:¬G m):Jg w' (Qn Qb w w') b l:=by
 have bd:Bd (Qn Qb w w') w':=fun k c=>c.elim (fun h=>h.elim) (fun h=>h.2);have u:=Vz.obj.bd z;refine⟨R,T,m,L,U,?_⟩;refine Q7 (G:=fun k=>k=b) (H:=fun k=>G k∨k=m) ⟨q,rfl,fun k e=>e▸q.lt⟩ (Q7 (G:=G) (H:=fun k=>k=m) z (Y6 ⟨d,rfl,fun k e=>e▸d.lt⟩ (fun k e=>e▸d.lt)) ?_ (fun k h=>.inl h) (fun k h=>.inr h) ?_) ?_ ?_ ?_ bd;·rintro k c rfl;exact K c
 ·intro k c;rcases c with c|rfl;·exact u k c
  ·exact d.lt
 ·rintro k rfl c;rcases c with c|c;·exact J c
  ·exact I c
 ·rintro k rfl;exact .inr ⟨h1,q.lt⟩
 ·intro k c;rcases c with c|rfl;·exact .inr ⟨E k c,u k c⟩
  ·exact .inr ⟨B,d.lt⟩
theorem Bw(w):Cl 119 #[] w fun e w'=>∃b,e=.returned (ptr b)∧Jg w' (Qn Qb w w') b []∧Qc Qb w w':=by
 have z:=O (Qp1 w);unfold ptr Dd Vv at*;go_enter func119,ntmps119;go_wp2_with fail;refine Zy z ?_;rintro w1⟨u,d⟩;have c:Hi (∀w',w'=(w1.alloc (.map #[] 0)).alloc (.cells #[.pointer (some ⟨w.heap.size,0,none⟩),.map (some w1.heap.size)] 198)→Jg w' (Qn Qb w w') (w1.heap.size+1) []∧Qc Qb w w'):=O (by
  rintro w' rfl;have q:Qc Qb w1 ((w1.alloc (.map #[] 0)).alloc (.cells #[.pointer (some ⟨w.heap.size,0,none⟩),.map (some w1.heap.size)] 198)):=((Zg _ _).alloc _).alloc _;have s1:=d.size;refine⟨Jg.made (T:=w.heap.size) (m:=w1.heap.size) (G:=Qn Qb w w1) (L:=[]) List.nodup_nil (List.Perm.refl _) (Qh.new' _ _ (by simp)) (Vz.obj.aB u q (Jl.none _)) ((Xq.new w1).aB ((Zg Qb _).alloc _) (fun h=>h)) (by omega) (by omega) (fun k B=>B.elim (fun h=>h.elim) (fun h=>h.1)) (by omega) ?_ ?_,d.aA q⟩
  ·rintro(h|h);·exact h
   ·omega
  ·rintro(h|h);·exact h
   ·omega)
 have E:=@run_makeMap prog;clear u d;go_wp2;go_ret;exact⟨_,rfl,c.o _ rfl⟩
theorem Ao{w}{F:Fp}{b:Nat}{l:List Xu}(h:Jg w F b l):Cl 85 #[ptr b] w fun e w'=>∃b',e=.returned (ptr b')∧Jg w' (Qn Qb w w') b' l∧Qc Qb w w':=by
 have ho:=h.1;obtain⟨T,m,L,hp,h0,⟨G,h1⟩,h2⟩:=h.opn;have HC:=O (fun w'(c:Qc Qb w w')=>Qlx (Vz.obj.aB h1 c (Jl.none G)));have HM:=O (fun w'(c:Qc Qb w w')=>Qo9 (h2.aB c (fun h=>h)));have HP:=O (Zt ho hp);have H0:=O h0;obtain⟨a0,a1⟩:=Q4 h0;unfold ptr at*;have E1:=fun x=>Q4 (Qk (S:=Qb) H0.o (fun h=>h) x);clear h ho hp h0 h1 h2;go_enter func85,ntmps85;go_wp2_with fail;clear a0 a1;refine Qu [] [0,1,2,3,5,6,7,8] [4,9,10,11,12] [] (Qz (Qb) (w)) Zq (by kernel_rfl) (fun _ _ _ _ _ h=>h) (Qd (Zj (Zg _ _))) ?_;simp only[pick,Zf,Ze,Zd];refine Qg ?_;iterate 8 (refine Ql (fun K hK=>?_);go_simp;refine hK _ ?_;clear hK K)
 refine Qg ?_;intro _ Z;obtain⟨xo,B⟩:=Z;subst B;simp only[Jd];have I:=O (Qv Qb w xo);generalize Qz Qb w xo=w1 at I⊢;clear E1;go_wp2_with fail;refine(HC.o w1 I.o).mono ?_;rintro e w2⟨E,rfl,hT,U⟩;have R:=O (I.o.aA U);have HT:=O hT;have D2:=O U;clear hT U;go_wp2;refine⟨Qd R.o,?_⟩;go_wp2_with fail;refine Zz (HM.o w2 R.o) ?_;rintro w3⟨hM,V⟩;have J:=O (R.o.aA V);have z:=O hM;have D3:=O V;clear hM V;go_wp2;refine⟨Qd J.o,?_⟩;go_wp2;refine⟨Qd J.o,?_⟩;have u:Hi (∀w',w'=w3.alloc (.cells #[.pointer (some ⟨E,0,none⟩),.map (some w2.heap.size)] 198)→Jg w' (Qn Qb w w') w3.heap.size l∧Qc Qb w w'):=O (by
  rintro w' rfl;have q:Qc Qb w3 (w3.alloc (.cells #[.pointer (some ⟨E,0,none⟩),.map (some w2.heap.size)] 198)):=(Zg _ _).alloc _;have s1:=I.o.size;have s2:=D2.o.size;have s3:=D3.o.size;have s4:=z.o.lt;refine⟨Jg.made (T:=E) (m:=w2.heap.size) (G:=Qn Qb w1 w2) (L:=L) HP.o.1 HP.o.2 (Qh.new _ _ _) (Vz.obj.aB (Vz.obj.aB HT.o D3.o (Jl.none _)) q (Jl.none _)) (z.o.aB q (fun h=>h)) (by omega) (by omega) (fun k hk=>hk.elim (fun h=>h.elim) (fun h=>by omega)) (by omega) ?_ ?_,J.o.aA q⟩
  ·rintro(h|h);·exact h
   ·omega
  ·rintro(h|h);·exact h
   ·omega)
 obtain⟨w4,d⟩:=Zx (w3.alloc (.cells #[.pointer (some ⟨E,0,none⟩),.map (some w2.heap.size)] 198));have q:=O (show Qc Qb w w4 from d▸J.o.alloc _);obtain⟨f1,f2⟩:=u.o w4 d;have FF:=O (Zt f1 f2);clear u f1 f2;go_wp2;rw[←d];refine⟨Qd q.o,?_⟩;clear d;go_wp2;refine⟨Qd q.o,?_⟩;go_wp2;go_ret;exact⟨_,rfl,FF.o⟩
abbrev Yq:World→Fp→Nat→List Xu→Prop:=O1 135 (fun _ p=>#[ptr p]) (fun l=>l) Jg
theorem Yq.obj:Hf Yq:=O1.obj Jg.obj
theorem Qod(w):Cl 66 #[] w fun e w'=>∃b,e=.returned (ptr b)∧Yq w' (Qn Qb w w') b []∧Qc Qb w w':=by
 have z:=O (Bw w);unfold ptr at*;go_enter func66,ntmps66;go_wp2_with fail;refine Zo z ?_;rintro e w1⟨p,rfl,u,d⟩;have c:Hi (∀w',w'=w1.alloc (.cells #[.pointer (some ⟨p,0,none⟩)] 135)→Yq w' (Qn Qb w w') w1.heap.size []∧Qc Qb w w'):=O (by
  rintro w' rfl;have q:Qc Qb w1 (w1.alloc (.cells #[.pointer (some ⟨p,0,none⟩)] 135)):=(Zg _ _).alloc _;have s1:=d.size;exact⟨O1.new (p:=p) (Jg.obj.aB u q (Jl.none _)) (fun k B=>B.elim (fun h=>h.elim) (fun h=>h.1)) Jg.obj (Qh.new _ _ _) (by omega) (fun h=>h.elim (fun h=>h.elim) (fun h=>by omega)),d.aA q⟩)
 clear u d;go_wp2;go_ret;exact⟨_,rfl,c.o _ rfl⟩
theorem Qj8{w}{F:Fp}{b:Nat}{l:List Xu}(h:Yq w F b l):Cl 37 #[ptr b] w fun e w'=>∃b',e=.returned (ptr b')∧Yq w' (Qn Qb w w') b' l∧Qc Qb w w':=by
 obtain⟨p,G,z,d,U⟩:=h.ex;have B:=O (Ao d);have K:=Jf z;have J:Hi (Cl 84 #[ptr b,.func (.func 85) #[] #[],.pointer none] w fun e w'=>∃b',e=.returned (ptr b')∧Jg w' (Qn Qb w w') b' l∧Qc Qb w w'):=O (by
  unfold ptr at*;clear h z d;go_enter func84,ntmps84;go_wp2_with fail;refine Zo B ?_;rintro e w1⟨q,rfl,h1,c⟩;have I:=O (Zt h1 c);clear h1 c;go_wp2;go_ret;exact⟨_,rfl,I.o⟩)
 unfold ptr at*;clear h z d B K;go_enter func37,ntmps37;go_wp2_with fail;refine Zo J ?_;rintro e w1⟨q,rfl,d,c⟩;have u:Hi (∀w',w'=w1.alloc (.cells #[.pointer (some ⟨q,0,none⟩)] 135)→Yq w' (Qn Qb w w') w1.heap.size l∧Qc Qb w w'):=O (by
  rintro w' rfl;have E:Qc Qb w1 (w1.alloc (.cells #[.pointer (some ⟨q,0,none⟩)] 135)):=(Zg _ _).alloc _;have s1:=c.size;exact⟨O1.new (p:=q) (Jg.obj.aB d E (Jl.none _)) (fun k R=>R.elim (fun h=>h.elim) (fun h=>h.1)) Jg.obj (Qh.new _ _ _) (by omega) (fun h=>h.elim (fun h=>h.elim) (fun h=>by omega)),c.aA E⟩)
 clear d c;go_wp2;go_ret;exact⟨_,rfl,u.o _ rfl⟩
theorem Qj9{w}{F:Fp}{b:Nat}{l:List Xu}(h:Yq w F b l)(hl:l.length<4611686018427387904)(id:Int):
  Cl 134 #[ptr b,.int .i64 id] w fun e w'=>e=.returned (.bool (On id l).isSome)∧Yq w' (Qn F w w') b (Xa id l)∧Qc F w w':=by
 obtain⟨q,B⟩:=Zx (w.heap.size);obtain⟨W,hW⟩:=Zx (w.alloc (.cells #[.int .i64 id] 3));have I:Hi (Qc Qb w W):=O (by rw[hW];exact(Zg _ _).alloc _);have K0:Hi (Qh W q #[.int .i64 id] 3):=O (by rw[hW,B];exact Qh.new _ _ _);have V:=O h.bd;have h:=Yq.obj.aB h I.o (Jl.none F);have H:=O h;obtain⟨p,G,z,J,hG⟩:=h.ex;have U:=O (Tt J hl id);have u:=O hG;have a0:=Jf z;have HB:=O z;have k0:=Jf K0.o;generalize Xa id l=E at U⊢;have HC:Hi (Cl 196 #[ptr p,ptr q] W fun e w'=>e=.returned (.bool (On id l).isSome)∧Jg w' (Qn G W w') p E∧Qc G W w'):=O (by
  unfold ptr at*;clear h z J a0 hW B;go_enter func196,ntmps196;go_wp2_with fail;refine Zy U ?_;rintro w1⟨h1,c⟩;have d:=O (Zt h1 c);clear h1 c;go_wp2;go_ret;exact⟨rfl,d.o⟩)
 have HK:Hi (Cl 195 #[ptr b,.func (.func 196) #[] #[ptr q],.bool false] W fun e w'=>e=.returned (.bool (On id l).isSome)∧Jg w' (Qn G W w') p E∧Qc G W w'):=O (by
  unfold ptr at*;clear h z J hW B;go_enter func195,ntmps195;go_wp2_with fail;refine Zy HC ?_;rintro w1⟨h1,c⟩;have d:=O (Zt h1 c);clear h1 c;go_wp2;go_ret;exact⟨rfl,d.o⟩)
 have R:Hi (∀w',Jg w' (Qn G W w') p E→Qc G W w'→Yq w' (Qn F w w') b E∧Qc F w w'):=O (by
  intro w' h1 c;have Z:=H.o.made (x':=E) u.o Jg.obj c h1 (Zg _ _) (c.blk HB.o (fun h=>(u.o _ h).2 rfl));exact⟨Yq.obj.more Z.1 (fun k K=>K.elim .inl (fun K=>.inr ⟨Zp I.o.size K.1,K.2⟩)) (V.o.ext (I.o.none.aA Z.2)),I.o.none.aA Z.2⟩)
 unfold ptr at*;clear h z J U a0 HC k0;go_enter func134,ntmps134;go_wp2_with fail;rw[←B,←hW];refine Zy HK ?_;rintro w1⟨h1,c⟩;have d:=O (R.o _ h1 c);clear h1 c hW B;go_wp2;go_ret;exact⟨rfl,d.o⟩
theorem Qoe{w}{F:Fp}{b:Nat}{l:List Xu}(h:Yq w F b l)(hl:l.length<4611686018427387903)(id:Int)(n v:Nat):
  Cl 135 #[ptr b,.int .i64 id,.int .u64 n,.int .u64 v] w fun e w'=>e=.returned (.tuple #[])∧Yq w' (Qn F w w') b (Vf id n v l)∧Qc F w w':=by
 obtain⟨q,d⟩:=Zx (w.heap.size);obtain⟨W,hW⟩:=Zx (((w.alloc (.cells #[.int .i64 id] 3)).alloc (.cells #[.int .u64 n] 29)).alloc (.cells #[.int .u64 v] 29));have I:Hi (Qc Qb w W):=O (by rw[hW];exact(((Zg _ _).alloc _).alloc _).alloc _);have K0:Hi (Qh W q #[.int .i64 id] 3):=O (by rw[hW,d];exact((Qh.new _ _ _).alloc _).alloc _);have K1:Hi (Qh W (q+1) #[.int .u64 n] 29):=O (by rw[hW,d];exact(Qh.new' _ _ (by simp)).alloc _);have K2:Hi (Qh W (q+1+1) #[.int .u64 v] 29):=O (by rw[hW,d];exact Qh.new' _ _ (by simp));have V:=O h.bd;have h:=Yq.obj.aB h I.o (Jl.none F);have H:=O h;obtain⟨p,G,B,J,hG⟩:=h.ex;have U:=O (Qct J hl id n v);have z:=O hG;have a0:=Jf B;have HB:=O B;have k0:=Jf K0.o;have k1:=Jf K1.o;have k2:=Jf K2.o;generalize Vf id n v l=E at U⊢;have HC:Hi (Cl 198 #[ptr p,ptr q,ptr (q+1),ptr (q+1+1)] W fun e w'=>e=.returned (.bool true)∧Jg w' (Qn G W w') p E∧Qc G W w'):=O (by
  unfold ptr at*;clear h B J a0 hW d;go_enter func198,ntmps198;go_wp2_with fail;refine Zy U ?_;rintro w1⟨h1,c⟩;have u:=O (Zt h1 c);clear h1 c;go_wp2;go_ret;exact⟨rfl,u.o⟩)
 have HK:Hi (Cl 195 #[ptr b,.func (.func 198) #[] #[ptr q,ptr (q+1),ptr (q+1+1)],.bool false] W fun e w'=>e=.returned (.bool true)∧Jg w' (Qn G W w') p E∧Qc G W w'):=O (by
  unfold ptr at*;clear h B J hW d;go_enter func195,ntmps195;go_wp2_with fail;refine Zy HC ?_;rintro w1⟨h1,c⟩;have u:=O (Zt h1 c);clear h1 c;go_wp2;go_ret;exact⟨rfl,u.o⟩)
 have R:Hi (∀w',Jg w' (Qn G W w') p E→Qc G W w'→Yq w' (Qn F w w') b E∧Qc F w w'):=O (by
  intro w' h1 c;have Z:=H.o.made (x':=E) z.o Jg.obj c h1 (Zg _ _) (c.blk HB.o (fun h=>(z.o _ h).2 rfl));exact⟨Yq.obj.more Z.1 (fun k K=>K.elim .inl (fun K=>.inr ⟨Zp I.o.size K.1,K.2⟩)) (V.o.ext (I.o.none.aA Z.2)),I.o.none.aA Z.2⟩)
 unfold ptr at*;clear h B J U a0 HC k0 k1 k2;go_enter func135,ntmps135;go_wp2_with fail;rw[←d,←hW];refine Zy HK ?_;rintro w1⟨h1,c⟩;have u:=O (R.o _ h1 c);clear h1 c hW d;go_wp2;refine bodyPost_end (by simp[*,results,Tryz.results135,go_sem]) rfl ⟨rfl,u.o⟩
theorem Qka{w}{F:Fp}{b:Nat}{l:List Xu}(h:Yq w F b l)(k:Nat):
  Cl 42 #[ptr b,.int .u64 k] w fun e w'=>e=.returned (.tuple #[.int .i64 ((Jt k l).getD (0,0)).2,.bool (Jt k l).isSome])∧Qc Qb w w':=by
 obtain⟨p,G,hB,hA,hG⟩:=h.ex;have HA:=O (fun w'(hc:Qc Qb w w')=>Qge (Jg.obj.aB hA hc (Jl.none G)) k);obtain⟨c,V⟩:=Zx (((Jt k l).getD (0,0)).2);obtain⟨d,Z⟩:=Zx ((Jt k l).isSome);rw[←V,←Z]at HA⊢;have HB:=O hB;clear V Z h hB hA;have HC:Hi (∀W q,Qc Qb w W→Qh W q #[.int .u64 k] 29→Cl 91 #[ptr p,ptr q] W fun e w'=>e=.returned (.agg #[.int .i64 c,.bool d])∧Qc Qb W w'):=O (by
  intro W q hc I;obtain⟨s,hs⟩:=Zx (W.heap.size);obtain⟨u,hW1⟩:=Zx (W.alloc (.cells #[.int .i64 0,.bool false] 153));have B:Hi (Qc Qb W u):=O (by rw[hW1];exact(Zg _ _).alloc _);have R:Hi (Qh u s #[.int .i64 0,.bool false] 153):=O (by rw[hW1,hs];exact Qh.new _ _ _);have HL:=O (HA.o u (hc.aA B.o));have HS:=O hs;have q0:=Jf (show Qh (W.alloc (.cells #[.int .i64 0,.bool false] 153)) q _ _ from hW1▸B.o.blk I (fun h=>h));unfold ptr at*;clear hc I;go_enter func91,ntmps91;go_wp2_with fail;rw[←hW1,←hs];refine Zy HL ?_;intro w1 E;have J:=O (E.blk R.o (fun h=>h));obtain⟨s0,s1⟩:=Q4 J.o;have f1:=J.o.frozen;have z:Hi (Qc Qb W ((((w1.setCell ⟨s,0,none⟩ (.int .i64 c)).setCell ⟨s,1,none⟩ (.bool d)).setCell ⟨s,0,none⟩ (.int .i64 c)).setCell ⟨s,1,none⟩ (.bool d))):=O (by
   have c2:=B.o.aA E;have ac:=HS.o;exact(((c2.setCell (a:=⟨s,0,none⟩) _ (.inr (by show W.heap.size≤s;omega))).setCell (a:=⟨s,1,none⟩) _ (.inr (by show W.heap.size≤s;omega))).setCell (a:=⟨s,0,none⟩) _ (.inr (by show W.heap.size≤s;omega))).setCell (a:=⟨s,1,none⟩) _ (.inr (by show W.heap.size≤s;omega)))
  have U:Hi (Qh ((((w1.setCell ⟨s,0,none⟩ (.int .i64 c)).setCell ⟨s,1,none⟩ (.bool d)).setCell ⟨s,0,none⟩ (.int .i64 c)).setCell ⟨s,1,none⟩ (.bool d)) s #[.int .i64 c,.bool d] 153):=O ((((J.o.set' 0 _ rfl).set' 1 _ rfl).set' 0 _ rfl).set' 1 _ rfl);clear hW1 hs q0 E;go_wp2;generalize((((w1.setCell ⟨s,0,none⟩ (.int .i64 c)).setCell ⟨s,1,none⟩ (.bool d)).setCell ⟨s,0,none⟩ (.int .i64 c)).setCell ⟨s,1,none⟩ (.bool d))=w9 at U z⊢;obtain⟨e0,e1⟩:=Q4 U.o;refine bodyPost_ret (v:=.agg #[.int .i64 c,.bool d]) ?_ rfl ⟨rfl,?_⟩;·simp[*,results,Tryz.results91,go_sem]
  ·exact z.o)
 have HK:Hi (∀W q,Qc Qb w W→Qh W q #[.int .u64 k] 29→Cl 90 #[ptr b,.func (.func 91) #[] #[ptr q],.agg #[.int .i64 0,.bool false]] W fun e w'=>e=.returned (.agg #[.int .i64 c,.bool d])∧Qc Qb W w'):=O (by
  intro W q hc I;obtain⟨s,hs⟩:=Zx (W.heap.size);obtain⟨u,hW1⟩:=Zx ((W.alloc (.cells #[.int .i64 0,.bool false] 153)).alloc (.cells #[.int .i64 0,.bool false] 153));have B:Hi (Qc Qb W u):=O (by rw[hW1];exact((Zg _ _).alloc _).alloc _);have R:Hi (Qh u (s+1) #[.int .i64 0,.bool false] 153):=O (by rw[hW1,hs];exact Qh.new' _ _ (by simp));have HL:=O (HC.o u q (hc.aA B.o) (B.o.blk I (fun h=>h)));have HS:=O hs;have b0:=Jf (show Qh ((W.alloc (.cells #[.int .i64 0,.bool false] 153)).alloc (.cells #[.int .i64 0,.bool false] 153)) b _ _ from hW1▸(hc.aA B.o).blk HB.o (fun h=>h));unfold ptr at*;clear hc I;go_enter func90,ntmps90;go_wp2_with fail;rw[←hW1,←hs];refine Zy HL ?_;intro w1 E;have J:=O (E.blk R.o (fun h=>h));obtain⟨s0,s1⟩:=Q4 J.o;have f1:=J.o.frozen;have z:Hi (Qc Qb W ((w1.setCell ⟨s+1,0,none⟩ (.int .i64 c)).setCell ⟨s+1,1,none⟩ (.bool d))):=O (by
   have c2:=B.o.aA E;have ac:=HS.o;exact(c2.setCell (a:=⟨s+1,0,none⟩) _ (.inr (by show W.heap.size≤s+1;omega))).setCell (a:=⟨s+1,1,none⟩) _ (.inr (by show W.heap.size≤s+1;omega)))
  have U:Hi (Qh ((w1.setCell ⟨s+1,0,none⟩ (.int .i64 c)).setCell ⟨s+1,1,none⟩ (.bool d)) (s+1) #[.int .i64 c,.bool d] 153):=O ((J.o.set' 0 _ rfl).set' 1 _ rfl);clear hW1 hs b0 E;go_wp2;generalize((w1.setCell ⟨s+1,0,none⟩ (.int .i64 c)).setCell ⟨s+1,1,none⟩ (.bool d))=w9 at U z⊢;obtain⟨e0,e1⟩:=Q4 U.o;refine bodyPost_ret (v:=.agg #[.int .i64 c,.bool d]) ?_ rfl ⟨rfl,?_⟩;·simp[*,results,Tryz.results90,go_sem]
  ·exact z.o)
 obtain⟨q,I⟩:=Zx (w.heap.size);obtain⟨W,hW⟩:=Zx (w.alloc (.cells #[.int .u64 k] 29));have C0:Hi (Qc Qb w W):=O (by rw[hW];exact(Zg _ _).alloc _);have K0:Hi (Qh W q #[.int .u64 k] 29):=O (by rw[hW,I];exact Qh.new _ _ _);have ab:=O (HK.o W q C0.o K0.o);unfold ptr at*;clear HC HA HK;go_enter func42,ntmps42;go_wp2_with fail;rw[←I,←hW];clear I hW;refine Zy ab ?_;intro w1 E;have B:=O (C0.o.aA E);obtain⟨s,hs⟩:=Zx (w1.heap.size);obtain⟨u,hW1⟩:=Zx (w1.alloc (.cells #[.int .i64 c,.bool d] 153));have C2:Hi (Qc Qb w u):=O (by rw[hW1];exact B.o.alloc _);have R:Hi (Qh u s #[.int .i64 c,.bool d] 153):=O (by rw[hW1,hs];exact Qh.new _ _ _);have E1:=fun x=>Q4 (Qk (S:=Qb) R.o (fun h=>h) x);clear E;go_wp2_with fail;rw[←hs,←hW1];clear hs hW1;refine Qu [] [0,1,2,3] [4,5] [] (Qz (Qb) (u)) Zq (by kernel_rfl) (fun _ _ _ _ _ h=>h) (Qd (Zj (Zg _ _))) ?_;simp only[pick,Zf,Ze,Zd];refine Qg ?_;iterate 4 (refine Ql (fun K hK=>?_);go_simp;refine hK _ ?_;clear hK K)
 refine Qg ?_;intro _ ae;obtain⟨xo,aa⟩:=ae;subst aa;simp only[Jd];have c3:=O (Qv Qb u xo);generalize Qz Qb u xo=w3 at c3⊢;clear E1;go_wp2;refine⟨Qd c3.o,?_⟩;go_wp2;refine⟨Qd c3.o,?_⟩;go_wp2;go_ret2;exact⟨rfl,C2.o.aA c3.o⟩
end
structure Qx where
 id:Int
 par:Int
 leaf:Bool
 aJ:Bool
 total:Nat
 limit:Kg
 mem:Jc
 tree:List Xu
 aM:Nat
abbrev Qe:=List Qx
def Qe.new:Qe:=[⟨0,0,false,false,0,none,⟨[],0⟩,[],0⟩]
def Qe.at(p:Qe)(id:Int):Option Qx:=p.find? fun c=>decide (c.id=id)
def Qe.set(p:Qe)(c:Qx):Qe:=p.map fun x=>if x.id=c.id then c else x
def Qe.fam(p:Qe)(id:Int)(f:Jc→Jc):Qe:=match p.at id with
 |none=>p
 |some c=>match p.at c.par with
  |none=>p
  |some q=>p.set {q with mem:=f q.mem}
def Qe.aL(p:Qe)(id:Int):Bool:=match p.at id with
 |none=>false
 |some c=>decide (0<id)&&(((p.at c.par).map fun q=>q.mem.up id).getD false)
def Qe.v(p:Qe)(id:Int):Nat:=match p.at id with
 |none=>0
 |some c=>if id<1 then 0 else((p.at c.par).map fun q=>q.mem.v id).getD 0
def Qx.fit(c:Qx):Nat:=
 let own:=c.limit.fit c.total
 if c.leaf then own else match low c.tree with
  |none=>Qq
  |some s=>max own s.1
def Qe.note(p:Qe)(id:Int):Qe:=match p.at id with
 |none=>p
 |some c=>match p.at c.par with
  |none=>p
  |some q=>p.set {q with tree:=if p.aL id then Vf id (p.v id) c.fit q.tree else Xa id q.tree}
def Qe.path(p:Qe):Nat→Int→List Int
 |0,_=>[]
 |n+1,id=>if id<1 then[]else match p.at id with
  |none=>[]
  |some c=>id::p.path n c.par
def Qe.up1(now:Nat)(p:Qe)(id:Int):Qe:=match p.at id with
 |none=>p
 |some c=>if p.aL id||!c.aJ then p else(p.fam id fun f=>f.wake id).set {c with limit:=c.limit.wake now c.total}
def Qe.wake(p:Qe)(id:Int)(now:Nat):Qe:=match p.at id with
 |none=>p
 |some c=>if id<1||!c.leaf||!c.aJ then p else
  let l:=p.path 9 id
  l.foldl Qe.note (l.foldl (Qe.up1 now) p)
def Qe.gain1(g:Nat)(p:Qe)(id:Int):Qe:=match p.at id with
 |none=>p
 |some c=>(p.set {c with total:=c.total+min g (Xw-c.total)}).fam id fun f=>f.gain id g
def Qe.rest1(d:Bool)(p:Qe)(id:Int):Qe:=match p.at id with
 |none=>p
 |some c=>Qe.note (if d&&(c.leaf||decide (c.tree.length=0))then p.fam id fun f=>f.sleep id else p) id
def Qe.sent(p:Qe)(id:Int)(g:Nat)(more:Bool):Qe:=match p.at id with
 |none=>p
 |some c=>if id<1||!c.leaf then p else
  let l:=p.path 9 id;let p:=l.foldl (Qe.gain1 g) p
  l.foldl (Qe.rest1 (!more&&p.aL id)) p
def Qe.next(p:Qe)(now:Nat):Nat→Int→Option Int
 |0,_=>none
 |n+1,id=>match p.at id with
  |none=>none
  |some c=>if c.leaf then some id else match Xf now c.tree with
   |none=>none
   |some e=>p.next now n e.2.1
def Qe.tick(p:Qe):Nat:=match p.at 0 with
 |none=>Qq
 |some c=>match low c.tree with
  |none=>Qq
  |some s=>s.1
def Qe.fitAt(p:Qe)(id:Int):Nat:=if p.aL id then((p.at id).map (·.fit)).getD Qq else Qq
def inB(n a b:Int):Bool:=decide (a≤n∧n≤b)
def Yk.named(s:Yk):Bool:=inB s.id 1 65535&&inB s.par 0 65535&&decide (s.id≠s.par)
theorem Ac(n a b:Int)(w):Cl 215 #[.int .i64 n,.int .i64 a,.int .i64 b] w fun e w'=>e=.returned (.bool (inB n a b))∧w=w':=by
 unfold inB;by_cases h1:a≤n
 ·by_cases c:n≤b
  ·have d:decide (a≤n∧n≤b)=true:=by simp[h1,c]
   rw[d];go_enter func215,ntmps215;go_wp2;go_ret;exact⟨rfl,rfl⟩
  ·have d:decide (a≤n∧n≤b)=false:=by simp[c]
   rw[d];have c:b<n:=by omega
   go_enter func215,ntmps215;go_wp2;go_ret;exact⟨rfl,rfl⟩
 ·have d:decide (a≤n∧n≤b)=false:=by simp[h1]
  rw[d];have h1:n<a:=by omega
  go_enter func215,ntmps215;go_wp2;go_ret;exact⟨rfl,rfl⟩
theorem Qu5(a b:Int):(a != b)=decide (a≠b):=by by_cases h:a=b<;>simp[h]
theorem Qlf(s:Yk)(w):Cl 179 #[.agg (Z4 s.leaf s)] w fun e w'=>e=.returned (.bool s.named)∧Qc Qb w w':=by
 have c:=O (Ac s.id 1 65535);have d:=O (Ac s.par 0 65535);have hn:s.named=(inB s.id 1 65535&&inB s.par 0 65535&&(s.id != s.par)):=by rw[Qu5];rfl
 generalize inB s.id 1 65535=x at c hn;generalize inB s.par 0 65535=y at d hn;rw[hn];clear hn;cases x with
 |false=> go_enter func179,ntmps179;go_wp2_with fail;refine Zz (c.o _) ?_;rintro w1 rfl;go_wp2;go_ret;refine⟨rfl,?_⟩;exact Zh (Zg _ _) _
 |true=>
  cases y with
  |false=> go_enter func179,ntmps179;go_wp2_with fail;refine Zz (c.o _) ?_;rintro w1 rfl;go_wp2_with fail;refine Zz (d.o _) ?_;rintro w1 rfl;go_wp2;go_ret;refine⟨rfl,?_⟩;exact Zh (Zg _ _) _
  |true=> go_enter func179,ntmps179;go_wp2_with fail;refine Zz (c.o _) ?_;rintro w1 rfl;go_wp2_with fail;refine Zz (d.o _) ?_;rintro w1 rfl;go_wp2;go_ret;refine⟨by simp,?_⟩;exact Zh (Zg _ _) _
section
open Go.Maps Go.Shelf
attribute [local go_sem] Oper.semAt_some
theorem law64:Keyed prog 29:=int_keyed underlying29
theorem Qde{key:Value}{c:Lit}(h:keyOf prog 29 key=some c):∃x:Int,key=.int .u64 x∧c=.int .u64 x∧(Lit.int .u64 x).wf=true:=by have d:=underlying29;cases key<;>simp[keyOf,d,mapKey]at h;obtain⟨⟨rfl,k⟩,rfl⟩:=h;exact⟨_,rfl,rfl,k⟩
def Ag{H:Type}(d:DataW H)(left:Lit→Bool)(c:List Int):Prop:=c.Nodup∧∀x,x∈c↔(has d (.int .u64 x)=true∧left (.int .u64 x)=false)
theorem Ag.start{H:Type}(c:DataW H):Ag c (has c) []:=⟨List.nodup_nil,fun x=>by cases has c (.int .u64 x)<;>simp⟩
theorem Ag.step{H:Type}{k:DataW H}{left:Lit→Bool}{B:List Int}(h:Ag k left B){x:Int}{y:DataW H}(u:left (.int .u64 x)=true)(q:∀K,k.atKey (.int .u64 x) K=y):
  Ag k (fun z=>left z&&!z.sameKey (.int .u64 x)) (B++[x]):=by
 have c:has k (.int .u64 x)=true:=has_true_of_atKey q;have d:x∉B:=fun J=>by have:=((h.2 x).1 J).2;rw[u]at this;cases this
 refine⟨List.nodup_append.2 ⟨h.1,by simp,fun a ha b E=>by simp at E;subst E;exact fun e=>d (e▸ha)⟩,fun y=>?_⟩;by_cases I:y=x;·subst I;simp[c,Lit.sameKey]
 ·simp[h.2 y,I,Lit.sameKey]
theorem Qrx(F:Fence)(n:Nat)(k:F.fn 241)(c:F.round=none)(d:Option Nat)(w):
  CallsIn F n prog 241 #[.map d] w fun e w'=>e=.returned (.func (.func 255) #[] #[.pointer (some ⟨w.heap.size,0,none⟩)])∧w.alloc (.cells #[.map d] 304)=w':=by
 refine callsIn_of_wp func241 rfl k ?_ c;simp only[ntmps241,List.size_toArray,Zm,List.length_nil,Nat.reduceAdd,Nat.reduceSub,Array.replicate_succ,Array.replicate_zero,List.push_toArray,List.append_toArray,List.nil_append,List.cons_append];gi_wp2;go_ret;exact⟨rfl,rfl⟩
theorem Qo6{H:Type}(F:Fence)(n:Nat)(ae:F.fn 255)(ao:F.round=none)(hn:1≤n)(l Bm b nn:Nat)(u:DataW H){R:Value→Option (DataW H×List MemPlace)}(J Jx:List Int→World→Prop)
  (hY:∀k x W,J k W→k.length<Maps.size u→YieldAt F (n-1) prog l #[.int .u64 x] W fun e E=>
   (e=.returned (.bool true)∧J (k++[x]) E∧KeepsWalks W E)∨(e=.returned (.bool false)∧Jx (k++[x]) E))
  (W:World) (hJ:AbidesFrom W.heap.size J) (hm:W.cell? ⟨Bm,0,none⟩=some (.map (some b))) (Z:W.ownsMap prog 29 R b nn u) (h0:J [] W):
  CallsIn F n prog 255 #[.func (.yield l) #[] #[],.pointer (some ⟨Bm,0,none⟩)] W fun e E=>(∃v,e=.returned v)∧
   ((∃d:List Int,(d.Nodup∧∀x,x∈d↔has u (.int .u64 x)=true)∧J d E)∨(∃k:List Int,True∧Jx k E)):=by
 refine callsIn_of_wp func255 rfl ae ?_ ao;simp only[ntmps255,List.size_toArray,Zm,List.length_nil,Nat.reduceAdd,Nat.reduceSub,Array.replicate_succ,Array.replicate_zero,List.push_toArray,List.append_toArray,List.nil_append,List.cons_append];gi_wp2_with (first
  |(gi_at_range;refine wpListIn_range_own _ rfl _ 304 rfl 29 3 law64 underlying304 _ b nn _ rfl Z ?_;intro w0 aa aj ax)
  |gi_in)
 go_frame;gi_loopw [3] (fun _ wr=>∃(left:Lit→Bool)(z:Nat)(d:List Int),wr.ranges prog 29 R b W.heap.size nn u left z∧d.length+z≤Maps.size u∧Ag u left d∧J d wr)
  (fun _ wr=>wr.rangeLeft b W.heap.size)
 case atStart=> exact⟨_,_,[],aa,by simp,Ag.start u,hJ [] W w0 none h0 aj (fun r e=>by cases e)⟩
 case round=>
  obtain⟨left,z,d,B,av,hC,K⟩:=hrel;gi_wp2_with (first
   |(gi_at_next;refine wpListIn_next_ranges _ rfl _ rfl 29 law64 R (Value.int .u64) id (fun key kl hk=>by obtain⟨x,hx,_⟩:=Qde hk;exact⟨x,hx⟩) (fun v _ _=>⟨v,rfl⟩) b W.heap.size nn _ _ _ rfl B ?_ ?_)
   |gi_in)
  ·intro au am;gi_wp2;go_end0;exact⟨⟨_,rfl⟩,.inl ⟨d,⟨hC.1,fun x=>by rw[hC.2 x,am];simp⟩,K⟩⟩
  ·intro x c kl yd yp w2 I V an hv ai ab Xg ak ap aw;obtain⟨x',ex,rfl,_⟩:=Qde V;obtain rfl:x=x':=by simpa using ex
   have ag:J d w2:=hJ d wr w2 (some W.heap.size) K ak (fun r e=>by cases e;exact⟨Zv _,B.iter_walk⟩);obtain⟨fn,ar,ac,aq,hy,hR⟩:=hY d x w2 ag (by omega);clear ap;gi_wp2;refine hR.mono ?_;have af:=hC.step an ai;rintro e W3(⟨rfl,ah,al⟩|⟨rfl,U⟩)
   ·gi_wp2;have q:=ab.of_walks al;go_roundw;case rel=>exact⟨_,I,d++[x],q,by simp;omega,af,ah⟩
    case measure=>rw[q.left_eq,B.left_eq];exact Xg
   ·gi_wp2;refine bodyPost_ret (results_none rfl _ _ _) rfl ?_;exact⟨⟨_,rfl⟩,.inr ⟨d++[x],trivial,U⟩⟩
theorem Qhu{H:Type}(F:Fence)(n:Nat)(z:F.fn 255)(I:F.round=none)(hn:1≤n)(q b K:Nat)(u:DataW H){R:Value→Option (DataW H×List MemPlace)}(w:World)(B:q<w.heap.size)
  (hm:w.cell? ⟨q,0,none⟩=some (.map (some b)))(c:w.ownsMap prog 29 R b K u):
  SeqStopsA F n prog 255 #[.pointer (some ⟨q,0,none⟩)] (fun x:Int=>#[Value.int .u64 x]) (fun U=>U.Nodup∧∀x,x∈U↔has u (.int .u64 x)=true) (fun aa=>True) (Maps.size u) w:=fun l J Z W hW hJ _ hY h0=>by
 have k:W.ownsMap prog 29 R b K u:=by have E:=c.lt;obtain⟨es,d,hb,V,hs,hD⟩:=c;exact⟨es,d,(hW.block b E).trans hb,V,hs,hD⟩
 exact Qo6 F n z I hn l q b K u J Z hY W hJ ((hW.cell (p:=⟨q,0,none⟩) B).trans hm) k h0
theorem Qtq:(prog.info? 29).map (fun i=>(i.zero,i.size,i.bytes))=some (some (.int .u64 0),1,8):=by kernel_rfl
theorem Qn2{H:Type}(F:Fence)(n:Nat)(h3:F.fn 262)(h5:F.fn 255)(U:F.round=none)(hn:3≤n)(u b nn:Nat)(V:DataW H){R:Value→Option (DataW H×List MemPlace)}(w:World)(ap:Maps.size V<maxLen)(ae:Maps.size V*8+8≤140737488355328)
  (af:u<w.heap.size)(hm:w.cell? ⟨u,0,none⟩=some (.map (some b)))(z:w.ownsMap prog 29 R b nn V):
  CallsIn F n prog 262 #[.slice none 0 0,.func (.func 255) #[] #[.pointer (some ⟨u,0,none⟩)]] w fun e W'=>∃(v:Value)(ss:List Int),e=.returned v∧W'.ownsRow w.heap.size 29 1 v ss.length (ss.map (Value.int .u64))∧ss.Nodup∧(∀x,x∈ss↔has V (.int .u64 x)=true)∧Below w.heap.size w W':=by
 have h1:1≤n:=by omega
 obtain⟨i0,hi,al,am,an⟩:=info_parts Qtq;refine callsIn_of_wp_marks func262 rfl h3 ?_ U;simp only[ntmps262,List.size_toArray,Zm,List.length_nil,Nat.reduceAdd,Nat.reduceSub,Array.replicate_succ,Array.replicate_zero,List.push_toArray,List.append_toArray,List.nil_append,List.cons_append];gi_wp2;have bO:=Boxed.new w 64 (.slice none 0 0);have E:Below w.heap.size w (w.alloc (.cells #[.slice none 0 0] 64)):=(Below.refl _ w).alloc (Zv _) _;have J:(w.alloc (.cells #[.slice none 0 0] 64)).ownsMap prog 29 R b nn V:=by have ah:=z.lt;obtain⟨es,B,hb,Ft,hs,hD⟩:=z;exact⟨es,B,(E.block b ah).trans hb,Ft,hs,hD⟩
 refine wpIn_rangeFunc_ownG U h1 (gf:=255) (lb:=#[.pointer (some ⟨u,0,none⟩)]) rfl h5 (enters_of func255 (by kernel_rfl) rfl)
  (Qhu F (n-1) h5 U (by omega) u b nn V _ (by simp;omega) ((E.cell (p:=⟨u,0,none⟩) af).trans hm) J) walksK_t walksK_b (Below.refl _ _) (fun _=>rfl)
  (fun(d:List Int)W=>(∃v,Boxed W w.heap.size 64 v∧W.ownsRow w.heap.size 29 1 v d.length (d.map (Value.int .u64))∧True)∧Below w.heap.size w W)
  (fun _ _ _=>False)
  (OwnFrom.and (Own.from (holdsRow_own w.heap.size w.heap.size 64 29 1 (fun(d:List Int)=>d.length) (fun(d:List Int)=>d.map (Value.int .u64)) (fun(d:List Int)v=>True)) _) (ownFrom_below (Zv _) (by simp)))
  (fun _ _ _ _ _ hs _ _=>hs)
  ⟨⟨_,bO,World.ownsRow_nil _ _ _ _,trivial⟩,E⟩
  (fun x=>{tmps:=#[.slice none 0 0,.func (.func 255) #[] #[.pointer (some ⟨u,0,none⟩)],.pointer (some ⟨w.heap.size,0,none⟩),undef,.slice none 0 0,.int .u64 x,.func (.func 255) #[] #[.pointer (some ⟨u,0,none⟩)],.int .u64 x,undef,undef,undef,undef,undef],defers:=[]}) ?assign ?body ?done ?stop
 case assign=> intro l x W K hK;gi_wp2;exact hK
 case body=> rintro l d x W⟨⟨v,hv,k,_⟩,Z⟩Xg;have hc:=hv.cell;gi_wp2_with (gi_at_builtin;refine wpListIn_append_own _ rfl _ _ 64 rfl w.heap.size 29 i0 (.int .u64 0) 1 8 underlying64 hi al am an rfl (by decide) _ _ _ rfl (k.alloc _) ⟨W.heap.size,0,none⟩ 1 1 [.int .u64 x] rfl rfl (cell_one_new _ _ _) (by simp[Value.oneCell']) (by omega) (by omega) (by have:=Z.size;simp;omega) ?_;intro v' w1 q I _;obtain⟨g',ao,rfl⟩:=ownsRow_succ q;obtain⟨ac,ak,aj,aa,ag⟩:=hv.appended (by decide) k Z.size (Zv _) q I;have aq:=ac.cell;have ar:=ac.frozen);exact⟨aa.from _,aa.walks,⟨_,ak,by simpa using aj,trivial⟩,Z.trans ag⟩
 case done=> rintro D ys W hD⟨ai,ab⟩⟨⟨v,hv,k,_⟩,Z⟩hK;have hc:=hv.cell;gi_wp2;refine⟨by simp,.inl ⟨_,_,rfl,run_takeDeferred hK,?_⟩⟩;exact⟨_,results_tmp rfl _ _ _,v,ys,rfl,ownsRow_putObj k _ hK rfl,ai,ab,Z.trans (belowK_b (w:=w) (Zv _) W D _ _ (by simp at hD;omega) hK rfl rfl)⟩
 case stop=> rintro D c d W _ _ h _;exact h.elim
end
section
open Go.Maps Go.Shelf
theorem Qcm{H:Type}(B b Z:Nat)(u:DataW H){R:Value→Option (DataW H×List MemPlace)}(w:World)(d:Maps.size u<maxLen)(c:Maps.size u*8+8≤140737488355328)
  (z:B<w.heap.size)(V:w.cell? ⟨B,0,none⟩=some (.map (some b)))(k:w.ownsMap prog 29 R b Z u):
  Cl 253 #[.func (.func 255) #[] #[.pointer (some ⟨B,0,none⟩)]] w fun e I=>∃(v:Value)(q:List Int),e=.returned v∧I.ownsRow w.heap.size 29 1 v q.length (q.map (Value.int .u64))∧q.Nodup∧(∀x,x∈q↔has u (.int .u64 x)=true)∧Below w.heap.size w I:=by
 have C:=O (callsIn_wide.1 (Qn2 Fence.wide 3 trivial trivial rfl (by omega) B b Z u w d c z V k));clear d c z V k;go_enter func253,ntmps253;go_wp2_with fail;refine(C.o).mono ?_;rintro e w1⟨v,q,rfl,h1,J,K,U⟩;have E:=O (Zt h1 (Zt J (Zt K U)));clear h1 J K U;go_wp2;go_ret;exact⟨v,q,rfl,E.o.1,E.o.2.1,E.o.2.2.1,E.o.2.2.2⟩
theorem Qub(a:Option Addr)(cap:Nat)(k:Int)(c:k≤1)(h0:0≤k)(w):Cl 265 #[.slice a k.toNat cap,.int .i64 0,.int .i64 k] w fun e w'=>(∃r,e=.returned r)∧w=w':=by go_enter func265,ntmps265;go_wp2;refine wp_loop_rounds 1 ?_;rw[rounds_succ];go_wp2;go_end0;exact⟨⟨_,rfl⟩,rfl⟩
theorem Qnt(a:Option Addr)(cap:Nat)(k lim:Int)(c:k≤1)(h0:0≤k)(w):Cl 263 #[.slice a k.toNat cap,.int .i64 0,.int .i64 k,.int .i64 lim] w fun e w'=>(∃r,e=.returned r)∧w=w':=by go_enter func263,ntmps263;go_wp2;refine wp_loop_rounds 1 ?_;rw[rounds_succ];go_wp2_with (go_at_call 265;refine(Qub _ _ _ c h0 _).mono ?_;rintro e w1⟨⟨r,rfl⟩,rfl⟩);refine bodyPost_ret (results_none rfl _ _ _) rfl ?_;exact⟨⟨_,rfl⟩,rfl⟩
theorem Fr(x y:Int)(w):Cl 271 #[.int .u64 x,.int .u64 y] w fun e w'=>e=.returned (.bool (decide (x<y)))∧w=w':=by go_enter func271,ntmps271;go_wp2;go_ret;exact⟨rfl,rfl⟩
theorem Quc(g cap:Nat)(x y:Int)(w:World)(d:w.cell? ⟨g,0,none⟩=some (.int .u64 x))(k:w.cell? ⟨g,1,none⟩=some (.int .u64 y))(hf:∀i,w.frozen? ⟨g,i,none⟩=false)(Xg:x≤y):
  Cl 265 #[.slice (some ⟨g,0,none⟩) 2 cap,.int .i64 0,.int .i64 2] w fun e w'=>(∃r,e=.returned r)∧Qc Qb w w':=by
 have L:=O (Fr y x);have c:decide (y<x)=false:=by simp;omega
 rw[c]at L;clear Xg c;go_enter func265,ntmps265;go_wp2;refine wp_loop_rounds 2 ?_;rw[rounds_succ];go_wp2;refine wp_loop_rounds 1 ?_;rw[rounds_succ];go_wp2;go_quiet ((go_at_call 271;exact Qbe (L.o _)));go_wp2;rw[rounds_succ];go_wp2;go_end0;refine⟨⟨_,rfl⟩,?_⟩;exact Zi (Zg _ _) _
theorem Qsq(g cap:Nat)(x y:Int)(w:World)(d:w.cell? ⟨g,0,none⟩=some (.int .u64 x))(k:w.cell? ⟨g,1,none⟩=some (.int .u64 y))(hf:∀i,w.frozen? ⟨g,i,none⟩=false)(Xg:y<x):
  Cl 265 #[.slice (some ⟨g,0,none⟩) 2 cap,.int .i64 0,.int .i64 2] w fun e w'=>(∃r,e=.returned r)∧∃n m,(((w.drewN n).setCell ⟨g,1,none⟩ (.int .u64 x)).setCell ⟨g,0,none⟩ (.int .u64 y)).drewN m=w':=by
 have L:=O (Fr y x);have c:decide (y<x)=true:=by simp;omega
 rw[c]at L;clear Xg c;go_enter func265,ntmps265;go_wp2;refine wp_loop_rounds 2 ?_;rw[rounds_succ];go_wp2;refine wp_loop_rounds 2 ?_;rw[rounds_succ];go_wp2;go_quiet ((go_at_call 271;exact Qbe (L.o _)));go_wp2;go_region;all_goals go_wp2
 rw[rounds_succ];go_wp2;go_quiet (fail);go_wp2;rw[rounds_succ];go_wp2;go_end0;exact⟨⟨_,rfl⟩,_,_,rfl⟩
theorem Qqc(g cap:Nat)(x y:Int)(t:TypeId)(cs:List Value)(w)(c:Qh w g (.int .u64 x:: .int .u64 y::cs).toArray t):
  Cl 265 #[.slice (some ⟨g,0,none⟩) 2 cap,.int .i64 0,.int .i64 2] w fun e w'=>(∃r,e=.returned r)∧Qh w' g (.int .u64 (min x y):: .int .u64 (max x y)::cs).toArray t∧Qc (fun k=>k=g) w w':=by
 rcases Int.lt_or_le y x with h|h
 ·refine(Qsq g cap x y w (c.cell 0) (c.cell 1) c.frozen h).mono fun e w' d=>?_;obtain⟨h1,n,m,rfl⟩:=d;refine⟨h1,?_,?_⟩;·rw[Int.min_eq_right (Int.le_of_lt h),Int.max_eq_left (Int.le_of_lt h)];exact(((c.drewN n).set' 1 _ rfl).set' 0 _ rfl).drewN m
  ·refine Zi (Zk (Zk (Zi (Zg _ _) _) _ ?_) _ ?_) _<;>exact .inl rfl
 ·refine(Quc g cap x y w (c.cell 0) (c.cell 1) c.frozen h).mono fun e w' d=>?_;rw[Int.min_eq_left h,Int.max_eq_right h];exact⟨d.1,d.2.blk c (fun h=>h),d.2.mono fun k h=>h.elim⟩
theorem Qqd(g cap:Nat)(x y lim:Int)(t:TypeId)(cs:List Value)(w)(d:Qh w g (.int .u64 x:: .int .u64 y::cs).toArray t):
  Cl 263 #[.slice (some ⟨g,0,none⟩) 2 cap,.int .i64 0,.int .i64 2,.int .i64 lim] w fun e w'=>(∃r,e=.returned r)∧Qh w' g (.int .u64 (min x y):: .int .u64 (max x y)::cs).toArray t∧Qc (fun k=>k=g) w w':=by
 have I:=O (Qqc g cap x y t cs w d);clear d;go_enter func263,ntmps263;go_wp2;refine wp_loop_rounds 1 ?_;rw[rounds_succ];go_wp2_with (go_at_call 265;refine Zo I ?_;rintro e w1⟨⟨r,rfl⟩,h1,c⟩;have H:=O (Zt h1 c);clear h1 c);refine bodyPost_ret (results_none rfl _ _ _) rfl ?_;exact⟨⟨_,rfl⟩,H.o.1,H.o.2⟩
theorem Aq(k:Nat)(c:k≤2)(w):Cl 83 #[.int .u64 k] w fun e w'=>(∃r,e=.returned (.int .i64 r))∧w=w':=by
 obtain rfl|rfl|rfl:k=0∨k=1∨k=2:=by omega
 all_goals
  go_enter func83,ntmps83;go_wp2;go_ret;exact⟨⟨_,rfl⟩,rfl⟩
theorem Qbx(a:Option Addr)(cap k:Nat)(c:k≤1)(w):Cl 254 #[.slice a k cap] w fun e w'=>(∃r,e=.returned r)∧w=w':=by
 obtain rfl|rfl:k=0∨k=1:=by omega
 ·have P:=O (fun lim w=>Qnt a cap 0 lim (by omega) (by omega) w);go_enter func254,ntmps254;go_wp2_with fail;refine(Aq 0 (by omega) _).mono ?_;rintro e w0⟨⟨lim,rfl⟩,rfl⟩;go_wp2_with fail;refine(P.o _ _).mono ?_;rintro e w1⟨⟨r,rfl⟩,rfl⟩;go_wp2;go_end0;exact⟨⟨_,rfl⟩,rfl⟩
 ·have P:=O (fun lim w=>Qnt a cap 1 lim (by omega) (by omega) w);go_enter func254,ntmps254;go_wp2_with fail;refine(Aq 1 (by omega) _).mono ?_;rintro e w0⟨⟨lim,rfl⟩,rfl⟩;go_wp2_with fail;refine(P.o _ _).mono ?_;rintro e w1⟨⟨r,rfl⟩,rfl⟩;go_wp2;go_end0;exact⟨⟨_,rfl⟩,rfl⟩
theorem Qmj(g cap:Nat)(x y:Int)(t:TypeId)(cs:List Value)(w)(d:Qh w g (.int .u64 x:: .int .u64 y::cs).toArray t):
  Cl 254 #[.slice (some ⟨g,0,none⟩) 2 cap] w fun e w'=>(∃r,e=.returned r)∧Qh w' g (.int .u64 (min x y):: .int .u64 (max x y)::cs).toArray t∧Qc (fun k=>k=g) w w':=by
 have P:=O (fun lim=>Qqd g cap x y lim t cs w d);clear d;go_enter func254,ntmps254;go_wp2_with fail;refine(Aq 2 (by omega) _).mono ?_;rintro e w0⟨⟨lim,rfl⟩,rfl⟩;go_wp2_with fail;refine(P.o _).mono ?_;rintro e w1⟨⟨r,rfl⟩,h1,c⟩;have H:=O (Zt h1 c);clear h1 c;go_wp2;go_end0;exact⟨⟨_,rfl⟩,H.o.1,H.o.2⟩
end
end Go.Proofs.YtnnhmpehkbihnaaGreat
