/- A part of the proof: no condition. -/
import Derived.Test.YtnnhmpehkbihnaaGreatPk16
import Derived.Shelf.SlMaps.Clone
import Derived.Test.YtnnhmpehkbihnaaGreatPk21
import Derived.Test.YtnnhmpehkbihnaaGreatPk20
namespace Go.Proofs.YtnnhmpehkbihnaaGreat
set_option linter.unusedVariables false
set_option maxRecDepth 100000
set_option maxHeartbeats 4000000
open Go.RowKit
open Go.Proofs.Tryz
section
attribute [local go_sem] Qp
theorem Qjw{l:List Xu}(h:Ol l){e:Xu}(c:e∈l):Xa e.2.1 l=del e.1 e.2.1 l:=Qgj h c rfl
theorem Jg.o{w W w2 w3}{F:Fp}{b:Nat}{l:List Xu}{e:Xu}(h:Jg w F b l)(he:e∈l){T m:Nat}{L:List (Int×Value)}(hp:L.Perm (atV l))(hs:Oh (Qet b T m l L) w F)(z:Qc Qb w W)
  (hM:Xq w2 m (Vu e.2.1 L)) (V:Qc (fun j=>j=m) W w2) (B:Qc Qb w2 w3):
  Qh w3 b #[ptr T,.map (some m)] 198∧∃G,Vz w3 G T l∧∀w4,Qc G w3 w4→Vz w4 (Qn G w3 w4) T (del e.1 e.2.1 l)→Jg w4 (Qn F w w4) b (Xa e.2.1 l)∧Qc F w w4:=by
 have g:=Je (Yl b T m l L);have s1:=g.aB hs z (Jl.none F);obtain⟨G2,⟨m1,m2,m3⟩,u,ab,d⟩:=Xv 2 (Yl b T m l L) rfl s1;have I:Qc G2 W w2:=V.sub fun k U=>U▸m2;have s2:Oh (Qet b T m l (Vu e.2.1 L)) w2 (Qn F W w2):=d w2 (Qo8 m (Vu e.2.1 L)) I ⟨hM,.inl m2,m3.ext I⟩;have J:=Yl b T m l (Vu e.2.1 L);have s3:=(Je J).aB s2 B (Jl.none _);obtain⟨B0,K,_⟩:=J6 J 0 rfl s3;obtain⟨G,hG,q,aa,c⟩:=Xv 1 J rfl s3;refine⟨K.1,G,hG,fun w4 E hT=>?_⟩;have s4:Oh (Qet b T m (del e.1 e.2.1 l) (Vu e.2.1 L)) w4 (Qn (Qn F W w2) w3 w4):=c w4 (fun w G=>Vz w G T (del e.1 e.2.1 l)) E hT;have R:=Jg.obj.bd h;have Z:Qc F w w4:=((z.none.aA (I.sub u)).aA B.none).trans E fun k U=>(q k U).elim .inl (fun h=>.inr (Zp z.size h.1));have s5:=(Je (Yl b T m _ _)).more s4 (Qre z.size V.size B.size E.size) (R.ext Z);refine⟨⟨h.1.drop,T,m,_,Qq1 hp,?_⟩,Z⟩;rw[Qjw h.1 he];exact s5
theorem Jg.same{w w'}{F:Fp}{b:Nat}{l:List Xu}{id:Int}(h:Jg w F b l)(hn:On id l=none)(hc:Qc Qb w w'):Jg w' (Qn F w w') b (Xa id l)∧Qc F w w':=by rw[M7 (Pu hn)];exact⟨Jg.obj.more (Jg.obj.aB h hc (Jl.none F)) (fun k c=>.inl c) ((Jg.obj.bd h).ext (hc.none (F:=F))),hc.none⟩
theorem Tt{w}{F:Fp}{b:Nat}{l:List Xu}(h:Jg w F b l)(hl:l.length<4611686018427387904)(id:Int):
  Cl 197 #[ptr b,.int .i64 id] w fun e w'=>e=.returned (.bool (On id l).isSome)∧Jg w' (Qn F w w') b (Xa id l)∧Qc F w w':=by
 have V:=h;obtain⟨ho,T,m,L,Z,hs⟩:=h;obtain⟨G0,h0,_⟩:=J6 (Yl _ T m _ L) 0 rfl hs;obtain⟨G2,d,_⟩:=J6 (Yl _ T m _ L) 2 rfl hs;have h0:=h0.1;have d:=d.1;have u:=Qht (id:=id) Z ho;have z:=Dj (P:=prog) d underlying196 underlying3 (Qjr w) id;rw[u]at z;have HO:=O (Dp h0);obtain⟨a0,a1⟩:=Q4 h0;obtain⟨q,hq⟩:=Zx (w.heap.size);cases B:On id l with
 |none=> rw[B]at z;dsimp only[Option.map_none,Option.getD_none,Option.isSome_none]at z⊢;have c:=O (fun w'(hc:Qc Qb w w')=>V.same B hc);unfold ptr at*;clear h0 d u Z hs B V hl;go_enter func197,ntmps197;go_wp2_with fail;refine Zy HO ?_;rintro w1 rfl;go_wp2;go_ret;refine⟨rfl,c.o _ ?_⟩;(repeat' (first|(with_reducible first|exact Zg _ _|assumption|refine Zh ?_ _|refine Zi ?_ _|refine Zj ?_|refine Zk ?_ _ ?_|(apply Or.inl;rfl))|(apply Or.inl;simp;done)|(apply Or.inr;simp;first|done|omega)))
 |some e0=>
  obtain⟨k,R⟩:=Pv B;obtain⟨n,i,v⟩:=e0;dsimp only at R;subst R;rw[B]at z;dsimp only[Zn,Option.getD_some,Option.isSome_some]at z⊢;obtain⟨W,hW⟩:=Zx (w.alloc (.cells #[.int .u64 n,.int .i64 i] 204));have C0:Hi (Qc Qb w W):=O (by rw[hW];exact(Zg _ _).alloc _);have K0:Hi (Qh W q #[.int .u64 n,.int .i64 i] 204):=O (by rw[hW,hq];exact Qh.new _ _ _);have B0:=O (C0.o.blk h0 (fun h=>h));obtain⟨w2,J,I,c2⟩:=Di (P:=prog) (d.aB C0.o (fun h=>h)) underlying196 underlying3 3 0 i;have AO:=O (fun w3 E=>Jg.o V k Z hs C0.o I c2 (w3:=w3) E);have K2:=O (c2.blk K0.o (fun e=>by have:=d.lt;have:=hq;omega));have aa:=O (fun w3 G(h:Vz w3 G T l)=>Qly h hl n i ⟨_,k,rfl,rfl⟩);unfold ptr Yo at*;clear h0 d u Z hs B V k I c2 hl;go_enter func197,ntmps197;go_wp2_with fail;refine Zy HO ?_;rintro w1 rfl;go_upto_region 6 with fail;rw[←hq,←hW];clear hq hW a0 a1 z;obtain⟨a0,a1⟩:=Q4 B0.o;go_wp2_with fail;clear a0 a1 J;have E1:=fun x=>Q4 (Qk (S:=Qb) ((AO.o w2 (Zg _ _)).1) (fun h=>h) x);have E2:=fun x=>Q4 (Qk (S:=Qb) K2.o (fun h=>h) x);refine Qu [] [0,1,2,3,4] [] [5,6,7] (Qz (Qb) (w2)) Zq (by kernel_rfl) (fun _ _ _ _ _ h=>h) (Qd (by(repeat' (first|(with_reducible first|exact Zg _ _|assumption|refine Zh ?_ _|refine Zi ?_ _|refine Zj ?_|refine Zk ?_ _ ?_|(apply Or.inl;rfl))|(apply Or.inl;simp;done)|(apply Or.inr;simp;first|done|omega))))) ?_;simp only[pick,Zf,Ze,Zd];refine Qg ?_;iterate 5 (refine Ql (fun K hK=>?_);go_simp;refine hK _ ?_;clear hK K)
  refine Qg ?_;intro _ ab;obtain⟨xo,U⟩:=ab;subst U;simp only[Jd];have E:=Qv Qb w2 xo;generalize Qz Qb w2 xo=w3 at E⊢;obtain⟨_,G,hG,c⟩:=AO.o w3 E;have HF:=O c;have HD:=O (aa.o w3 G hG);clear E1 E2 c hG E;go_wp2_with fail;refine Zy HD ?_;rintro w4⟨hT,c4⟩;have FF:=O (HF.o w4 c4 hT);clear hT c4;go_wp2;go_ret;exact⟨rfl,FF.o⟩
theorem Jg.putIn{w W}{F:Fp}{b:Nat}{l:List Xu}(ho:Ol l){n v:Nat}{i:Int}(hn:∀e∈l,e.2.1≠i){T m:Nat}{L:List (Int×Value)}(hp:L.Perm (atV l))(hs:Oh (Qet b T m l L) w F)(z:Qc Qb w W):
  Qh W b #[ptr T,.map (some m)] 198∧∃G,Vz W G T l∧(∀k,G k→F k)∧(∀w2 w3,Qc G W w2→Vz w2 (Qn G W w2) T (Un (n,i,v) l)→Qc Qb w2 w3→
   Qh w3 b #[ptr T,.map (some m)] 198∧Xq w3 m L∧(∀w4,Qc (fun j=>j=m) w3 w4→Xq w4 m (Oi i (Yo n i) L)→Jg w4 (Qn F w w4) b (Un (n,i,v) l)∧Qc F w w4)):=by
 have B:=Yl b T m l L;have s1:=(Je B).aB hs z (Jl.none F);obtain⟨B0,R,_⟩:=J6 B 0 rfl s1;obtain⟨G,hG,c,aa,d⟩:=Xv 1 B rfl s1;refine⟨R.1,G,hG,c,fun w2 w3 E hT I=>?_⟩;have s2:Oh (Qet b T m (Un (n,i,v) l) L) w2 (Qn F W w2):=d w2 (fun w G=>Vz w G T (Un (n,i,v) l)) E hT;have K:=Yl b T m (Un (n,i,v) l) L;have s3:=(Je K).aB s2 I (Jl.none _);obtain⟨B1,U,_⟩:=J6 K 0 rfl s3;obtain⟨G2,⟨m1,m2,m3⟩,u,ab,q⟩:=Xv 2 K rfl s3;refine⟨U.1,m1,fun w4 c4 hM=>?_⟩;have J:Qc G2 w3 w4:=c4.sub fun k Z=>Z▸m2;have s4:Oh (Qet b T m (Un (n,i,v) l) (Oi i (Yo n i) L)) w4 (Qn (Qn F W w2) w3 w4):=q w4 (Qo8 m (Oi i (Yo n i) L)) J ⟨hM,.inl m2,m3.ext J⟩;have V:=(Je B).bd hs;have cF:Qc F w w4:=((z.none.aA (E.sub c)).aA I.none).trans J fun k Z=>(u k Z).elim .inl (fun h=>.inr (Zp z.size h.1));have s5:=(Je (Yl b T m _ _)).more s4 (Qre z.size E.size I.size c4.size) (V.ext cF);refine⟨⟨?_,T,m,_,Qta hp hn,s5⟩,cF⟩;have:=Ol.put (id:=i) (key:=n) (value:=v) ho;unfold Vf at this;rwa[M7 hn]at this
theorem Qn.ext{F:Fp}{w w1 w2}{b:Nat}{l:List Xu}(h:Jg w2 (Qn (Qn F w w1) w1 w2) b l)(h1:w.heap.size≤w1.heap.size)(c:w1.heap.size≤w2.heap.size)(d:Bd F w):Jg w2 (Qn F w w2) b l:=
 Jg.obj.more h (Qn.trans h1 c) (Qux d (Zp h1 c))
theorem Qct{w}{F:Fp}{b:Nat}{l:List Xu}(h:Jg w F b l)(hl:l.length<4611686018427387903)(id:Int)(n v:Nat):
  Cl 199 #[ptr b,.int .i64 id,.int .u64 n,.int .u64 v] w fun e w'=>e=.returned (.tuple #[])∧Jg w' (Qn F w w') b (Vf id n v l)∧Qc F w w':=by
 have HD:=O (Tt h (by omega) id);obtain⟨T0,m0,L0,ag,U,_⟩:=h.opn;have HO:=O (Dp U);have ac:=O (Jg.obj.bd h);have af:(Xa id l).length≤l.length:=List.length_filter_le _ _;have d:Hi (∀e∈Xa id l,e.2.1≠id):=O (fun e he hi=>by have:=(List.mem_filter.1 he).2;simp at this;exact this hi);have u:Hi (Un (n,id,v) (Xa id l)=Vf id n v l):=O rfl;have J:Hi ((Xa id l).length<4611686018427387904):=O (by omega);generalize Vf id n v l=lp at u⊢;generalize Xa id l=ld at HD d u J;unfold ptr at*;clear h ag U af hl;go_enter func199,ntmps199;go_wp2_with fail;refine Zy HO ?_;rintro w1 rfl;go_wp2_with fail;refine Zy HD ?_;rintro w1⟨⟨ho,T,m,L,hp,hs⟩,c1⟩;obtain⟨q,hq⟩:=Zx (w1.heap.size);obtain⟨W,hW⟩:=Zx (w1.alloc (.cells #[.int .u64 n,.int .i64 id] 204));have C0:Hi (Qc Qb w1 W):=O (by rw[hW];exact(Zg _ _).alloc _);have K0:Hi (Qh W q #[.int .u64 n,.int .i64 id] 204):=O (by rw[hW,hq];exact Qh.new _ _ _);have PU:=O (fun W(c0:Qc Qb w1 W)=>Jg.putIn (n:=n) (v:=v) ho d.o hp hs c0);have C1:=O c1;have BB:=O ((PU.o W C0.o).1);have ab:=O ((Je (Yl _ T m _ L)).bd hs);have KQ:=O (show∀k,(Qn F w w1) k→k≠q from fun k hk e=>by have:=ab.o k hk;omega);clear ho hp hs c1 HD HO;go_wp2_with fail;rw[←hq,←hW];clear hq hW;have E1:=fun x=>Q4 (Qk (S:=Qb) BB.o (fun h=>h) x);have E2:=fun x=>Q4 (Qk (S:=Qb) K0.o (fun h=>h) x);refine Qu [] [0,1,2,3,4,5] [] [6] (Qz (Qb) (W)) Zq (by kernel_rfl) (fun _ _ _ _ _ h=>h) (Qd (by(repeat' (first|(with_reducible first|exact Zg _ _|assumption|refine Zh ?_ _|refine Zi ?_ _|refine Zj ?_|refine Zk ?_ _ ?_|(apply Or.inl;rfl))|(apply Or.inl;simp;done)|(apply Or.inr;simp;first|done|omega))))) ?_;simp only[pick,Zf,Ze,Zd];refine Qg ?_;iterate 6 (refine Ql (fun K Z=>?_);go_simp;refine Z _ ?_;clear Z K)
 refine Qg ?_;intro _ B;obtain⟨xo,c⟩:=B;subst c;simp only[Jd];have c3:=O (Qv Qb W xo);generalize Qz Qb W xo=w3 at c3⊢;clear E1 E2;obtain⟨_,G,hG,V,NX⟩:=PU.o w3 (C0.o.aA c3.o);have HG:=O hG;have ae:=O V;have R:=O NX;have z:=O (Qp2 HG.o J.o n id v (fun e he h=>d.o e he h.2));have K3:=O (c3.o.blk K0.o (fun h=>h));unfold Yo ptr at z;clear hG V NX PU;go_wp2_with fail;refine Zy z ?_;rintro w5⟨hT,c5⟩;have N5:=O (fun w6(E:Qc Qb w5 w6)=>R.o w5 w6 c5 hT E);have K5:=O (c5.blk K3.o (fun h=>KQ.o _ (ae.o _ h) rfl));have S5:=O (Zp C0.o.size (Zp c3.o.size c5.size));have E1:=fun x=>Q4 (Qk (S:=Qb) ((N5.o w5 (Zg _ _)).1) (fun h=>h) x);have E2:=fun x=>Q4 (Qk (S:=Qb) K5.o (fun h=>h) x);clear hT c5 R HG z;unfold ptr at E1;go_wp2_with fail;refine Qu [] [0,1,2,3,4,5] [] [6] (Qz (Qb) (w5)) Zq (by kernel_rfl) (fun _ _ _ _ _ h=>h) (Qd (by(repeat' (first|(with_reducible first|exact Zg _ _|assumption|refine Zh ?_ _|refine Zi ?_ _|refine Zj ?_|refine Zk ?_ _ ?_|(apply Or.inl;rfl))|(apply Or.inl;simp;done)|(apply Or.inr;simp;first|done|omega))))) ?_;simp only[pick,Zf,Ze,Zd];refine Qg ?_;iterate 6 (refine Ql (fun K Z=>?_);go_simp;refine Z _ ?_;clear Z K)
 refine Qg ?_;intro _ B;obtain⟨xo,c⟩:=B;subst c;simp only[Jd];have E:=Qv Qb w5 xo;generalize Qz Qb w5 xo=w6 at E⊢;clear E1 E2;obtain⟨_,hM,I⟩:=N5.o w6 E;obtain⟨w7,ah,aa,c7⟩:=X6 (P:=prog) hM underlying196 underlying3 id (Yo n id);have FF:=O (I w7 c7 aa);have SS:=O (Zp S5.o (Zp E.size c7.size));unfold Yo at ah;clear I aa c7 hM E N5;go_wp2;refine bodyPost_end (by simp[*,results,Tryz.results199,go_sem]) rfl ⟨rfl,?_⟩;rw[←u.o];exact⟨Qn.ext FF.o.1 C1.o.size SS.o ac.o,C1.o.ext FF.o.2⟩
theorem Jg.made{w w':World}{b T m:Nat}{G:Fp}{l:List Xu}{L:List (Int×Value)}(R:Ol l)(U:L.Perm (atV l))(q:Qh w' b #[ptr T,.map (some m)] 198)(z:Vz w' G T l)(d:Xq w' m L)
  (h1:w.heap.size≤b) (B:w.heap.size≤m) (E:∀k,G k→w.heap.size≤k) (I:b≠m) (J:¬G b) (K:¬G m):Jg w' (Qn Qb w w') b l:=by
 have bd:Bd (Qn Qb w w') w':=fun k c=>c.elim (fun h=>h.elim) (fun h=>h.2);have u:=Vz.obj.bd z;refine⟨R,T,m,L,U,?_⟩;refine Q7 (G:=fun k=>k=b) (H:=fun k=>G k∨k=m) ⟨q,rfl,fun k e=>e▸q.lt⟩ (Q7 (G:=G) (H:=fun k=>k=m) z (Y6 ⟨d,rfl,fun k e=>e▸d.lt⟩ (fun k e=>e▸d.lt)) ?_ (fun k h=>.inl h) (fun k h=>.inr h) ?_) ?_ ?_ ?_ bd;·rintro k c rfl;exact K c
 ·intro k c;rcases c with c|rfl;·exact u k c
  ·exact d.lt
 ·rintro k rfl c;rcases c with c|c;·exact J c
  ·exact I c
 ·rintro k rfl;exact .inr ⟨h1,q.lt⟩
 ·intro k c;rcases c with c|rfl;·exact .inr ⟨E k c,u k c⟩
  ·exact .inr ⟨B,d.lt⟩
theorem Bw(w):Cl 119 #[] w fun e w'=>∃b,e=.returned (ptr b)∧Jg w' (Qn Qb w w') b []∧Qc Qb w w':=by
 have z:=O (Qp1 w);unfold ptr Dd Vv at*;go_enter func119,ntmps119;go_wp2_with fail;refine Zy z ?_;rintro w1⟨u,d⟩;have c:Hi (∀w',w'=(w1.alloc (.map #[] 0)).alloc (.cells #[.pointer (some ⟨w.heap.size,0,none⟩),.map (some w1.heap.size)] 198)→Jg w' (Qn Qb w w') (w1.heap.size+1) []∧Qc Qb w w'):=O (by
  rintro w' rfl;have q:Qc Qb w1 ((w1.alloc (.map #[] 0)).alloc (.cells #[.pointer (some ⟨w.heap.size,0,none⟩),.map (some w1.heap.size)] 198)):=((Zg _ _).alloc _).alloc _;have s1:=d.size;refine⟨Jg.made (T:=w.heap.size) (m:=w1.heap.size) (G:=Qn Qb w w1) (L:=[]) List.nodup_nil (List.Perm.refl _) (Qh.new' _ _ (by simp)) (Vz.obj.aB u q (Jl.none _)) ((Xq.new w1).aB ((Zg Qb _).alloc _) (fun h=>h)) (by omega) (by omega) (fun k B=>B.elim (fun h=>h.elim) (fun h=>h.1)) (by omega) ?_ ?_,d.aA q⟩
  ·rintro(h|h);·exact h
   ·omega
  ·rintro(h|h);·exact h
   ·omega)
 have E:=@run_makeMap prog;clear u d;go_wp2;go_ret;exact⟨_,rfl,c.o _ rfl⟩
abbrev Yq:World→Fp→Nat→List Xu→Prop:=O1 135 (fun _ p=>#[ptr p]) (fun l=>l) Jg
theorem Yq.obj:Hf Yq:=O1.obj Jg.obj
theorem Qod(w):Cl 66 #[] w fun e w'=>∃b,e=.returned (ptr b)∧Yq w' (Qn Qb w w') b []∧Qc Qb w w':=by
 have z:=O (Bw w);unfold ptr at*;go_enter func66,ntmps66;go_wp2_with fail;refine Zo z ?_;rintro e w1⟨p,rfl,u,d⟩;have c:Hi (∀w',w'=w1.alloc (.cells #[.pointer (some ⟨p,0,none⟩)] 135)→Yq w' (Qn Qb w w') w1.heap.size []∧Qc Qb w w'):=O (by
  rintro w' rfl;have q:Qc Qb w1 (w1.alloc (.cells #[.pointer (some ⟨p,0,none⟩)] 135)):=(Zg _ _).alloc _;have s1:=d.size;exact⟨O1.new (p:=p) (Jg.obj.aB u q (Jl.none _)) (fun k B=>B.elim (fun h=>h.elim) (fun h=>h.1)) Jg.obj (Qh.new _ _ _) (by omega) (fun h=>h.elim (fun h=>h.elim) (fun h=>by omega)),d.aA q⟩)
 clear u d;go_wp2;go_ret;exact⟨_,rfl,c.o _ rfl⟩
theorem Qj9{w}{F:Fp}{b:Nat}{l:List Xu}(h:Yq w F b l)(hl:l.length<4611686018427387904)(id:Int):
  Cl 134 #[ptr b,.int .i64 id] w fun e w'=>e=.returned (.bool (On id l).isSome)∧Yq w' (Qn F w w') b (Xa id l)∧Qc F w w':=by
 obtain⟨q,B⟩:=Zx (w.heap.size);obtain⟨W,hW⟩:=Zx (w.alloc (.cells #[.int .i64 id] 3));have I:Hi (Qc Qb w W):=O (by rw[hW];exact(Zg _ _).alloc _);have K0:Hi (Qh W q #[.int .i64 id] 3):=O (by rw[hW,B];exact Qh.new _ _ _);have V:=O h.bd;have h:=Yq.obj.aB h I.o (Jl.none F);have H:=O h;obtain⟨p,G,z,J,hG⟩:=h.ex;have U:=O (Tt J hl id);have u:=O hG;have a0:=Jf z;have HB:=O z;have k0:=Jf K0.o;generalize Xa id l=E at U⊢;have HC:Hi (Cl 196 #[ptr p,ptr q] W fun e w'=>e=.returned (.bool (On id l).isSome)∧Jg w' (Qn G W w') p E∧Qc G W w'):=O (by
  unfold ptr at*;clear h z J a0 hW B;go_enter func196,ntmps196;go_wp2_with fail;refine Zy U ?_;rintro w1⟨h1,c⟩;have d:=O (Zt h1 c);clear h1 c;go_wp2;go_ret;exact⟨rfl,d.o⟩)
 have HK:Hi (Cl 195 #[ptr b,.func (.func 196) #[] #[ptr q],.bool false] W fun e w'=>e=.returned (.bool (On id l).isSome)∧Jg w' (Qn G W w') p E∧Qc G W w'):=O (by
  unfold ptr at*;clear h z J hW B;go_enter func195,ntmps195;go_wp2_with fail;refine Zy HC ?_;rintro w1⟨h1,c⟩;have d:=O (Zt h1 c);clear h1 c;go_wp2;go_ret;exact⟨rfl,d.o⟩)
 have R:Hi (∀w',Jg w' (Qn G W w') p E→Qc G W w'→Yq w' (Qn F w w') b E∧Qc F w w'):=O (by
  intro w' h1 c;have Z:=H.o.made (x':=E) u.o Jg.obj c h1 (Zg _ _) (c.blk HB.o (fun h=>(u.o _ h).2 rfl));exact⟨Yq.obj.more Z.1 (fun k K=>K.elim .inl (fun K=>.inr ⟨Zp I.o.size K.1,K.2⟩)) (V.o.ext (I.o.none.aA Z.2)),I.o.none.aA Z.2⟩)
 unfold ptr at*;clear h z J U a0 HC k0;go_enter func134,ntmps134;go_wp2_with fail;rw[←B,←hW];refine Zy HK ?_;rintro w1⟨h1,c⟩;have d:=O (R.o _ h1 c);clear h1 c hW B;go_wp2;go_ret;exact⟨rfl,d.o⟩
theorem Qoe{w}{F:Fp}{b:Nat}{l:List Xu}(h:Yq w F b l)(hl:l.length<4611686018427387903)(id:Int)(n v:Nat):
  Cl 135 #[ptr b,.int .i64 id,.int .u64 n,.int .u64 v] w fun e w'=>e=.returned (.tuple #[])∧Yq w' (Qn F w w') b (Vf id n v l)∧Qc F w w':=by
 obtain⟨q,d⟩:=Zx (w.heap.size);obtain⟨W,hW⟩:=Zx (((w.alloc (.cells #[.int .i64 id] 3)).alloc (.cells #[.int .u64 n] 29)).alloc (.cells #[.int .u64 v] 29));have I:Hi (Qc Qb w W):=O (by rw[hW];exact(((Zg _ _).alloc _).alloc _).alloc _);have K0:Hi (Qh W q #[.int .i64 id] 3):=O (by rw[hW,d];exact((Qh.new _ _ _).alloc _).alloc _);have K1:Hi (Qh W (q+1) #[.int .u64 n] 29):=O (by rw[hW,d];exact(Qh.new' _ _ (by simp)).alloc _);have K2:Hi (Qh W (q+1+1) #[.int .u64 v] 29):=O (by rw[hW,d];exact Qh.new' _ _ (by simp));have V:=O h.bd;have h:=Yq.obj.aB h I.o (Jl.none F);have H:=O h;obtain⟨p,G,B,J,hG⟩:=h.ex;have U:=O (Qct J hl id n v);have z:=O hG;have a0:=Jf B;have HB:=O B;have k0:=Jf K0.o;have k1:=Jf K1.o;have k2:=Jf K2.o;generalize Vf id n v l=E at U⊢;have HC:Hi (Cl 198 #[ptr p,ptr q,ptr (q+1),ptr (q+1+1)] W fun e w'=>e=.returned (.bool true)∧Jg w' (Qn G W w') p E∧Qc G W w'):=O (by
  unfold ptr at*;clear h B J a0 hW d;go_enter func198,ntmps198;go_wp2_with fail;refine Zy U ?_;rintro w1⟨h1,c⟩;have u:=O (Zt h1 c);clear h1 c;go_wp2;go_ret;exact⟨rfl,u.o⟩)
 have HK:Hi (Cl 195 #[ptr b,.func (.func 198) #[] #[ptr q,ptr (q+1),ptr (q+1+1)],.bool false] W fun e w'=>e=.returned (.bool true)∧Jg w' (Qn G W w') p E∧Qc G W w'):=O (by
  unfold ptr at*;clear h B J hW d;go_enter func195,ntmps195;go_wp2_with fail;refine Zy HC ?_;rintro w1⟨h1,c⟩;have u:=O (Zt h1 c);clear h1 c;go_wp2;go_ret;exact⟨rfl,u.o⟩)
 have R:Hi (∀w',Jg w' (Qn G W w') p E→Qc G W w'→Yq w' (Qn F w w') b E∧Qc F w w'):=O (by
  intro w' h1 c;have Z:=H.o.made (x':=E) z.o Jg.obj c h1 (Zg _ _) (c.blk HB.o (fun h=>(z.o _ h).2 rfl));exact⟨Yq.obj.more Z.1 (fun k K=>K.elim .inl (fun K=>.inr ⟨Zp I.o.size K.1,K.2⟩)) (V.o.ext (I.o.none.aA Z.2)),I.o.none.aA Z.2⟩)
 unfold ptr at*;clear h B J U a0 HC k0 k1 k2;go_enter func135,ntmps135;go_wp2_with fail;rw[←d,←hW];refine Zy HK ?_;rintro w1⟨h1,c⟩;have u:=O (R.o _ h1 c);clear h1 c hW d;go_wp2;refine bodyPost_end (by simp[*,results,Tryz.results135,go_sem]) rfl ⟨rfl,u.o⟩
theorem Qka{w}{F:Fp}{b:Nat}{l:List Xu}(h:Yq w F b l)(k:Nat):
  Cl 42 #[ptr b,.int .u64 k] w fun e w'=>e=.returned (.tuple #[.int .i64 ((Jt k l).getD (0,0)).2,.bool (Jt k l).isSome])∧Qc Qb w w':=by
 obtain⟨p,G,hB,hA,hG⟩:=h.ex;have HA:=O (fun w'(hc:Qc Qb w w')=>Qge (Jg.obj.aB hA hc (Jl.none G)) k);obtain⟨c,V⟩:=Zx (((Jt k l).getD (0,0)).2);obtain⟨d,Z⟩:=Zx ((Jt k l).isSome);rw[←V,←Z]at HA⊢;have HB:=O hB;clear V Z h hB hA;have HC:Hi (∀W q,Qc Qb w W→Qh W q #[.int .u64 k] 29→Cl 91 #[ptr p,ptr q] W fun e w'=>e=.returned (.agg #[.int .i64 c,.bool d])∧Qc Qb W w'):=O (by
  intro W q hc I;obtain⟨s,hs⟩:=Zx (W.heap.size);obtain⟨u,hW1⟩:=Zx (W.alloc (.cells #[.int .i64 0,.bool false] 153));have B:Hi (Qc Qb W u):=O (by rw[hW1];exact(Zg _ _).alloc _);have R:Hi (Qh u s #[.int .i64 0,.bool false] 153):=O (by rw[hW1,hs];exact Qh.new _ _ _);have HL:=O (HA.o u (hc.aA B.o));have HS:=O hs;have q0:=Jf (show Qh (W.alloc (.cells #[.int .i64 0,.bool false] 153)) q _ _ from hW1▸B.o.blk I (fun h=>h));unfold ptr at*;clear hc I;go_enter func91,ntmps91;go_wp2_with fail;rw[←hW1,←hs];refine Zy HL ?_;intro w1 E;have J:=O (E.blk R.o (fun h=>h));obtain⟨s0,s1⟩:=Q4 J.o;have f1:=J.o.frozen;have z:Hi (Qc Qb W ((((w1.setCell ⟨s,0,none⟩ (.int .i64 c)).setCell ⟨s,1,none⟩ (.bool d)).setCell ⟨s,0,none⟩ (.int .i64 c)).setCell ⟨s,1,none⟩ (.bool d))):=O (by
   have c2:=B.o.aA E;have ac:=HS.o;exact(((c2.setCell (a:=⟨s,0,none⟩) _ (.inr (by show W.heap.size≤s;omega))).setCell (a:=⟨s,1,none⟩) _ (.inr (by show W.heap.size≤s;omega))).setCell (a:=⟨s,0,none⟩) _ (.inr (by show W.heap.size≤s;omega))).setCell (a:=⟨s,1,none⟩) _ (.inr (by show W.heap.size≤s;omega)))
  have U:Hi (Qh ((((w1.setCell ⟨s,0,none⟩ (.int .i64 c)).setCell ⟨s,1,none⟩ (.bool d)).setCell ⟨s,0,none⟩ (.int .i64 c)).setCell ⟨s,1,none⟩ (.bool d)) s #[.int .i64 c,.bool d] 153):=O ((((J.o.set' 0 _ rfl).set' 1 _ rfl).set' 0 _ rfl).set' 1 _ rfl);clear hW1 hs q0 E;go_wp2;generalize((((w1.setCell ⟨s,0,none⟩ (.int .i64 c)).setCell ⟨s,1,none⟩ (.bool d)).setCell ⟨s,0,none⟩ (.int .i64 c)).setCell ⟨s,1,none⟩ (.bool d))=w9 at U z⊢;obtain⟨e0,e1⟩:=Q4 U.o;refine bodyPost_ret (v:=.agg #[.int .i64 c,.bool d]) ?_ rfl ⟨rfl,?_⟩;·simp[*,results,Tryz.results91,go_sem]
  ·exact z.o)
 have HK:Hi (∀W q,Qc Qb w W→Qh W q #[.int .u64 k] 29→Cl 90 #[ptr b,.func (.func 91) #[] #[ptr q],.agg #[.int .i64 0,.bool false]] W fun e w'=>e=.returned (.agg #[.int .i64 c,.bool d])∧Qc Qb W w'):=O (by
  intro W q hc I;obtain⟨s,hs⟩:=Zx (W.heap.size);obtain⟨u,hW1⟩:=Zx ((W.alloc (.cells #[.int .i64 0,.bool false] 153)).alloc (.cells #[.int .i64 0,.bool false] 153));have B:Hi (Qc Qb W u):=O (by rw[hW1];exact((Zg _ _).alloc _).alloc _);have R:Hi (Qh u (s+1) #[.int .i64 0,.bool false] 153):=O (by rw[hW1,hs];exact Qh.new' _ _ (by simp));have HL:=O (HC.o u q (hc.aA B.o) (B.o.blk I (fun h=>h)));have HS:=O hs;have b0:=Jf (show Qh ((W.alloc (.cells #[.int .i64 0,.bool false] 153)).alloc (.cells #[.int .i64 0,.bool false] 153)) b _ _ from hW1▸(hc.aA B.o).blk HB.o (fun h=>h));unfold ptr at*;clear hc I;go_enter func90,ntmps90;go_wp2_with fail;rw[←hW1,←hs];refine Zy HL ?_;intro w1 E;have J:=O (E.blk R.o (fun h=>h));obtain⟨s0,s1⟩:=Q4 J.o;have f1:=J.o.frozen;have z:Hi (Qc Qb W ((w1.setCell ⟨s+1,0,none⟩ (.int .i64 c)).setCell ⟨s+1,1,none⟩ (.bool d))):=O (by
   have c2:=B.o.aA E;have ac:=HS.o;exact(c2.setCell (a:=⟨s+1,0,none⟩) _ (.inr (by show W.heap.size≤s+1;omega))).setCell (a:=⟨s+1,1,none⟩) _ (.inr (by show W.heap.size≤s+1;omega)))
  have U:Hi (Qh ((w1.setCell ⟨s+1,0,none⟩ (.int .i64 c)).setCell ⟨s+1,1,none⟩ (.bool d)) (s+1) #[.int .i64 c,.bool d] 153):=O ((J.o.set' 0 _ rfl).set' 1 _ rfl);clear hW1 hs b0 E;go_wp2;generalize((w1.setCell ⟨s+1,0,none⟩ (.int .i64 c)).setCell ⟨s+1,1,none⟩ (.bool d))=w9 at U z⊢;obtain⟨e0,e1⟩:=Q4 U.o;refine bodyPost_ret (v:=.agg #[.int .i64 c,.bool d]) ?_ rfl ⟨rfl,?_⟩;·simp[*,results,Tryz.results90,go_sem]
  ·exact z.o)
 obtain⟨q,I⟩:=Zx (w.heap.size);obtain⟨W,hW⟩:=Zx (w.alloc (.cells #[.int .u64 k] 29));have C0:Hi (Qc Qb w W):=O (by rw[hW];exact(Zg _ _).alloc _);have K0:Hi (Qh W q #[.int .u64 k] 29):=O (by rw[hW,I];exact Qh.new _ _ _);have ab:=O (HK.o W q C0.o K0.o);unfold ptr at*;clear HC HA HK;go_enter func42,ntmps42;go_wp2_with fail;rw[←I,←hW];clear I hW;refine Zy ab ?_;intro w1 E;have B:=O (C0.o.aA E);obtain⟨s,hs⟩:=Zx (w1.heap.size);obtain⟨u,hW1⟩:=Zx (w1.alloc (.cells #[.int .i64 c,.bool d] 153));have C2:Hi (Qc Qb w u):=O (by rw[hW1];exact B.o.alloc _);have R:Hi (Qh u s #[.int .i64 c,.bool d] 153):=O (by rw[hW1,hs];exact Qh.new _ _ _);have E1:=fun x=>Q4 (Qk (S:=Qb) R.o (fun h=>h) x);clear E;go_wp2_with fail;rw[←hs,←hW1];clear hs hW1;refine Qu [] [0,1,2,3] [4,5] [] (Qz (Qb) (u)) Zq (by kernel_rfl) (fun _ _ _ _ _ h=>h) (Qd (by(repeat' (first|(with_reducible first|exact Zg _ _|assumption|refine Zh ?_ _|refine Zi ?_ _|refine Zj ?_|refine Zk ?_ _ ?_|(apply Or.inl;rfl))|(apply Or.inl;simp;done)|(apply Or.inr;simp;first|done|omega))))) ?_;simp only[pick,Zf,Ze,Zd];refine Qg ?_;iterate 4 (refine Ql (fun K hK=>?_);go_simp;refine hK _ ?_;clear hK K)
 refine Qg ?_;intro _ ae;obtain⟨xo,aa⟩:=ae;subst aa;simp only[Jd];have c3:=O (Qv Qb u xo);generalize Qz Qb u xo=w3 at c3⊢;clear E1;go_wp2;refine⟨Qd c3.o,?_⟩;go_wp2;refine⟨Qd c3.o,?_⟩;go_wp2;go_ret2;exact⟨rfl,C2.o.aA c3.o⟩
def Kv(w:World)(F:Fp)(v:Value)(o:Option Ju):Prop:=match o with
 |none=>v=.pointer none∧Bd F w
 |some d=>∃b,v=ptr b∧Ye w F b d
theorem Kv.good(v:Value)(o:Option Ju):Uy (fun w F=>Kv w F v o):=by
 cases o with
 |none=>exact Qop _
 |some d=>exact Qtk (P:=fun b w F=>v=ptr b∧Ye w F b d) (fun b=>⟨fun h=>Ye.obj.bd h.2,fun h hc k=>⟨h.1,Ye.obj.aB h.2 hc k⟩,fun h hs c=>⟨h.1,Ye.obj.more h.2 hs c⟩⟩)
theorem Qn8(c:Jy)(hc:c.May)(w):Cl 129 #[cV c] w fun e w'=>∃b,e=.returned (ptr b)∧Ye w' (Qn Qb w w') b (Ju.new c)∧Qc Qb w w':=by
 obtain⟨W,hW⟩:=Zx (w.alloc (.cells #[.int .u64 c.f,.int .u64 c.l,.int .u64 c.r] 38));have I:Hi (Qc Qb w W):=O (by rw[hW];exact(Zg _ _).alloc _);have E:Hi (Qh W w.heap.size #[.int .u64 c.f,.int .u64 c.l,.int .u64 c.r] 38):=O (by rw[hW];exact Qh.new _ _ _);have z:=O (fun w=>K8 c w);rw[decide_eq_true hc]at z;have J:=O (fun w=>Cv c hc w);unfold cV ptr at*;clear hc;go_enter func129,ntmps129;go_wp2_with fail;rw[←hW];refine Zz (z.o _) ?_;intro w1 k;obtain⟨K,a1,R⟩:=L6 (k.blk E.o (fun h=>h));have u:=O (I.o.aA k);clear k hW;go_wp2_with fail;refine(J.o _).mono ?_;rintro e w2⟨p,rfl,B,q⟩;have d:Hi (∀w',w'=w2.alloc (.cells #[.pointer (some ⟨p,0,none⟩),.int .u64 0,.bool false,.int .u64 0,.int .u64 0] 150)→Ye w' (Qn Qb w w') w2.heap.size (Ju.new c)∧Qc Qb w w'):=O (by
  rintro w' rfl;have hc:Qc Qb w2 (w2.alloc (.cells #[.pointer (some ⟨p,0,none⟩),.int .u64 0,.bool false,.int .u64 0,.int .u64 0] 150)):=(Zg _ _).alloc _;have s1:=u.o.size;have s2:=q.size;exact⟨O1.new (p:=p) (G:=Qn Qb w1 w2) (runP.aB B hc (Jl.none _)) (fun j U=>U.elim (fun h=>h.elim) (fun h=>by omega)) runP (Qh.new _ _ _) (by omega) (fun h=>h.elim (fun h=>h) (fun h=>by omega)),(u.o.aA q).aA hc⟩)
 clear B q K a1 R;go_wp2;go_ret;exact⟨_,rfl,d.o _ rfl⟩
theorem Qgx(c:Jy)(hc:c.May)(w):Cl 71 #[cV c] w fun e w'=>∃v,e=.returned v∧Kv w' (Qn Qb w w') v (Xl c)∧Qc Qb w w':=by
 obtain⟨W,hW⟩:=Zx (w.alloc (.cells #[.int .u64 c.f,.int .u64 c.l,.int .u64 c.r] 38));have I:Hi (Qc Qb w W):=O (by rw[hW];exact(Zg _ _).alloc _);have R:Hi (Qh W w.heap.size #[.int .u64 c.f,.int .u64 c.l,.int .u64 c.r] 38):=O (by rw[hW];exact Qh.new _ _ _);have E:=O (fun w=>Kz c w);have U:=O (fun w=>Qn8 c hc w);unfold Xl;cases d:c.none with
 |true=> rw[d]at E;have u:=O (fun w'(hc:Qc Qb w w')=>show Kv w' (Qn Qb w w') (.pointer none) none∧Qc Qb w w' from⟨⟨rfl,fun k q=>q.elim (fun h=>h.elim) (fun h=>h.2)⟩,hc⟩);rw[if_pos rfl];unfold cV ptr at*;clear hc d;go_enter func71,ntmps71;go_wp2_with fail;rw[←hW];refine Zz (E.o _) ?_;intro w1 z;have B:=O (I.o.aA z);clear z hW;go_wp2;go_ret;exact⟨_,rfl,u.o _ B.o⟩
 |false=> rw[d]at E;rw[if_neg Bool.false_ne_true];unfold cV ptr at*;clear hc d;go_enter func71,ntmps71;go_wp2_with fail;rw[←hW];refine Zz (E.o _) ?_;intro w1 z;obtain⟨V,a1,Z⟩:=L6 (z.blk R.o (fun h=>h));have B:=O (I.o.aA z);clear z hW;go_wp2_with fail;refine(U.o _).mono ?_;rintro e w2⟨p,rfl,K,J⟩;have u:=O (show Kv w2 (Qn Qb w w2) (.pointer (some ⟨p,0,none⟩)) (some (Ju.new c))∧Qc Qb w w2 from⟨⟨p,rfl,Ye.obj.more K (fun k q=>q.elim .inl (fun q=>.inr ⟨Zp B.o.size q.1,q.2⟩)) (fun k q=>q.elim (fun h=>h.elim) (fun h=>h.2))⟩,B.o.aA J⟩);clear K J V a1 Z;go_wp2;go_ret;exact⟨_,rfl,u.o⟩
theorem Qkb{w}{F H:Fp}{b q:Nat}{l:List Xu}{d:Ju}(h:Yq w F b l)(k:Ye w H q d)(hl:l.length<4611686018427387903)(id:Int):
  Cl 75 #[ptr b,.int .i64 id,ptr q] w fun e w'=>e=.returned (.tuple #[])∧Yq w' (Qn F w w') b (Hj l id d)∧Qc F w w':=by
 have u:=O (Li k);have E:=O (Ay k);have I:=O (Cb k);unfold Ju.from_ Ju.dueAt at*;cases ha:d.aL with
 |false=> rw[ha]at u;have B:=O (Qj9 h (by omega) id);rw[show Hj l id d=Xa id l by unfold Hj;rw[ha];rfl];unfold ptr at*;clear h k ha hl;go_enter func75,ntmps75;go_wp2_with fail;refine Zy u ?_;rintro w1 rfl;go_wp2_with fail;refine Zy B ?_;rintro w1⟨h1,c⟩;have z:=O (Zt h1 c);clear h1 c;go_wp2;refine bodyPost_ret (v:=.tuple #[]) (by simp[results,Tryz.results75,go_sem]) rfl ⟨rfl,z.o⟩
 |true=> rw[ha,if_pos rfl]at E I;rw[ha]at u;have B:=O (Qoe h hl id d.elig d.due);rw[show Hj l id d=Vf id d.elig d.due l by unfold Hj;rw[ha];rfl];unfold ptr at*;clear h k ha hl;go_enter func75,ntmps75;go_wp2_with fail;refine Zy u ?_;rintro w1 rfl;go_wp2_with fail;refine Zy E ?_;rintro w1 rfl;go_wp2_with fail;refine Zy I ?_;rintro w1 rfl;go_wp2_with fail;refine Zy B ?_;rintro w1⟨h1,c⟩;have z:=O (Zt h1 c);clear h1 c;go_wp2;refine bodyPost_end (by simp[*,results,Tryz.results75,go_sem]) rfl ⟨rfl,z.o⟩
end
section
attribute [local go_sem] Qp
abbrev Oj:World→Fp→Nat→Xh→Prop:=O1 209 (fun _ p=>#[.iface 205 (.agg #[ptr p])]) (fun r=>r) Yv
theorem Oj.obj:Hf Oj:=O1.obj runP
def Ho(w:World)(F:Fp)(b:Nat)(l:Kg):Prop:=match l with
 |none=>Tv b #[.iface 240 (.agg #[])] 209 w F
 |some r=>Oj w F b r
theorem Ho.obj:Hf Ho where
 bd:=fun{w F b x}h=>by cases x with|none=>exact(Ks _ _ _).bd h|some r=>exact Oj.obj.bd h
 own:=fun{w F b x}h=>by cases x with|none=>exact h.2.1|some r=>exact Oj.obj.own h
 aB:=fun{w w' F S b x}h hc d=>by cases x with|none=>exact(Ks _ _ _).aB h hc d|some r=>exact Oj.obj.aB h hc d
 more:=fun{w F F' b x}h hs c=>by cases x with|none=>exact(Ks _ _ _).more h hs c|some r=>exact Oj.obj.more h hs c
theorem Qbg(v:Value)(w):(Instr.typeAssert (.iface 205 v) 207 205 true).run prog w=.ok (.tuple #[v,.bool true]) w:=by have h:=underlying205;simp[Instr.typeAssert,run_underlying h,go_sem,Result.andThen]
theorem Qck(v:Value)(w):(Instr.typeAssert (.iface 240 v) 207 205 true).run prog w=.ok (.tuple #[.agg #[.pointer none],.bool false]) w:=by
 have h:=underlying205;have c:(zeroValue 205).run prog w=.ok (.agg #[.pointer none]) w:=by go_simp
 simp[Instr.typeAssert,run_underlying h,go_sem,Result.andThen,c]
theorem Iu(v:Value)(w):(Instr.typeAssert (.iface 240 v) 207 240 true).run prog w=.ok (.tuple #[v,.bool true]) w:=by have h:=underlying240;simp[Instr.typeAssert,run_underlying h,go_sem,Result.andThen]
attribute [local go_sem] Qbg Qck Iu
theorem Rg{w}{b p:Nat}(h:Qh w b #[.iface 205 (.agg #[ptr p])] 209):Cl 156 #[ptr b] w fun e w'=>e=.returned (ptr p)∧Qc Qb w w':=by have c:=Jf h;unfold ptr at*;clear h;go_enter func156,ntmps156;go_wp2;go_ret;refine⟨rfl,?_⟩;(repeat' (first|(with_reducible first|exact Zg _ _|assumption|refine Zh ?_ _|refine Zi ?_ _|refine Zj ?_|refine Zk ?_ _ ?_|(apply Or.inl;rfl))|(apply Or.inl;simp;done)|(apply Or.inr;simp;first|done|omega)))
theorem Mc{w}{b:Nat}(h:Qh w b #[.iface 240 (.agg #[])] 209):Cl 156 #[ptr b] w fun e w'=>e=.returned (.pointer none)∧Qc Qb w w':=by have c:=Jf h;unfold ptr at*;clear h;go_enter func156,ntmps156;go_wp2;go_ret;refine⟨rfl,?_⟩;(repeat' (first|(with_reducible first|exact Zg _ _|assumption|refine Zh ?_ _|refine Zi ?_ _|refine Zj ?_|refine Zk ?_ _ ?_|(apply Or.inl;rfl))|(apply Or.inl;simp;done)|(apply Or.inr;simp;first|done|omega)))
theorem F8(w):Cl 156 #[.pointer none] w fun e w'=>e=.returned (.pointer none)∧Qc Qb w w':=by go_enter func156,ntmps156;go_wp2;go_ret;exact⟨rfl,Zg _ _⟩
end
section
attribute [local go_sem] Qp
theorem Qkw{w}{F:Fp}{b:Nat}{l:Kg}(h:Ho w F b l)(hn:∀r,l=some r→r.l.length<549755813888)(now total:Nat)(h1:now<18446744073709551616)(R:total<18446744073709551616):
  Cl 139 #[ptr b,.int .u64 now,.int .u64 total] w fun e w'=>e=.returned (.tuple #[])∧Ho w' (Qn F w w') b (l.wake now total)∧Qc F w w':=by
 have d:=O (fun w'(hc:Qc Qb w w')=>Ho.obj.same h hc);cases l with
 |none=> have E:=O (Mc h.1);rw[show Kg.wake none now total=none from rfl];unfold ptr at*;clear h hn h1 R;go_enter func139,ntmps139;go_wp2_with fail;refine Zy E ?_;intro w1 u;have c:=O u;clear u;go_wp2;refine bodyPost_end (by simp[*,results,Tryz.results139,go_sem]) rfl ⟨rfl,d.o _ c.o⟩
 |some r=>
  have h:Oj w F b r:=h;have H:=O h;obtain⟨p,G,U,V,hG⟩:=h.ex;have E:=O (Rg U);have I:=O U;have q:=O hG;have HR:=O (fun w'(hc:Qc Qb w w')=>Rv (runP.aB V hc (Jl.none G)) (hn r rfl) now total h1 R);rw[show Kg.wake (some r) now total=some (r.start now total)from rfl];have J:=O (runP.bd V);unfold ptr at*;clear h hn h1 R U V hG d;go_enter func139,ntmps139;go_wp2_with fail;refine Zy E ?_;intro w1 u;have c:=O u;clear u;go_wp2_with fail;refine Zz (HR.o _ c.o) ?_;rintro w2⟨z,Z⟩;have FF:Hi (Oj w2 (Qn F w w2) b (r.start now total)∧Qc F w w2):=O (by
   have K:Qc G w w2:=c.o.none.aA Z;exact H.o.made (x':=r.start now total) q.o runP K (runP.more z (fun k B=>B.elim .inl (fun B=>.inr ⟨Zp c.o.size B.1,B.2⟩)) (J.o.ext K)) (Zg _ _) (K.blk I.o (fun h=>(q.o _ h).2 rfl)))
  clear z Z;go_wp2;refine bodyPost_end (by simp[*,results,Tryz.results139,go_sem]) rfl ⟨rfl,FF.o⟩
theorem Qo1{w}{F:Fp}{b:Nat}{l:Kg}(h:Ho w F b l)(hn:∀r,l=some r→r.l.length<549755813888)(total:Nat)(q:total<18446744073709551616):
  Cl 168 #[ptr b,.int .u64 total] w fun e w'=>e=.returned (.int .u64 (l.fit total:Nat))∧Qc Qb w w':=by
 cases l with
 |none=> have k:=O (Mc h.1);rw[show Kg.fit none total=0 from rfl];unfold ptr at*;clear h hn q;go_enter func168,ntmps168;go_wp2_with fail;refine Zy k ?_;intro w1 c;have d:=O c;clear c;go_wp2;go_ret;exact⟨rfl,d.o⟩
 |some r=> have h:Oj w F b r:=h;obtain⟨p,G,B,E,J⟩:=h.ex;have k:=O (Rg B);have u:=O (fun w'(hc:Qc Qb w w')=>Ru (runP.aB E hc (Jl.none G)) (by have:=hn r rfl;omega) total q);rw[show Kg.fit (some r) total=r.reach total from rfl];generalize r.reach total=x at u⊢;unfold ptr at*;clear h hn q B E J;go_enter func168,ntmps168;go_wp2_with fail;refine Zy k ?_;intro w1 c;have d:=O c;clear c;go_wp2_with fail;refine Zz (u.o _ d.o) ?_;intro w2 z;have I:=O (d.o.aA z);clear z;go_wp2;go_ret;exact⟨rfl,I.o⟩
theorem Qdj(c:Jy)(w):Cl 126 #[cV c] w fun e w'=>∃b,e=.returned (ptr b)∧Ho w' (Qn Qb w w') b (Ha c)∧Qc Qb w w':=by
 obtain⟨W,hW⟩:=Zx (w.alloc (.cells #[.int .u64 c.f,.int .u64 c.l,.int .u64 c.r] 38));have V:Hi (Qc Qb w W):=O (by rw[hW];exact(Zg _ _).alloc _);have B0:Hi (Qh W w.heap.size #[.int .u64 c.f,.int .u64 c.l,.int .u64 c.r] 38):=O (by rw[hW];exact Qh.new _ _ _);have J:=O (fun w=>Kz c w);have U:=O (fun w=>K8 c w);have B:Hi (∀w1 w',Qc Qb w w1→w'=w1.alloc (.cells #[.iface 240 (.agg #[])] 209)→Ho w' (Qn Qb w w') w1.heap.size none∧Qc Qb w w'):=O (by
  rintro w1 w' d rfl;exact⟨⟨Qh.new _ _ _,.inr ⟨d.size,by simp⟩,fun k hk=>hk.elim (fun h=>h.elim) (fun h=>h.2)⟩,d.alloc _⟩)
 unfold Ha;cases z:c.none with
 |true=> rw[z]at J;rw[show(if(true||!decide c.May)=true then(none:Kg)else some (Xh.new c))=none from rfl];unfold cV ptr at*;clear z;go_enter func126,ntmps126;go_wp2_with fail;rw[←hW];refine Zz (J.o _) ?_;intro w1 d;have I:=O (V.o.aA d);clear d hW;go_wp2;go_ret;exact⟨_,rfl,B.o _ _ I.o rfl⟩
 |false=>
  rw[z]at J;cases u:decide c.May with
  |false=> rw[u]at U;rw[show(if(false||!false)=true then(none:Kg)else some (Xh.new c))=none from rfl];unfold cV ptr at*;clear z u;go_enter func126,ntmps126;go_wp2_with fail;rw[←hW];refine Zz (J.o _) ?_;intro w1 d;obtain⟨a0,a1,a2⟩:=L6 (d.blk B0.o (fun h=>h));have I:=O (V.o.aA d);clear d hW;go_wp2_with fail;refine Zz (U.o _) ?_;intro w2 E;have R:=O (I.o.aA E);clear E a0 a1 a2;go_wp2;go_ret;exact⟨_,rfl,B.o _ _ R.o rfl⟩
  |true=>
   have HR:=O (fun w=>Cv c (of_decide_eq_true u) w);rw[u]at U;rw[show(if(false||!true)=true then(none:Kg)else some (Xh.new c))=some (Xh.new c)from rfl];unfold cV ptr at*;clear z u;go_enter func126,ntmps126;go_wp2_with fail;rw[←hW];refine Zz (J.o _) ?_;intro w1 d;have B1:=O (d.blk B0.o (fun h=>h));obtain⟨a0,a1,a2⟩:=L6 B1.o;have I:=O (V.o.aA d);clear d hW;go_wp2_with fail;refine Zz (U.o _) ?_;intro w2 E;have R:=O (I.o.aA E);obtain⟨e0,e1,e2⟩:=L6 (E.blk B1.o (fun h=>h));clear E a0 a1 a2;go_wp2_with fail;refine(HR.o _).mono ?_;rintro e w3⟨q,rfl,K,c3⟩;have Z:Hi (∀w',w'=w3.alloc (.cells #[.iface 205 (.agg #[.pointer (some ⟨q,0,none⟩)])] 209)→Ho w' (Qn Qb w w') w3.heap.size (some (Xh.new c))∧Qc Qb w w'):=O (by
    rintro w' rfl;have hc:Qc Qb w3 (w3.alloc (.cells #[.iface 205 (.agg #[.pointer (some ⟨q,0,none⟩)])] 209)):=(Zg _ _).alloc _;have s1:=R.o.size;have s2:=c3.size;exact⟨O1.new (p:=q) (G:=Qn Qb w2 w3) (runP.aB K hc (Jl.none _)) (fun j hj=>hj.elim (fun h=>h.elim) (fun h=>by omega)) runP (Qh.new _ _ _) (by omega) (fun h=>h.elim (fun h=>h) (fun h=>by omega)),(R.o.aA c3).aA hc⟩)
   clear K c3 e0 e1 e2;go_wp2;go_ret;exact⟨_,rfl,Z.o _ rfl⟩
def Pp(m:Jh)(p:Nat):Array Value:=#[.int .u64 m.total,.int .u64 m.v,ptr p,.bool m.aL]
abbrev Vj:World→Fp→Nat→Jh→Prop:=O1 215 Pp Jh.run Yv
theorem Vj.obj:Hf Vj:=O1.obj runP
theorem Sm{X:Type}{key:X→Int}{Is:World→Fp→Nat→X→Prop}(c:Hf Is)(m:Nat)(ad:Int→Nat)(l:List X):Uy (fun w F=>Yn key Is w F m ad l) where
 bd:=fun h=>h.bd
 aB:=fun h hc k=>h.aB c hc k
 more:=fun h hs d=>h.more hs d
theorem Mz{X:Type}{key:X→Int}{l l':List X}(d:l.Perm l')(hn:(l.map key).Nodup)(i:Int):Hn key i l=Hn key i l':=by
 have u:(l'.map key).Nodup:=(d.map _).nodup_iff.1 hn;cases h:Hn key i l' with
 |some x=> obtain⟨h1,c⟩:=Y3 h;exact Ls hn (d.mem_iff.2 h1) c
 |none=>
  cases c:Hn key i l with
  |none=>rfl
  |some x=> obtain⟨k,q⟩:=Y3 c;exact absurd q (Lz h x (d.mem_iff.1 k))
def Qtj(b m:Nat)(mark:Nat)(ad:Int→Nat)(l:List Jh):List Ya:=
 [Tv b #[.map (some m),.int .u64 mark] 212,fun w G=>Yn Jh.id Vj w G m ad l]
theorem Yc(b m mark:Nat)(ad:Int→Nat)(l:List Jh):∀P∈Qtj b m mark ad l,Uy P:=by
 intro P c;simp only[Qtj,Zu,List.not_mem_nil,or_false]at c;rcases c with rfl|rfl;·exact Ks _ _ _
 ·exact Sm Vj.obj _ _ _
def J0(w:World)(F:Fp)(b:Nat)(f:Jc):Prop:=∃m ad l,l.Perm f.all∧Oh (Qtj b m f.mark ad l) w F
theorem J0.obj:Hf J0 where
 bd:=fun⟨m,ad,l,_,h⟩=>(Je (Yc _ m _ ad l)).bd h
 own:=fun⟨m,ad,l,_,h⟩=>by obtain⟨G,h1,d⟩:=J6 (Yc _ m _ ad l) 0 rfl h;exact d _ h1.2.1
 aB:=fun⟨m,ad,l,c,h⟩hc q=>⟨m,ad,l,c,(Je (Yc _ m _ ad l)).aB h hc q⟩
 more:=fun⟨m,ad,l,c,h⟩hs k=>⟨m,ad,l,c,(Je (Yc _ m _ ad l)).more h hs k⟩
theorem J0.opn{w}{F:Fp}{b:Nat}{f:Jc}(h:J0 w F b f):
  ∃m ad l,l.Perm f.all∧Qh w b #[.map (some m),.int .u64 f.mark] 212∧∃G,Yn Jh.id Vj w G m ad l:=by
 obtain⟨m,ad,l,d,h⟩:=h;obtain⟨k,h0,_⟩:=J6 (Yc _ m _ ad l) 0 rfl h;obtain⟨c,h1,_⟩:=J6 (Yc _ m _ ad l) 1 rfl h;exact⟨m,ad,l,d,h0.1,c,h1⟩
theorem Jc.at_eq{f:Jc}{l:List Jh}(c:l.Perm f.all)(hn:(l.map Jh.id).Nodup)(i:Int):f.at i=Hn Jh.id i l:=(Mz c hn i).symm
theorem Qjt(w):(zeroValue 213).run prog w=.ok (.pointer none) w:=by go_simp
def atP(ad:Int→Nat)(i:Int)(o:Option Jh):Value:=match o with
 |none=>.pointer none
 |some _=>ptr (ad i)
theorem Qb2{w}{G:Fp}{b m:Nat}{v:Value}{ad:Int→Nat}{l:List Jh}(q:Qh w b #[.map (some m),v] 212)(d:Yn Jh.id Vj w G m ad l)(i:Int):
  Cl 189 #[ptr b,.int .i64 i] w fun e w'=>e=.returned (atP ad i (Hn Jh.id i l))∧w=w':=by
 have c:=d.look i;have k:=Du (P:=prog) d.map underlying210 underlying3 (Qjt w) i;rw[c]at k;have u:((Hn Jh.id i l).map fun _=>ptr (ad i)).getD (.pointer none)=atP ad i (Hn Jh.id i l):=by cases Hn Jh.id i l<;>rfl
 rw[u]at k;generalize atP ad i (Hn Jh.id i l)=r at k⊢;obtain⟨z,a1⟩:=Q4 q;unfold ptr at*;clear q d c u;go_enter func189,ntmps189;go_wp2;go_ret;exact⟨rfl,rfl⟩
theorem famAt{w}{G:Fp}{m:Nat}{ad:Int→Nat}{l:List Jh}(d:Yn Jh.id Vj w G m ad l){i:Int}{x:Jh}(q:Hn Jh.id i l=some x):∃p H,Qh w (ad i) (Pp x p) 215∧Yv w H p x.run:=by obtain⟨h1,c⟩:=Y3 q;obtain⟨K,k,_⟩:=d.focus Vj.obj h1;obtain⟨p,H,a,b,_⟩:=k.ex;exact⟨p,H,c▸a,b⟩
theorem Quf{w}{F:Fp}{b:Nat}{f:Jc}(h:J0 w F b f)(i:Int):Cl 175 #[ptr b,.int .i64 i] w fun e w'=>e=.returned (.int .u64 (f.v i:Nat))∧w=w':=by
 obtain⟨m,ad,l,u,q,G,d⟩:=h.opn;have c:=O (Qb2 q d i);unfold Jc.v;rw[Jc.at_eq u d.nodup];cases k:Hn Jh.id i l with
 |none=> rw[k]at c;dsimp only[atP,Option.map_none,Option.getD_none]at c⊢;unfold ptr at*;clear h u q d k;go_enter func175,ntmps175;go_wp2_with fail;refine Zy c ?_;rintro w1 rfl;go_wp2;go_ret;exact⟨rfl,rfl⟩
 |some x=> obtain⟨p,H,z,_⟩:=famAt d k;obtain⟨B,a1,E,I⟩:=X9 z;rw[k]at c;dsimp only[atP,Zn,Option.getD_some]at c⊢;unfold ptr at*;clear h u q d k z;go_enter func175,ntmps175;go_wp2_with fail;refine Zy c ?_;rintro w1 rfl;go_wp2;go_ret;exact⟨rfl,rfl⟩
theorem Qjg{w}{F:Fp}{b:Nat}{f:Jc}(h:J0 w F b f)(i:Int):Cl 167 #[ptr b,.int .i64 i] w fun e w'=>e=.returned (.bool (f.up i))∧w=w':=by
 obtain⟨m,ad,l,u,q,G,d⟩:=h.opn;have c:=O (Qb2 q d i);unfold Jc.up;rw[Jc.at_eq u d.nodup];cases k:Hn Jh.id i l with
 |none=> rw[k]at c;dsimp only[atP,Option.map_none,Option.getD_none]at c⊢;unfold ptr at*;clear h u q d k;go_enter func167,ntmps167;go_wp2_with fail;refine Zy c ?_;rintro w1 rfl;go_wp2;go_ret;exact⟨rfl,rfl⟩
 |some x=> obtain⟨p,H,z,_⟩:=famAt d k;obtain⟨B,a1,E,I⟩:=X9 z;rw[k]at c;dsimp only[atP,Zn,Option.getD_some]at c⊢;unfold ptr at*;clear h u q d k z;go_enter func167,ntmps167;go_wp2_with fail;refine Zy c ?_;rintro w1 rfl;go_wp2;go_ret;exact⟨rfl,rfl⟩
theorem Qei(w):Cl 120 #[] w fun e w'=>∃b,e=.returned (ptr b)∧J0 w' (Qn Qb w w') b ⟨[],0⟩∧Qc Qb w w':=by
 have z:=@run_makeMap prog;have d:Hi (∀w',w'=(w.alloc (.map #[] 0)).alloc (.cells #[.map (some w.heap.size),.int .u64 0] 212)→J0 w' (Qn Qb w w') (w.heap.size+1) ⟨[],0⟩∧Qc Qb w w'):=O (by
  rintro w' rfl;have q:Qh ((w.alloc (.map #[] 0)).alloc (.cells #[.map (some w.heap.size),.int .u64 0] 212)) (w.heap.size+1) #[.map (some w.heap.size),.int .u64 0] 212:=Qh.new' _ _ (by simp);have c:Xq ((w.alloc (.map #[] 0)).alloc (.cells #[.map (some w.heap.size),.int .u64 0] 212)) w.heap.size []:=(Xq.new w).aB ((Zg Qb _).alloc _) (fun h=>h);refine⟨⟨w.heap.size,fun _=>0,[],List.Perm.refl _,?_⟩,((Zg _ _).alloc _).alloc _⟩;refine Q7 (G:=fun k=>k=w.heap.size+1) (H:=fun k=>k=w.heap.size) ⟨q,rfl,fun k e=>e▸q.lt⟩ (Y6 (Yn.new c (fun k e=>e▸c.lt) rfl) (fun k e=>e▸c.lt)) ?_ ?_ ?_ (fun k u=>u.elim (fun h=>h.elim) (fun h=>h.2));·rintro k rfl u;omega
  ·rintro k rfl;exact .inr ⟨by omega,q.lt⟩
  ·rintro k rfl;exact .inr ⟨by omega,c.lt⟩)
 unfold ptr;go_enter func120,ntmps120;go_wp2;go_ret;exact⟨_,rfl,d.o _ (by simp)⟩
def Pn(c:Qx)(vl:Value)(pf pt:Nat):Array Value:=#[.int .i64 c.par,.bool c.leaf,.bool c.aJ,.int .u64 c.total,vl,ptr pf,ptr pt,.int .i64 c.aM]
def Do(v:Value)(l:Kg):Ya:=fun w F=>(v=.pointer none∧l=none∧Bd F w)∨∃b,v=ptr b∧Ho w F b l
theorem Do.good(v:Value)(l:Kg):Uy (Do v l) where
 bd:=fun h=>by
  rcases h with⟨_,_,h⟩|⟨b,_,h⟩;·exact h
  ·exact Ho.obj.bd h
 aB:=fun h hc k=>by
  rcases h with⟨h1,c,h⟩|⟨b,h1,h⟩;·exact .inl ⟨h1,c,h.later hc⟩
  ·exact .inr ⟨b,h1,Ho.obj.aB h hc k⟩
 more:=fun h hs d=>by
  rcases h with⟨h1,c,h⟩|⟨b,h1,h⟩;·exact .inl ⟨h1,c,d⟩
  ·exact .inr ⟨b,h1,Ho.obj.more h hs d⟩
structure Dz where
 m:Nat
 ad:Int→Nat
 vl:Int→Value
 pf:Int→Nat
 pt:Int→Nat
def Sy(A:Dz)(c:Qx):List Ya:=
 [Tv (A.ad c.id) (Pn c (A.vl c.id) (A.pf c.id) (A.pt c.id)) 143,Do (A.vl c.id) c.limit,fun w F=>J0 w F (A.pf c.id) c.mem,fun w F=>Jg w F (A.pt c.id) c.tree]
theorem L9(A:Dz)(c:Qx):∀P∈Sy A c,Uy P:=by
 intro P d;simp only[Sy,Zu,List.not_mem_nil,or_false]at d;rcases d with rfl|rfl|rfl|rfl;·exact Ks _ _ _
 ·exact Do.good _ _
 ·exact J0.obj.good _ _
 ·exact Jg.obj.good _ _
def Um(A:Dz)(w:World)(F:Fp)(b:Nat)(c:Qx):Prop:=b=A.ad c.id∧Oh (Sy A c) w F
theorem Um.obj(A:Dz):Hf (Um A) where
 bd:=fun h=>(Je (L9 A _)).bd h.2
 own:=fun h=>by obtain⟨G,h1,c⟩:=J6 (L9 A _) 0 rfl h.2;rw[h.1];exact c _ h1.2.1
 aB:=fun h hc k=>⟨h.1,(Je (L9 A _)).aB h.2 hc k⟩
 more:=fun h hs d=>⟨h.1,(Je (L9 A _)).more h.2 hs d⟩
def Qsa(A:Dz)(b:Nat)(l:List Qx):List Ya:=[Tv b #[.map (some A.m)] 138,fun w G=>Yn Qx.id (Um A) w G A.m A.ad l]
theorem Vh(A:Dz)(b:Nat)(l:List Qx):∀P∈Qsa A b l,Uy P:=by
 intro P c;simp only[Qsa,Zu,List.not_mem_nil,or_false]at c;rcases c with rfl|rfl;·exact Ks _ _ _
 ·exact Sm (Um.obj A) _ _ _
def Qo(A:Dz)(w:World)(F:Fp)(b:Nat)(p:Qe):Prop:=∃l:List Qx,l.Perm p∧Oh (Qsa A b l) w F
theorem Qo.obj(A:Dz):Hf (Qo A) where
 bd:=fun⟨l,_,h⟩=>(Je (Vh A _ l)).bd h
 own:=fun⟨l,_,h⟩=>by obtain⟨G,h1,d⟩:=J6 (Vh A _ l) 0 rfl h;exact d _ h1.2.1
 aB:=fun⟨l,c,h⟩hc q=>⟨l,c,(Je (Vh A _ l)).aB h hc q⟩
 more:=fun⟨l,c,h⟩hs k=>⟨l,c,(Je (Vh A _ l)).more h hs k⟩
section
variable{A:Dz}{w:World}{F:Fp}{b:Nat}{p:Qe}
theorem Qo.coll(h:Qo A w F b p):∃l:List Qx,l.Perm p∧Qh w b #[.map (some A.m)] 138∧∃G,Yn Qx.id (Um A) w G A.m A.ad l:=by obtain⟨l,d,h⟩:=h;obtain⟨k,h0,_⟩:=J6 (Vh A b l) 0 rfl h;obtain⟨c,h1,_⟩:=J6 (Vh A b l) 1 rfl h;exact⟨l,d,h0.1,c,h1⟩
theorem Qo.nodup(h:Qo A w F b p):(p.map Qx.id).Nodup:=by obtain⟨l,d,_,G,c⟩:=h.coll;exact((d.map _).nodup_iff).1 c.nodup
theorem Qo.blk(h:Qo A w F b p):Qh w b #[.map (some A.m)] 138:=by obtain⟨l,d,c,_⟩:=h.coll;exact c
theorem Qe.at_eq{l:List Qx}(c:l.Perm p)(hn:(l.map Qx.id).Nodup)(i:Int):p.at i=Hn Qx.id i l:=(Mz c hn i).symm
theorem Qe.aE{i:Int}{c:Qx}(h:p.at i=some c):c∈p∧c.id=i:=Y3 (key:=Qx.id) h
theorem Qe.at_of{c:Qx}(hn:(p.map Qx.id).Nodup)(h:c∈p):p.at c.id=some c:=Ls hn h rfl
def pkV(A:Dz)(p:Qe)(i:Int):Value:=match p.at i with
 |none=>.pointer none
 |some _=>ptr (A.ad i)
theorem Qjs(w):(zeroValue 139).run prog w=.ok (.pointer none) w:=by go_simp
theorem Qo.look1(h:Qo A w F b p)(i:Int):(Instr.lookup 136 (.map (some A.m)) (.int .i64 i) false).run prog w=.ok (pkV A p i) w:=by
 obtain⟨l,k,u,G,c⟩:=h.coll;have d:=Du (P:=prog) c.map underlying136 underlying3 (Qjs w) i;rw[c.look i,←Qe.at_eq k c.nodup]at d;have q:((p.at i).map fun _=>ptr (A.ad i)).getD (.pointer none)=pkV A p i:=by unfold pkV;cases p.at i<;>rfl
 rw[q]at d;exact d
theorem Qo.part(h:Qo A w F b p){c:Qx}(hc:c∈p)(i:Nat){R:Ya}(hi:(Sy A c)[i]? =some R):
  ∃G:Fp,R w G∧(∀k,G k→F k)∧∀w' c' Q,c'.id=c.id→Sy A c'=(Sy A c).set i Q→Q w' (Qn G w w')→Qc G w w'→Qo A w' (Qn F w w') b (p.set c')∧Qc F w w':=by
 obtain⟨l,U,h⟩:=h;obtain⟨H,h1,J,_,h3⟩:=Xv 1 (Vh A b l) rfl h;have u:c∈l:=U.mem_iff.2 hc;obtain⟨K,k1,k2,k3⟩:=h1.focus (Um.obj A) u;obtain⟨G,g1,I,_,g3⟩:=Xv i (L9 A c) hi k1.2;refine⟨G,g1,fun k z=>J k (k2 k (I k z)).1,fun w' c' Q q hs hq d=>?_⟩;have e1:Um A w' (Qn K w w') (A.ad c.id) c':=⟨by rw[q],by rw[hs];exact g3 w' Q d hq⟩;have E:Qc K w w':=d.sub I;have V:=k3 w' c' q e1 E;have B:Qc H w w':=E.sub fun k z=>(k2 k z).1;have Z:=h3 w' (fun w G=>Yn Qx.id (Um A) w G A.m A.ad (Lg Qx.id c' l)) B V;exact⟨⟨Lg Qx.id c' l,U.map _,Z⟩,B.sub J⟩
theorem Qo.cells(h:Qo A w F b p){c:Qx}(hc:c∈p):Qh w (A.ad c.id) (Pn c (A.vl c.id) (A.pf c.id) (A.pt c.id)) 143:=by obtain⟨G,h1,_⟩:=h.part hc 0 rfl;exact h1.1
theorem Qo.setC(h:Qo A w F b p){c c':Qx}(hc:c∈p)(d:c'.id=c.id)(hl:c'.limit=c.limit)(I:c'.mem=c.mem)(ht:c'.tree=c.tree){w'}
  (q:Qc (fun k=>k=A.ad c.id) w w')(B:Qh w' (A.ad c.id) (Pn c' (A.vl c.id) (A.pf c.id) (A.pt c.id)) 143):Qo A w' (Qn F w w') b (p.set c')∧Qc F w w':=by
 obtain⟨G,h1,J,z⟩:=h.part hc 0 rfl;have u:Qc G w w':=q.sub fun k E=>E▸h1.2.1;refine z w' c' (Tv (A.ad c'.id) (Pn c' (A.vl c'.id) (A.pf c'.id) (A.pt c'.id)) 143) d ?_ ?_ u;·unfold Sy;rw[hl,I,ht,d];rfl
 ·rw[d];exact⟨B,.inl h1.2.1,h1.2.2.ext u⟩
theorem Qo.famOf(h:Qo A w F b p){c:Qx}(hc:c∈p):
  ∃G:Fp,J0 w G (A.pf c.id) c.mem∧(∀k,G k→F k)∧∀w' f,J0 w' (Qn G w w') (A.pf c.id) f→Qc G w w'→Qo A w' (Qn F w w') b (p.set {c with mem:=f})∧Qc F w w':=by
 obtain⟨G,h1,q,u⟩:=h.part hc 2 rfl;exact⟨G,h1,q,fun w' f hf d=>u w' {c with mem:=f} _ rfl rfl hf d⟩
theorem Qo.treeOf(h:Qo A w F b p){c:Qx}(hc:c∈p):
  ∃G:Fp,Jg w G (A.pt c.id) c.tree∧(∀k,G k→F k)∧∀w' t,Jg w' (Qn G w w') (A.pt c.id) t→Qc G w w'→Qo A w' (Qn F w w') b (p.set {c with tree:=t})∧Qc F w w':=by
 obtain⟨G,h1,q,u⟩:=h.part hc 3 rfl;exact⟨G,h1,q,fun w' t hf d=>u w' {c with tree:=t} _ rfl rfl hf d⟩
theorem Qo.limOf(h:Qo A w F b p){c:Qx}(hc:c∈p):
  ∃G:Fp,Do (A.vl c.id) c.limit w G∧(∀k,G k→F k)∧∀w' t,Do (A.vl c.id) t w' (Qn G w w')→Qc G w w'→Qo A w' (Qn F w w') b (p.set {c with limit:=t})∧Qc F w w':=by
 obtain⟨G,h1,q,u⟩:=h.part hc 1 rfl;exact⟨G,h1,q,fun w' t hf d=>u w' {c with limit:=t} _ rfl rfl hf d⟩
end
end
end Go.Proofs.YtnnhmpehkbihnaaGreat
