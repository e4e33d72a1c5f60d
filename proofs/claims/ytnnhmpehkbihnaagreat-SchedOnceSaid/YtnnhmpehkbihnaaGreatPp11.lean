/- A part of the proof: no condition. -/
import Derived.Test.YtnnhmpehkbihnaaGreatPp10
import Derived.Shelf.SlMaps.Clone
namespace Go.Proofs.YtnnhmpehkbihnaaGreat
set_option linter.unusedVariables false
set_option maxRecDepth 100000
set_option maxHeartbeats 4000000
open Go.RowKit
open Go.Proofs.Tryz
abbrev J7:=World→Fp→Prop
structure Hi(P:J7):Prop where
 bd:∀{w F},P w F→Bd F w
 keep:∀{w w' F S},P w F→Qc S w w'→Je F S→P w' F
 more:∀{w F F'},P w F→(∀k,F k→F' k)→Bd F' w→P w F'
def sep(P Q:J7):J7:=fun w F=>Bd F w∧∃G H,P w G∧Q w H∧Je G H∧(∀k,G k→F k)∧∀k,H k→F k
def Hu:List J7→J7
 |[]=>fun w F=>Bd F w
 |P::L=>sep P (Hu L)
def Qa8(b:Nat)(cs:Array Value)(t:TypeId):J7:=fun w F=>Qh w b cs t∧F b∧Bd F w
def Qtl(m:Nat)(L:List (Int×Value)):J7:=fun w F=>Xs w m L∧F m∧Bd F w
def Qzw(p:Prop):J7:=fun w F=>p∧Bd F w
theorem Yu(b:Nat)(cs:Array Value)(t:TypeId):Hi (Qa8 b cs t) where
 bd:=fun h=>h.2.2
 keep:=fun h hc d=>⟨hc.blk h.1 (d b h.2.1),h.2.1,h.2.2.later hc⟩
 more:=fun h hs c=>⟨h.1,hs b h.2.1,c⟩
theorem Qm3(m:Nat)(L:List (Int×Value)):Hi (Qtl m L) where
 bd:=fun h=>h.2.2
 keep:=fun h hc d=>⟨h.1.keep hc (d m h.2.1),h.2.1,h.2.2.later hc⟩
 more:=fun h hs c=>⟨h.1,hs m h.2.1,c⟩
theorem Qtm(p:Prop):Hi (Qzw p) where
 bd:=fun h=>h.2
 keep:=fun h hc _=>⟨h.1,h.2.later hc⟩
 more:=fun h _ c=>⟨h.1,c⟩
theorem Qwa{P Q:J7}(K:Hi P)(J:Hi Q):Hi (sep P Q) where
 bd:=fun h=>h.1
 keep:=fun⟨E,G,H,h1,u,z,d,c⟩hc I=>⟨E.later hc,G,H,K.keep h1 hc (I.subL d),J.keep u hc (I.subL c),z,d,c⟩
 more:=fun⟨E,G,H,h1,u,z,d,c⟩hs q=>⟨q,G,H,h1,u,z,fun k B=>hs k (d k B),fun k B=>hs k (c k B)⟩
theorem Qwb:Hi (Hu []) where
 bd:=fun h=>h
 keep:=fun h hc _=>Bd.later h hc
 more:=fun _ _ c=>c
theorem Zm:∀{L:List J7},(∀P∈L,Hi P)→Hi (Hu L)
 |[],_=>Qwb
 |P::L,h=>Qwa (h P (by simp)) (Zm fun Q c=>h Q (by simp[c]))
theorem Qx3{X:Type}{P:X→J7}(h:∀x,Hi (P x)):Hi (fun w F=>∃x,P x w F) where
 bd:=fun⟨x,c⟩=>(h x).bd c
 keep:=fun⟨x,c⟩hc k=>⟨x,(h x).keep c hc k⟩
 more:=fun⟨x,c⟩hs d=>⟨x,(h x).more c hs d⟩
theorem Ky.good{X:Type}{Is:World→Fp→Nat→X→Prop}(c:Ky Is)(b:Nat)(x:X):Hi (fun w F=>Is w F b x) where
 bd:=fun h=>c.bd h
 keep:=fun h hc k=>c.keep h hc k
 more:=fun h hs d=>c.more h hs d
section
variable{w w' w1 w2:World}{F:Fp}
def Qm4(P:J7)(W:J7→J7)(w:World)(F:Fp):Prop:=
 ∃G:Fp,P w G∧(∀k,G k→F k)∧Bd F w∧∀w' Q,Qc G w w'→Q w' (Qn G w w')→W Q w' (Qn F w w')
theorem Qwc{P Q:J7}(E:Hi Q)(h:sep P Q w F):Qm4 P (fun q=>sep q Q) w F:=by obtain⟨c,G,H,h1,I,z,B,u⟩:=h;refine⟨G,h1,B,c,fun w' q hc J=>⟨c.ext hc,Qn G w w',H,J,E.keep I hc z.symm,Je.extL z (c.sub u),fun k d=>Qn.mono B k d,fun k d=>.inl (u k d)⟩⟩
theorem Qtn{P Q R:J7}{W:J7→J7}(I:Hi P)(h:sep P Q w F)(J:∀{H:Fp},Q w H→Qm4 R W w H):Qm4 R (fun q=>sep P (W q)) w F:=by obtain⟨d,G,H,h1,U,z,B,u⟩:=h;obtain⟨K,k1,k2,Z,E⟩:=J U;refine⟨K,k1,fun k c=>u k (k2 k c),d,fun w' q hc V=>⟨d.ext hc,G,Qn H w w',I.keep h1 hc (z.subR k2),E w' q hc V,Je.extR z (d.sub B),fun k c=>.inl (B k c),fun k c=>Qn.mono u k c⟩⟩
theorem Ju:∀(i:Nat){L:List J7}{P:J7}{F:Fp},(∀Q∈L,Hi Q)→L[i]? =some P→Hu L w F→Qm4 P (fun c=>Hu (L.set i c)) w F
 |0,Q::L,P,F,hg,hi,h=>by
  obtain rfl:Q=P:=by simpa using hi
  exact Qwc (Zm fun R d=>hg R (by simp[d])) h
 |i+1,Q::L,P,F,hg,hi,h=>Qtn (W:=fun c=>Hu (L.set i c)) (hg Q (by simp)) h fun k=>Ju i (fun R d=>hg R (by simp[d])) (by simpa using hi) k
theorem Qm4.get{P:J7}{W:J7→J7}(h:Qm4 P W w F):∃G:Fp,P w G∧∀k,G k→F k:=by obtain⟨G,h1,c,_⟩:=h;exact⟨G,h1,c⟩
theorem Z7{L:List J7}{P:J7}(c:∀Q∈L,Hi Q)(i:Nat)(hi:L[i]? =some P)(h:Hu L w F):∃G:Fp,P w G∧∀k,G k→F k:=(Ju i c hi h).get
theorem Qm4.cells{b:Nat}{cs cs':Array Value}{t:TypeId}{W:J7→J7}(h:Qm4 (Qa8 b cs t) W w F)(hc:Qc (fun k=>k=b) w w')(q:Qh w' b cs' t):W (Qa8 b cs' t) w' (Qn F w w')∧Qc F w w':=by obtain⟨G,⟨h1,d,u⟩,z,I,B⟩:=h;have c:Qc G w w':=hc.sub fun k E=>E▸d;exact⟨B w' _ c ⟨q,.inl d,u.ext c⟩,c.sub z⟩
theorem Yv{P:J7}(h:P w F)(d:Bd F w):Hu [P] w F:=⟨d,F,fun _=>False,h,fun k c=>c.elim,fun k _ c=>c,fun k c=>c,fun k c=>c.elim⟩
theorem Zl{P:J7}{L:List J7}{G H:Fp}(h1:P w G)(c:Hu L w H)(u:Je G H)(q:∀k,G k→F k)(z:∀k,H k→F k)(d:Bd F w):Hu (P::L) w F:=⟨d,G,H,h1,c,u,q,z⟩
theorem Qt(k:Nat):Qn Qb w w1 k↔w.heap.size≤k∧k<w1.heap.size:=⟨fun h=>h.elim (fun h=>h.elim) id,.inr⟩
end
section
attribute [local go_sem] Qq
def Qks(b T m:Nat)(l:List J6)(L:List (Int×Value)):List J7:=
 [Qa8 b #[ptr T,.map (some m)] 198,fun w G=>V0 w G T l,Qtl m L]
theorem Xg(b T m:Nat)(l:List J6)(L:List (Int×Value)):∀P∈Qks b T m l L,Hi P:=by
 intro P c;simp only[Qks,List.mem_cons,List.not_mem_nil,or_false]at c;rcases c with rfl|rfl|rfl;·exact Yu _ _ _
 ·exact V0.obj.good T l
 ·exact Qm3 _ _
def Zo(w:World)(F:Fp)(b:Nat)(l:List J6):Prop:=Ua l∧∃T m L,L.Perm (atV l)∧Hu (Qks b T m l L) w F
theorem Zo.obj:Ky Zo where
 bd:=fun⟨_,T,m,L,_,h⟩=>(Zm (Xg _ T m _ L)).bd h
 own:=fun⟨_,T,m,L,_,h⟩=>by obtain⟨G,h1,q⟩:=Z7 (Xg _ T m _ L) 0 rfl h;exact q _ h1.2.1
 keep:=fun⟨h0,T,m,L,c,h⟩hc k=>⟨h0,T,m,L,c,(Zm (Xg _ T m _ L)).keep h hc k⟩
 more:=fun⟨h0,T,m,L,c,h⟩hs d=>⟨h0,T,m,L,c,(Zm (Xg _ T m _ L)).more h hs d⟩
theorem Zo.opn{w:World}{F:Fp}{b:Nat}{l:List J6}(h:Zo w F b l):
  ∃T m L,L.Perm (atV l)∧Qh w b #[ptr T,.map (some m)] 198∧(∃G,V0 w G T l)∧Xs w m L:=by
 obtain⟨_,T,m,L,d,h⟩:=h;obtain⟨u,h0,_⟩:=Z7 (Xg _ T m _ L) 0 rfl h;obtain⟨k,h1,_⟩:=Z7 (Xg _ T m _ L) 1 rfl h;obtain⟨q,c,_⟩:=Z7 (Xg _ T m _ L) 2 rfl h;exact⟨T,m,L,d,h0.1,⟨k,h1⟩,c.1⟩
theorem Zo.ris{w:World}{F:Fp}{b:Nat}{l:List J6}(h:Zo w F b l):X8 l:=by obtain⟨T,m,L,c,h0,⟨G,h1⟩,d⟩:=h.opn;exact h1.ris
theorem U6{w:World}{b T:Nat}{v:Value}(h:Qh w b #[ptr T,v] 198):Cl 157 #[ptr b] w fun e w'=>e=.returned (ptr T)∧w=w':=by obtain⟨c,a1⟩:=Qz h;unfold ptr at*;clear h;go_enter func157,ntmps157;go_wp2;go_ret;exact⟨rfl,rfl⟩
theorem Qto{w:World}{F:Fp}{b:Nat}{l:List J6}(h:Zo w F b l):Cl 165 #[ptr b] w fun e w'=>e=.returned (.int .i64 (l.length:Int))∧w=w':=by obtain⟨T,m,L,k,h0,⟨G,h1⟩,q⟩:=h.opn;have c:=O (U6 h0);have d:=O (Qth h1);unfold ptr at*;clear h k h0 h1 q;go_enter func165,ntmps165;go_wp2_with fail;refine c.out.mono ?_;rintro e w1⟨rfl,rfl⟩;go_wp2_with fail;refine d.out.mono ?_;rintro e w1⟨rfl,rfl⟩;go_wp2;go_ret;exact⟨rfl,rfl⟩
theorem Qb8{w:World}{F:Fp}{b:Nat}{l:List J6}(h:Zo w F b l):Cl 106 #[ptr b] w fun e w'=>e=.returned (.tuple #[.int .u64 (((low l).getD (0,0)).1:Int),.bool (low l).isSome])∧Qc Qb w w':=by obtain⟨T,m,L,q,h0,⟨G,h1⟩,k⟩:=h.opn;have d:=O (U6 h0);have c:=O (Qtj h1);generalize low l=o at c⊢;unfold ptr V2 at*;clear h q h0 h1 k;go_enter func106,ntmps106;go_wp2_with fail;refine d.out.mono ?_;rintro e w1⟨rfl,rfl⟩;go_wp2_with fail;refine c.out.mono ?_;rintro e w1⟨rfl,u⟩;go_wp2;go_ret2;refine⟨rfl,?_⟩;(repeat' (first|(with_reducible first|exact Zg _ _|assumption|refine Zh ?_ _|refine Zi ?_ _|refine Zj ?_ |refine Zk ?_ _ ?_ |(apply Or.inl;rfl))|(apply Or.inl;simp;done)|(apply Or.inr;simp;first|done|omega)))
theorem Qm5{w:World}{F:Fp}{b:Nat}{l:List J6}(h:Zo w F b l)(k:Nat):Cl 92 #[ptr b,.int .u64 (k:Int)] w fun e w'=>e=.returned (.tuple #[.int .i64 ((Xb k l).getD (0,0)).2,.bool (Xb k l).isSome])∧Qc Qb w w':=by obtain⟨T,m,L,u,h0,⟨G,h1⟩,q⟩:=h.opn;have d:=O (U6 h0);have c:=O (Qpz h1 k);unfold Xb;generalize low (l.filter fun e=>decide (e.1≤k))=o at c⊢;unfold ptr V2 at*;clear h u h0 h1 q;go_enter func92,ntmps92;go_wp2_with fail;refine d.out.mono ?_;rintro e w1⟨rfl,rfl⟩;go_wp2_with fail;refine c.out.mono ?_;rintro e w1⟨rfl,z⟩;go_wp2;go_ret2;refine⟨rfl,?_⟩;(repeat' (first|(with_reducible first|exact Zg _ _|assumption|refine Zh ?_ _|refine Zi ?_ _|refine Zj ?_ |refine Zk ?_ _ ?_ |(apply Or.inl;rfl))|(apply Or.inl;simp;done)|(apply Or.inr;simp;first|done|omega)))
theorem Qkt{w:World}{F:Fp}{b:Nat}{l:List J6}(h:Zo w F b l)(v:Nat):Cl 94 #[ptr b,.int .u64 (v:Int)] w fun e w'=>e=.returned (.tuple #[.int .i64 (((Xf v l).map (·.2.1)).getD 0),.bool (Xf v l).isSome])∧Qc Qb w w':=by
 obtain⟨T,m,L,E,h0,⟨G,h1⟩,B⟩:=h.opn;obtain⟨q,J⟩:=Zx (w.heap.size);have d:=O ((Qc.refl Qb w).alloc (.cells #[.int .u64 (v:Int)] 29));have z:=O (U6 (d.out.blk h0 (fun h=>h)));have c:=O (Qp0 (V0.obj.keep h1 d.out (Je.none G)) v (Qh.new w #[.int .u64 (v:Int)] 29));have u:Qv9 (Xf v l)=.agg #[.int .u64 ((((Xf v l).map (·.1)).getD 0:Nat):Int),.int .i64 (((Xf v l).map (·.2.1)).getD 0)]:=by cases Xf v l<;>rfl
 rw[u]at c;generalize((Xf v l).map (·.1)).getD 0=R at c;generalize((Xf v l).map (·.2.1)).getD 0=K at c⊢;generalize(Xf v l).isSome=U at c⊢;unfold ptr at*;clear h E h0 h1 B u;go_enter func94,ntmps94;go_wp2_with fail;refine z.out.mono ?_;rintro e w1⟨rfl,rfl⟩;go_wp2_with fail;refine c.out.mono ?_;rintro e w1⟨rfl,k⟩;have I:=O (d.out.trans' k);clear k;go_wp2;go_ret2;refine⟨rfl,?_⟩;have:=I.out;(repeat' (first|(with_reducible first|exact Zg _ _|assumption|refine Zh ?_ _|refine Zi ?_ _|refine Zj ?_ |refine Zk ?_ _ ?_ |(apply Or.inl;rfl))|(apply Or.inl;simp;done)|(apply Or.inr;simp;first|done|omega)))
end
section
variable{P:Program}{ops:Array Oper}{Q:Exit→Act→World→Prop}{C:World→Prop}
def Dg(P:Program)(ops:Array Oper)(Q:Exit→Act→World→Prop)(C:World→Prop):List (Bool×Oper)→Act→Prop
 |[],a=>∀w,C w→Q .normal a w
 |(true,o)::r,a=>if Region.wanted o (yielded ops a.tmps)then Qq P o a C (Dg P ops Q C r)else Dg P ops Q C r (a.put o.dst undef)
 |(false,o)::r,a=>∀w,C w→wpList P ops (Exit.then (fun c w'=>C w'∧Dg P ops Q C r c) Q) [o] a w
def G5(ops:Array Oper):List (Bool×Nat)→List (Bool×Oper)
 |[]=>[]
 |(b,k)::r=>match ops[k]? with
  |some o=>(b,o)::G5 ops r
  |none=>G5 ops r
theorem Qd9{b:Bool}{k:Nat}{r:List (Bool×Nat)}{o:Oper}(h:ops[k]? =some o):G5 ops ((b,k)::r)=(b,o)::G5 ops r:=by simp[G5,h]
def Qp1(ops:Array Oper):List (Bool×Nat)→Array Bool→Bool
 |[],listed=>(Region.ready .any ops listed).isEmpty
 |(true,k)::r,listed=>(Region.ready .any ops listed).contains k&&Region.free .any ops listed k&&((ops[k]?).map (·.dst.isSome)).getD false&&Qp1 ops r (listed.setIfInBounds k true)
 |(false,k)::r,listed=>decide (Region.ready .any ops listed=[k])&&Qp1 ops r (listed.setIfInBounds k true)
theorem Qku(z:Region.noSelect ops=true)(R:∀c(a:Act)(d:Tmp)v w,Q (.panic c) (a.put (some d) v) w→Q (.panic c) a w):
  ∀(r:List (Bool×Nat))(q:Array Bool)(a:Act)(w:World),Ji ops q→C w→Qp1 ops r q=true→Dg P ops Q C (G5 ops r) a→Ox P ops Q C (fun _=>false) r.length q a w
 |[],q,a,w,hcl,hC,hB,h=>⟨by simpa[Qp1]using hB,h w hC⟩
 |(true,k)::r,q,a,w,hcl,hC,hB,h=>by
  simp only[Qp1,Bool.and_eq_true]at hB;obtain⟨⟨⟨hr,hf⟩,E⟩,B⟩:=hB;have u:k∈Region.ready .any ops q:=by simpa using hr
  obtain⟨_,o,h0,_⟩:=mem_ready.1 u;rw[h0]at E;simp only[Option.map_some,Option.getD_some]at E;obtain⟨d,E⟩:=Option.isSome_iff_exists.1 E;rw[Qd9 h0]at h;simp only[Dg]at h;have V:∃v,YieldsIf P ops C o v a∧Dg P ops Q C (G5 ops r) (a.put o.dst v):=by
   by_cases J:Region.wanted o (yielded ops a.tmps)=true;·simp only[J,if_true]at h;obtain⟨v,h1,I⟩:=h;exact⟨v,.inl ⟨J,h1⟩,I⟩
   ·simp only[J]at h;exact⟨undef,.inr ⟨by simpa using J,rfl⟩,h⟩
  obtain⟨v,V,hK⟩:=V;exact Gv (F:=ops.size) h0 (Region.noSelect_spec z) (fun c K w' Z=>by rw[E]at Z;exact R c K d _ w' Z) (fun j oj hj hT=>by cases hT) _ q a w hcl (Region.free_spec h0 hf) u V hC
   (Qku z R r _ _ w (hcl.set u) hC B hK)
 |(false,k)::r,q,a,w,hcl,hC,hB,h=>by
  simp only[Qp1,Bool.and_eq_true,decide_eq_true_eq]at hB;obtain⟨h1,B⟩:=hB;have u:k∈Region.ready .any ops q:=by rw[h1];simp
  obtain⟨_,o,h0,_⟩:=mem_ready.1 u;rw[Qd9 h0]at h;simp only[Dg]at h;refine⟨fun I=>(by rw[h1]at I;cases I),fun i hi=>?_⟩;rw[h1]at hi;have U:i=k:=by simpa using hi
  subst U;refine wpOp_mono (fun K w' h'=>⟨fun _=>h'.1,?_⟩) (Yp h0 (h w hC));exact Qku z R r _ K w' (hcl.set u) h'.1 B h'.2
theorem Qia{id:Nat}{a:Act}{w:World}{l:List Oper}(k:List (Bool×Nat))(C:World→Prop)(I:P.follows .mixedOrders=true)
  (z:(Region.noSelect l.toArray&&(decide (k.length=l.toArray.size)&&Qp1 l.toArray k (Array.replicate l.toArray.size false)))=true)
  (J:∀c(a:Act)(d:Tmp)v w,Q (.panic c) (a.put (some d) v) w→Q (.panic c) a w) (E:C w.drew) (h:Dg P l.toArray Q C (G5 l.toArray k) a):
  (Code.region id l.toArray true).wp P Q a w:=by
 simp only[Bool.and_eq_true,decide_eq_true_eq]at z;obtain⟨q,u,z⟩:=z;refine wp_region_any I ?_;have B:Ji l.toArray (Array.replicate l.toArray.size false):=fun j K _ hl=>by rw[getD_replicate_false]at hl;cases hl
 have:=Qku (P:=P) q J k _ a _ B E z h;rw[u]at this;exact Gu _ _ _ _ this
variable{r:List (Bool×Oper)}{a:Act}{o:Oper}
theorem Qx4(h:∀w,C w→Q .normal a w):Dg P ops Q C [] a:=h
theorem Qwd{v:Value}(c:Region.wanted o (yielded ops a.tmps)=true)(d:∀w,C w→(execOp a.eval o).run P w=.ok (.value v) w)(h:Dg P ops Q C r (a.put o.dst v)):Dg P ops Q C ((true,o)::r) a:=by simp only[Dg,c,if_true];exact⟨v,d,h⟩
theorem Qwe(h:∀w,C w→wpList P ops (Exit.then (fun c w'=>C w'∧Dg P ops Q C r c) Q) [o] a w):Dg P ops Q C ((false,o)::r) a:=h
end
section
attribute [local go_sem] Qq
theorem Qm6(w:World):(zeroValue 204).run prog w=.ok (.agg #[.int .u64 0,.int .i64 0]) w:=by go_simp
theorem Qwf{F:Fp}{w w1 w2 w3 d:World}(h1:w.heap.size≤w1.heap.size)(q:w1.heap.size≤w2.heap.size)(u:w2.heap.size≤w3.heap.size)(z:w3.heap.size≤d.heap.size):∀k,Qn (Qn F w1 w2) w3 d k→Qn F w d k:=by
 intro k c;rcases c with(c|c)|c;·exact .inl c
 ·exact .inr ⟨by omega,by omega⟩
 ·exact .inr ⟨by omega,by omega⟩
theorem Qzc{F:Fp}{w w':World}(h:Bd F w)(hs:w.heap.size≤w'.heap.size):Bd (Qn F w w') w':=fun k c=>c.elim (fun c=>Nat.lt_of_lt_of_le (h k c) hs) (fun c=>c.2)
theorem Qx5{l:List J6}(h:Ua l){e f:J6}(q:e∈l)(hf:f∈l)(hi:e.2.1=f.2.1):e=f:=by
 unfold Ua at h;induction l with
 |nil=>cases q
 |cons a l z=>
  simp only[List.map_cons,List.nodup_cons]at h;rcases List.mem_cons.1 q with u|d
  ·rcases List.mem_cons.1 hf with k|c;·rw[u,k]
   ·exact absurd (List.mem_map.2 ⟨f,c,by rw[←hi,u]⟩) h.1
  ·rcases List.mem_cons.1 hf with k|c;·exact absurd (List.mem_map.2 ⟨e,d,by rw[hi,k]⟩) h.1
   ·exact z h.2 d c
theorem Qp2{l:List J6}(h:Ua l){e:J6}(c:e∈l):Hz e.2.1 l=some e:=by
 cases d:Hz e.2.1 l with
 |none=>exact absurd rfl (L7 d _ c)
 |some f=> obtain⟨h1,k⟩:=L6 d;rw[Qx5 h h1 c k]
theorem Qtp{w:World}{F:Fp}{b:Nat}{l:List J6}(h:Zo w F b l)(n:Nat)(id:Int)(v:Nat)(E:(n,id,v)∈l):
  Cl 105 #[ptr b,.int .i64 id] w fun e w'=>e=.returned (.tuple #[.int .u64 (n:Int),.int .u64 (v:Int),.bool true])∧Qc Qb w w':=by
 obtain⟨T,m,L,R,h0,⟨G,h1⟩,U⟩:=h.opn;have K:Hz id l=some (n,id,v):=Qp2 h.1 E;have k:=Qmz (id:=id) R h.1;rw[K,Option.map_some]at k;have z:=Up (P:=prog) U underlying196 underlying3 (Qm6 w) id;rw[k]at z;dsimp only[Option.getD_some,Option.isSome_some]at z;obtain⟨q,I⟩:=Zx (w.heap.size);obtain⟨W,hW⟩:=Zx (w.alloc (.cells #[.int .u64 (n:Int),.int .i64 id] 204));have B:Hid (Qc Qb w W):=O (by rw[hW];exact(Qc.refl _ _).alloc _);have V:Hid (Qh W q #[.int .u64 (n:Int),.int .i64 id] 204):=O (by rw[hW,I];exact Qh.new _ _ _);have B0:=O (B.out.blk h0 (fun h=>h));have HO:=O (U6 h0);have HG:=O (fun w'(hc:Qc Qb w w')=>Qti (V0.obj.keep h1 hc (Je.none G)) n id v E);obtain⟨a0,a1⟩:=Qz h0;unfold ptr Xi at*;clear h R h0 h1 U K k E;go_enter func105,ntmps105;go_wp2_with fail;refine HO.out.mono ?_;rintro e w1⟨rfl,rfl⟩;go_wp2_with fail;rw[←I,←hW];clear I hW a0 a1 z;have E1:=fun x=>Qz (Qk (S:=Qb) B0.out (fun h=>h) x);have E2:=fun x=>Qz (Qk (S:=Qb) V.out (fun h=>h) x);refine Qia [(true,0),(true,1),(true,2),(true,3),(true,4),(false,5),(true,6),(true,7),(true,8),(false,9),(false,10)] (fun w'=>∃x,w'=Qw (Qb) (W) x) (by kernel_rfl) (by kernel_rfl) ?_ (Qd (by(repeat' (first|(with_reducible first|exact Zg _ _|assumption|refine Zh ?_ _|refine Zi ?_ _|refine Zj ?_ |refine Zk ?_ _ ?_ |(apply Or.inl;rfl))|(apply Or.inl;simp;done)|(apply Or.inr;simp;first|done|omega))))) ?_;·exact fun _ _ _ _ _ h=>h
 simp only[G5,Zf,Ze,Zd];iterate 5 (refine Qwd (by kernel_rfl) (fun u c=>(by obtain⟨x,rfl⟩:=c;go_simp;try with_reducible rfl)) ?_;try simp only[Act.put,Za,Zc,Zb])
 refine Qwe (fun u c=>?_);obtain⟨x,rfl⟩:=c;have d:=O (Qu Qb W x);generalize Qw Qb W x=w1 at d⊢;clear E1 E2;go_wp2_with fail;refine(HG.out _ (B.out.trans' d.out)).mono ?_;rintro e w2⟨rfl,Z⟩;have J:=O (d.out.trans' Z);clear Z;go_wp2;refine⟨Qd J.out,?_⟩;clear J w2 d w1;try simp only[Act.put,Za,Zc,Zb]
 iterate 3 (refine Qwd (by kernel_rfl) (fun u c=>(by obtain⟨x,rfl⟩:=c;go_simp;try with_reducible rfl)) ?_;try simp only[Act.put,Za,Zc,Zb])
 iterate 2 (refine Qwe (fun u c=>?_);go_wp2;refine⟨c,?_⟩;clear c u;try simp only[Act.put,Za,Zc,Zb])
 refine Qx4 (fun wz hz=>?_);obtain⟨x,rfl⟩:=hz;have d:=O (Qu Qb W x);generalize Qw Qb W x=w1 at d⊢;obtain⟨k0,k1⟩:=Qz (d.out.blk V.out (fun h=>h));go_wp2;refine bodyPost_ret (v:=.tuple #[.int .u64 (n:Int),.int .u64 (v:Int),.bool true]) ?_ rfl ⟨rfl,?_⟩;·simp[*,results,Tryz.results105,go_sem]
 ·exact B.out.trans' d.out
theorem Qp3{l:List J6}(h:Ua l){e:J6}(c:e∈l):Jc e.2.1 l=del e.1 e.2.1 l:=Qmp h c rfl
theorem Zo.out{w W w2 w3:World}{F:Fp}{b:Nat}{l:List J6}{e:J6}(h:Zo w F b l)(he:e∈l){T m:Nat}{L:List (Int×Value)}(hp:L.Perm (atV l))(hs:Hu (Qks b T m l L) w F)(B:Qc Qb w W)
  (hM:Xs w2 m (Kx e.2.1 L)) (Z:Qc (fun j=>j=m) W w2) (V:Qc Qb w2 w3):
  Qh w3 b #[ptr T,.map (some m)] 198∧∃G,V0 w3 G T l∧∀c,Qc G w3 c→V0 c (Qn G w3 c) T (del e.1 e.2.1 l)→Zo c (Qn F w c) b (Jc e.2.1 l)∧Qc F w c:=by
 have g:=Zm (Xg b T m l L);have s1:=g.keep hs B (Je.none F);obtain⟨G2,⟨m1,m2,m3⟩,u,ab,z⟩:=Ju 2 (Xg b T m l L) rfl s1;have E:Qc G2 W w2:=Z.sub fun k R=>R▸m2;have s2:Hu (Qks b T m l (Kx e.2.1 L)) w2 (Qn F W w2):=z w2 (Qtl m (Kx e.2.1 L)) E ⟨hM,.inl m2,m3.ext E⟩;have J:=Xg b T m l (Kx e.2.1 L);have s3:=(Zm J).keep s2 V (Je.none _);obtain⟨B0,K,_⟩:=Z7 J 0 rfl s3;obtain⟨G,hG,q,aa,d⟩:=Ju 1 J rfl s3;refine⟨K.1,G,hG,fun c U hT=>?_⟩;have s4:Hu (Qks b T m (del e.1 e.2.1 l) (Kx e.2.1 L)) c (Qn (Qn F W w2) w3 c):=d c (fun w G=>V0 w G T (del e.1 e.2.1 l)) U hT;have I:=Zo.obj.bd h;have cF:Qc F w c:=((B.none.trans' (E.sub u)).trans' V.none).trans U fun k R=>(q k R).elim .inl (fun h=>.inr (Nat.le_trans B.size h.1));have s5:=(Zm (Xg b T m _ _)).more s4 (Qwf B.size Z.size V.size U.size) (I.ext cF);refine⟨⟨h.1.drop,T,m,_,Qv6 hp,?_⟩,cF⟩;rw[Qp3 h.1 he];exact s5
theorem Zo.same{w w':World}{F:Fp}{b:Nat}{l:List J6}{id:Int}(h:Zo w F b l)(hn:Hz id l=none)(hc:Qc Qb w w'):Zo w' (Qn F w w') b (Jc id l)∧Qc F w w':=by rw[Qb6 (L7 hn)];exact⟨Zo.obj.more (Zo.obj.keep h hc (Je.none F)) (fun k c=>.inl c) ((Zo.obj.bd h).ext (hc.none (F:=F))),hc.none⟩
theorem Qa9{w:World}{F:Fp}{b:Nat}{l:List J6}(h:Zo w F b l)(hl:l.length<4611686018427387904)(id:Int):
  Cl 197 #[ptr b,.int .i64 id] w fun e w'=>e=.returned (.bool (Hz id l).isSome)∧Zo w' (Qn F w w') b (Jc id l)∧Qc F w w':=by
 have hH:=h;obtain⟨ho,T,m,L,V,hs⟩:=h;obtain⟨G0,h0,_⟩:=Z7 (Xg _ T m _ L) 0 rfl hs;obtain⟨G2,k,_⟩:=Z7 (Xg _ T m _ L) 2 rfl hs;have h0:=h0.1;have k:=k.1;have d:=Qmz (id:=id) V ho;have z:=Up (P:=prog) k underlying196 underlying3 (Qm6 w) id;rw[d]at z;have HO:=O (U6 h0);obtain⟨a0,a1⟩:=Qz h0;obtain⟨q,Z⟩:=Zx (w.heap.size);cases B:Hz id l with
 |none=> rw[B]at z;dsimp only[Option.map_none,Option.getD_none,Option.isSome_none]at z⊢;have c:=O (fun w'(hc:Qc Qb w w')=>hH.same B hc);unfold ptr at*;clear h0 k d V hs B hH hl;go_enter func197,ntmps197;go_wp2_with fail;refine HO.out.mono ?_;rintro e w1⟨rfl,rfl⟩;go_wp2;go_ret;refine⟨rfl,c.out _ ?_⟩;(repeat' (first|(with_reducible first|exact Zg _ _|assumption|refine Zh ?_ _|refine Zi ?_ _|refine Zj ?_ |refine Zk ?_ _ ?_ |(apply Or.inl;rfl))|(apply Or.inl;simp;done)|(apply Or.inr;simp;first|done|omega)))
 |some e0=>
  obtain⟨u,E⟩:=L6 B;obtain⟨n,i,v⟩:=e0;dsimp only at E;subst E;rw[B]at z;dsimp only[Option.map_some,Option.getD_some,Option.isSome_some]at z⊢;obtain⟨W,hW⟩:=Zx (w.alloc (.cells #[.int .u64 (n:Int),.int .i64 i] 204));have C0:Hid (Qc Qb w W):=O (by rw[hW];exact(Qc.refl _ _).alloc _);have K0:Hid (Qh W q #[.int .u64 (n:Int),.int .i64 i] 204):=O (by rw[hW,Z];exact Qh.new _ _ _);have B0:=O (C0.out.blk h0 (fun h=>h));obtain⟨w2,J,I,c2⟩:=Uq (P:=prog) (k.keep C0.out (fun h=>h)) underlying196 underlying3 3 0 i;have AO:=O (fun w3 R=>Zo.out hH u V hs C0.out I c2 (w3:=w3) R);have K2:=O (c2.blk K0.out (fun e=>by have:=k.lt;have:=Z;omega));have aa:=O (fun w3 G(h:V0 w3 G T l)=>Qpw h hl n i ⟨_,u,rfl,rfl⟩);unfold ptr Xi at*;clear h0 k d V hs B hH u I c2 hl;go_enter func197,ntmps197;go_wp2_with fail;refine HO.out.mono ?_;rintro e w1⟨rfl,rfl⟩;go_upto_region 6 with fail;rw[←Z,←hW];clear Z hW a0 a1 z;obtain⟨a0,a1⟩:=Qz B0.out;go_wp2_with fail;clear a0 a1 J;have E1:=fun x=>Qz (Qk (S:=Qb) ((AO.out w2 (Qc.refl _ _)).1) (fun h=>h) x);have E2:=fun x=>Qz (Qk (S:=Qb) K2.out (fun h=>h) x);refine Qr [] [0,1,2,3,4] [] [5,6,7] (Qw (Qb) (w2)) (by kernel_rfl) (by kernel_rfl) ?_ (Qd (by(repeat' (first|(with_reducible first|exact Zg _ _|assumption|refine Zh ?_ _|refine Zi ?_ _|refine Zj ?_ |refine Zk ?_ _ ?_ |(apply Or.inl;rfl))|(apply Or.inl;simp;done)|(apply Or.inr;simp;first|done|omega))))) ?_;·exact fun _ _ _ _ _ h=>h
  simp only[pick,Zf,Ze,Zd];refine Qf ?_;iterate 5 (refine Ql (fun K hK=>?_);go_simp;refine hK _ ?_;clear hK K)
  refine Qf ?_;intro _ ab;obtain⟨xo,U⟩:=ab;subst U;simp only[Zn];have R:=Qu Qb w2 xo;generalize Qw Qb w2 xo=w3 at R⊢;obtain⟨_,G,hG,c⟩:=AO.out w3 R;have HF:=O c;have HD:=O (aa.out w3 G hG);clear E1 E2 c hG R;go_wp2_with fail;refine HD.out.mono ?_;rintro e w4⟨rfl,hT,c4⟩;have FF:=O (HF.out w4 c4 hT);clear hT c4;go_wp2;go_ret;exact⟨rfl,FF.out⟩
theorem Zo.putIn{w W:World}{F:Fp}{b:Nat}{l:List J6}(ho:Ua l){n v:Nat}{i:Int}(hn:∀e∈l,e.2.1≠i){T m:Nat}{L:List (Int×Value)}(hp:L.Perm (atV l))(hs:Hu (Qks b T m l L) w F)(E:Qc Qb w W):
  Qh W b #[ptr T,.map (some m)] 198∧∃G,V0 W G T l∧(∀k,G k→F k)∧(∀w2 w3,Qc G W w2→V0 w2 (Qn G W w2) T (Vz (n,i,v) l)→Qc Qb w2 w3→
   Qh w3 b #[ptr T,.map (some m)] 198∧Xs w3 m L∧(∀c,Qc (fun j=>j=m) w3 c→Xs c m (Ht i (Xi n i) L)→Zo c (Qn F w c) b (Vz (n,i,v) l)∧Qc F w c)):=by
 have B:=Xg b T m l L;have s1:=(Zm B).keep hs E (Je.none F);obtain⟨B0,U,_⟩:=Z7 B 0 rfl s1;obtain⟨G,hG,d,ab,q⟩:=Ju 1 B rfl s1;refine⟨U.1,G,hG,d,fun w2 w3 R hT Z=>?_⟩;have s2:Hu (Qks b T m (Vz (n,i,v) l) L) w2 (Qn F W w2):=q w2 (fun w G=>V0 w G T (Vz (n,i,v) l)) R hT;have K:=Xg b T m (Vz (n,i,v) l) L;have s3:=(Zm K).keep s2 Z (Je.none _);obtain⟨B1,aa,_⟩:=Z7 K 0 rfl s3;obtain⟨G2,⟨m1,m2,m3⟩,u,ac,z⟩:=Ju 2 K rfl s3;refine⟨aa.1,m1,fun c c4 hM=>?_⟩;have I:Qc G2 w3 c:=c4.sub fun k V=>V▸m2;have s4:Hu (Qks b T m (Vz (n,i,v) l) (Ht i (Xi n i) L)) c (Qn (Qn F W w2) w3 c):=z c (Qtl m (Ht i (Xi n i) L)) I ⟨hM,.inl m2,m3.ext I⟩;have J:=(Zm B).bd hs;have cF:Qc F w c:=((E.none.trans' (R.sub d)).trans' Z.none).trans I fun k V=>(u k V).elim .inl (fun h=>.inr (Nat.le_trans E.size h.1));have s5:=(Zm (Xg b T m _ _)).more s4 (Qwf E.size R.size Z.size c4.size) (J.ext cF);refine⟨⟨?_,T,m,_,Qxz hp hn,s5⟩,cF⟩;have:=Ua.put (id:=i) (key:=n) (value:=v) ho;unfold Kg at this;rwa[Qb6 hn]at this
theorem Qn.ext{F:Fp}{w w1 w2:World}{b:Nat}{l:List J6}(h:Zo w2 (Qn (Qn F w w1) w1 w2) b l)(h1:w.heap.size≤w1.heap.size)(c:w1.heap.size≤w2.heap.size)(d:Bd F w):Zo w2 (Qn F w w2) b l:=
 Zo.obj.more h (Qn.trans h1 c) (Qzc d (Nat.le_trans h1 c))
theorem Qjj{w:World}{F:Fp}{b:Nat}{l:List J6}(h:Zo w F b l)(hl:l.length<4611686018427387903)(id:Int)(n v:Nat):
  Cl 199 #[ptr b,.int .i64 id,.int .u64 (n:Int),.int .u64 (v:Int)] w fun e w'=>e=.returned (.tuple #[])∧Zo w' (Qn F w w') b (Kg id n v l)∧Qc F w w':=by
 have HD:=O (Qa9 h (by omega) id);obtain⟨T0,m0,L0,af,R,_⟩:=h.opn;have HO:=O (U6 R);have ag:=O (Zo.obj.bd h);have ah:(Jc id l).length≤l.length:=List.length_filter_le _ _;have d:Hid (∀e∈Jc id l,e.2.1≠id):=O (fun e he hi=>by have:=(List.mem_filter.1 he).2;simp at this;exact this hi);have u:Hid (Vz (n,id,v) (Jc id l)=Kg id n v l):=O rfl;have aa:Hid ((Jc id l).length<4611686018427387904):=O (by omega);generalize Kg id n v l=lp at u⊢;generalize Jc id l=ld at HD d u aa;unfold ptr at*;clear h af R ah hl;go_enter func199,ntmps199;go_wp2_with fail;refine HO.out.mono ?_;rintro e w1⟨rfl,rfl⟩;go_wp2_with fail;refine HD.out.mono ?_;rintro e w1⟨rfl,⟨ho,T,m,L,hp,hs⟩,c1⟩;obtain⟨q,hq⟩:=Zx (w1.heap.size);obtain⟨W,hW⟩:=Zx (w1.alloc (.cells #[.int .u64 (n:Int),.int .i64 id] 204));have C0:Hid (Qc Qb w1 W):=O (by rw[hW];exact(Qc.refl _ _).alloc _);have K0:Hid (Qh W q #[.int .u64 (n:Int),.int .i64 id] 204):=O (by rw[hW,hq];exact Qh.new _ _ _);have PU:=O (fun W(c0:Qc Qb w1 W)=>Zo.putIn (n:=n) (v:=v) ho d.out hp hs c0);have C1:=O c1;have BB:=O ((PU.out W C0.out).1);have ae:=O ((Zm (Xg _ T m _ L)).bd hs);have KQ:=O (show∀k,(Qn F w w1) k→k≠q from fun k hk e=>by have:=ae.out k hk;omega);clear ho hp hs c1 HD HO;go_wp2_with fail;rw[←hq,←hW];clear hq hW;have E1:=fun x=>Qz (Qk (S:=Qb) BB.out (fun h=>h) x);have E2:=fun x=>Qz (Qk (S:=Qb) K0.out (fun h=>h) x);refine Qr [] [0,1,2,3,4,5] [] [6] (Qw (Qb) (W)) (by kernel_rfl) (by kernel_rfl) ?_ (Qd (by(repeat' (first|(with_reducible first|exact Zg _ _|assumption|refine Zh ?_ _|refine Zi ?_ _|refine Zj ?_ |refine Zk ?_ _ ?_ |(apply Or.inl;rfl))|(apply Or.inl;simp;done)|(apply Or.inr;simp;first|done|omega))))) ?_;·exact fun _ _ _ _ _ h=>h
 simp only[pick,Zf,Ze,Zd];refine Qf ?_;iterate 6 (refine Ql (fun K hK=>?_);go_simp;refine hK _ ?_;clear hK K)
 refine Qf ?_;intro _ z;obtain⟨J,c⟩:=z;subst c;simp only[Zn];have c3:=O (Qu Qb W J);generalize Qw Qb W J=w3 at c3⊢;clear E1 E2;obtain⟨_,G,hG,ab,NX⟩:=PU.out w3 (C0.out.trans' c3.out);have HG:=O hG;have ac:=O ab;have Z:=O NX;have B:=O (Qte HG.out aa.out n id v (fun e he h=>d.out e he h.2));have K3:=O (c3.out.blk K0.out (fun h=>h));unfold Xi ptr at B;clear hG ab NX PU;go_wp2_with fail;refine B.out.mono ?_;rintro e E⟨rfl,hT,c5⟩;have N5:=O (fun w6(I:Qc Qb E w6)=>Z.out E w6 c5 hT I);have K5:=O (c5.blk K3.out (fun h=>KQ.out _ (ac.out _ h) rfl));have S5:=O (Nat.le_trans C0.out.size (Nat.le_trans c3.out.size c5.size));have E1:=fun x=>Qz (Qk (S:=Qb) ((N5.out E (Qc.refl _ _)).1) (fun h=>h) x);have E2:=fun x=>Qz (Qk (S:=Qb) K5.out (fun h=>h) x);clear hT c5 Z HG B;unfold ptr at E1;go_wp2_with fail;refine Qr [] [0,1,2,3,4,5] [] [6] (Qw (Qb) (E)) (by kernel_rfl) (by kernel_rfl) ?_ (Qd (by(repeat' (first|(with_reducible first|exact Zg _ _|assumption|refine Zh ?_ _|refine Zi ?_ _|refine Zj ?_ |refine Zk ?_ _ ?_ |(apply Or.inl;rfl))|(apply Or.inl;simp;done)|(apply Or.inr;simp;first|done|omega))))) ?_;·exact fun _ _ _ _ _ h=>h
 simp only[pick,Zf,Ze,Zd];refine Qf ?_;iterate 6 (refine Ql (fun K hK=>?_);go_simp;refine hK _ ?_;clear hK K)
 refine Qf ?_;intro _ z;obtain⟨J,c⟩:=z;subst c;simp only[Zn];have I:=Qu Qb E J;generalize Qw Qb E J=w6 at I⊢;clear E1 E2;obtain⟨_,hM,U⟩:=N5.out w6 I;obtain⟨w7,ai,V,c7⟩:=J9 (P:=prog) hM underlying196 underlying3 id (Xi n id);have FF:=O (U w7 c7 V);have SS:=O (Nat.le_trans S5.out (Nat.le_trans I.size c7.size));unfold Xi at ai;clear U V c7 hM I N5;go_wp2;refine bodyPost_end (by simp[*,results,Tryz.results199,go_sem]) rfl ⟨rfl,?_⟩;rw[←u.out];exact⟨Qn.ext FF.out.1 C1.out.size SS.out ag.out,C1.out.ext FF.out.2⟩
theorem Zo.made{w w':World}{b T m:Nat}{G:Fp}{l:List J6}{L:List (Int×Value)}(J:Ua l)(U:L.Perm (atV l))(q:Qh w' b #[ptr T,.map (some m)] 198)(z:V0 w' G T l)(d:Xs w' m L)
  (h1:w.heap.size≤b) (E:w.heap.size≤m) (I:∀k,G k→w.heap.size≤k) (K:b≠m) (B:¬G b) (R:¬G m):Zo w' (Qn Qb w w') b l:=by
 have bd:Bd (Qn Qb w w') w':=fun k c=>c.elim (fun h=>h.elim) (fun h=>h.2);have u:=V0.obj.bd z;refine⟨J,T,m,L,U,?_⟩;refine Zl (G:=fun k=>k=b) (H:=fun k=>G k∨k=m) ⟨q,rfl,fun k e=>e▸q.lt⟩ (Zl (G:=G) (H:=fun k=>k=m) z (Yv ⟨d,rfl,fun k e=>e▸d.lt⟩ (fun k e=>e▸d.lt)) ?_ (fun k h=>.inl h) (fun k h=>.inr h) ?_) ?_ ?_ ?_ bd;·rintro k c rfl;exact R c
 ·intro k c;rcases c with c|rfl;·exact u k c
  ·exact d.lt
 ·rintro k rfl c;rcases c with c|c;·exact B c
  ·exact K c
 ·rintro k rfl;exact .inr ⟨h1,q.lt⟩
 ·intro k c;rcases c with c|rfl;·exact .inr ⟨I k c,u k c⟩
  ·exact .inr ⟨E,d.lt⟩
theorem Qdd(w:World):Cl 119 #[] w fun e w'=>∃b,e=.returned (ptr b)∧Zo w' (Qn Qb w w') b []∧Qc Qb w w':=by
 have z:=O (Qtg w);unfold ptr O0 Vw at*;go_enter func119,ntmps119;go_wp2_with fail;refine z.out.mono ?_;rintro e w1⟨rfl,u,c⟩;have d:Hid (∀w',w'=(w1.alloc (.map #[] 0)).alloc (.cells #[.pointer (some ⟨w.heap.size,0,none⟩),.map (some w1.heap.size)] 198)→Zo w' (Qn Qb w w') (w1.heap.size+1) []∧Qc Qb w w'):=O (by
  rintro w' rfl;have q:Qc Qb w1 ((w1.alloc (.map #[] 0)).alloc (.cells #[.pointer (some ⟨w.heap.size,0,none⟩),.map (some w1.heap.size)] 198)):=((Qc.refl _ _).alloc _).alloc _;have s1:=c.size;refine⟨Zo.made (T:=w.heap.size) (m:=w1.heap.size) (G:=Qn Qb w w1) (L:=[]) List.nodup_nil (List.Perm.refl _) (Qh.new' _ _ (by simp)) (V0.obj.keep u q (Je.none _)) ((Xs.new w1).keep ((Qc.refl Qb _).alloc _) (fun h=>h)) (by omega) (by omega) (fun k E=>E.elim (fun h=>h.elim) (fun h=>h.1)) (by omega) ?_ ?_,c.trans' q⟩
  ·rintro(h|h);·exact h
   ·omega
  ·rintro(h|h);·exact h
   ·omega)
 have B:=@run_makeMap prog;clear u c;go_wp2;go_ret;exact⟨_,rfl,d.out _ rfl⟩
abbrev Kh:World→Fp→Nat→List J6→Prop:=Od 135 (fun _ p=>#[ptr p]) (fun l=>l) Zo
theorem Kh.obj:Ky Kh:=Od.obj Zo.obj
theorem Qtq(w:World):Cl 66 #[] w fun e w'=>∃b,e=.returned (ptr b)∧Kh w' (Qn Qb w w') b []∧Qc Qb w w':=by
 have z:=O (Qdd w);unfold ptr at*;go_enter func66,ntmps66;go_wp2_with fail;refine z.out.mono ?_;rintro e w1⟨p,rfl,q,c⟩;have d:Hid (∀w',w'=w1.alloc (.cells #[.pointer (some ⟨p,0,none⟩)] 135)→Kh w' (Qn Qb w w') w1.heap.size []∧Qc Qb w w'):=O (by
  rintro w' rfl;have u:Qc Qb w1 (w1.alloc (.cells #[.pointer (some ⟨p,0,none⟩)] 135)):=(Qc.refl _ _).alloc _;have s1:=c.size;exact⟨Od.new (p:=p) (Zo.obj.keep q u (Je.none _)) (fun k B=>B.elim (fun h=>h.elim) (fun h=>h.1)) Zo.obj (Qh.new _ _ _) (by omega) (fun h=>h.elim (fun h=>h.elim) (fun h=>by omega)),c.trans' u⟩)
 clear q c;go_wp2;go_ret;exact⟨_,rfl,d.out _ rfl⟩
theorem Qp4{w:World}{F:Fp}{b:Nat}{l:List J6}(h:Kh w F b l)(hl:l.length<4611686018427387904)(id:Int):
  Cl 134 #[ptr b,.int .i64 id] w fun e w'=>e=.returned (.bool (Hz id l).isSome)∧Kh w' (Qn F w w') b (Jc id l)∧Qc F w w':=by
 obtain⟨q,B⟩:=Zx (w.heap.size);obtain⟨W,hW⟩:=Zx (w.alloc (.cells #[.int .i64 id] 3));have I:Hid (Qc Qb w W):=O (by rw[hW];exact(Qc.refl _ _).alloc _);have K0:Hid (Qh W q #[.int .i64 id] 3):=O (by rw[hW,B];exact Qh.new _ _ _);have R:=O h.bd;have h:=Kh.obj.keep h I.out (Je.none F);have H:=O h;obtain⟨p,G,z,K,hG⟩:=h.ex;have U:=O (Qa9 K hl id);have E:=O hG;have a0:=Zv z;have HB:=O z;have k0:=Zv K0.out;generalize Jc id l=u at U⊢;have HC:Hid (Cl 196 #[ptr p,ptr q] W fun e w'=>e=.returned (.bool (Hz id l).isSome)∧Zo w' (Qn G W w') p u∧Qc G W w'):=O (by
  unfold ptr at*;clear h z K a0 hW B;go_enter func196,ntmps196;go_wp2_with fail;refine U.out.mono ?_;rintro e w1⟨rfl,h1,c⟩;have d:=O (And.intro h1 c);clear h1 c;go_wp2;go_ret;exact⟨rfl,d.out⟩)
 have HK:Hid (Cl 195 #[ptr b,.func (.func 196) #[] #[ptr q],.bool false] W fun e w'=>e=.returned (.bool (Hz id l).isSome)∧Zo w' (Qn G W w') p u∧Qc G W w'):=O (by
  unfold ptr at*;clear h z K hW B;go_enter func195,ntmps195;go_wp2_with fail;refine HC.out.mono ?_;rintro e w1⟨rfl,h1,c⟩;have d:=O (And.intro h1 c);clear h1 c;go_wp2;go_ret;exact⟨rfl,d.out⟩)
 have V:Hid (∀w',Zo w' (Qn G W w') p u→Qc G W w'→Kh w' (Qn F w w') b u∧Qc F w w'):=O (by
  intro w' h1 c;have Z:=H.out.made (x':=u) E.out Zo.obj c h1 (Qc.refl _ _) (c.blk HB.out (fun h=>(E.out _ h).2 rfl));exact⟨Kh.obj.more Z.1 (fun k J=>J.elim .inl (fun J=>.inr ⟨Nat.le_trans I.out.size J.1,J.2⟩)) (R.out.ext (I.out.none.trans' Z.2)),I.out.none.trans' Z.2⟩)
 unfold ptr at*;clear h z K U a0 HC k0;go_enter func134,ntmps134;go_wp2_with fail;rw[←B,←hW];refine HK.out.mono ?_;rintro e w1⟨rfl,h1,c⟩;have d:=O (V.out _ h1 c);clear h1 c hW B;go_wp2;go_ret;exact⟨rfl,d.out⟩
theorem Qtr{w:World}{F:Fp}{b:Nat}{l:List J6}(h:Kh w F b l)(hl:l.length<4611686018427387903)(id:Int)(n v:Nat):
  Cl 135 #[ptr b,.int .i64 id,.int .u64 (n:Int),.int .u64 (v:Int)] w fun e w'=>e=.returned (.tuple #[])∧Kh w' (Qn F w w') b (Kg id n v l)∧Qc F w w':=by
 obtain⟨q,d⟩:=Zx (w.heap.size);obtain⟨W,hW⟩:=Zx (((w.alloc (.cells #[.int .i64 id] 3)).alloc (.cells #[.int .u64 (n:Int)] 29)).alloc (.cells #[.int .u64 (v:Int)] 29));have I:Hid (Qc Qb w W):=O (by rw[hW];exact(((Qc.refl _ _).alloc _).alloc _).alloc _);have K0:Hid (Qh W q #[.int .i64 id] 3):=O (by rw[hW,d];exact((Qh.new _ _ _).alloc _).alloc _);have K1:Hid (Qh W (q+1) #[.int .u64 (n:Int)] 29):=O (by rw[hW,d];exact(Qh.new' _ _ (by simp)).alloc _);have K2:Hid (Qh W (q+1+1) #[.int .u64 (v:Int)] 29):=O (by rw[hW,d];exact Qh.new' _ _ (by simp));have R:=O h.bd;have h:=Kh.obj.keep h I.out (Je.none F);have H:=O h;obtain⟨p,G,B,K,hG⟩:=h.ex;have U:=O (Qjj K hl id n v);have E:=O hG;have a0:=Zv B;have HB:=O B;have k0:=Zv K0.out;have k1:=Zv K1.out;have k2:=Zv K2.out;generalize Kg id n v l=z at U⊢;have HC:Hid (Cl 198 #[ptr p,ptr q,ptr (q+1),ptr (q+1+1)] W fun e w'=>e=.returned (.bool true)∧Zo w' (Qn G W w') p z∧Qc G W w'):=O (by
  unfold ptr at*;clear h B K a0 hW d;go_enter func198,ntmps198;go_wp2_with fail;refine U.out.mono ?_;rintro e w1⟨rfl,h1,c⟩;have u:=O (And.intro h1 c);clear h1 c;go_wp2;go_ret;exact⟨rfl,u.out⟩)
 have HK:Hid (Cl 195 #[ptr b,.func (.func 198) #[] #[ptr q,ptr (q+1),ptr (q+1+1)],.bool false] W fun e w'=>e=.returned (.bool true)∧Zo w' (Qn G W w') p z∧Qc G W w'):=O (by
  unfold ptr at*;clear h B K hW d;go_enter func195,ntmps195;go_wp2_with fail;refine HC.out.mono ?_;rintro e w1⟨rfl,h1,c⟩;have u:=O (And.intro h1 c);clear h1 c;go_wp2;go_ret;exact⟨rfl,u.out⟩)
 have V:Hid (∀w',Zo w' (Qn G W w') p z→Qc G W w'→Kh w' (Qn F w w') b z∧Qc F w w'):=O (by
  intro w' h1 c;have Z:=H.out.made (x':=z) E.out Zo.obj c h1 (Qc.refl _ _) (c.blk HB.out (fun h=>(E.out _ h).2 rfl));exact⟨Kh.obj.more Z.1 (fun k J=>J.elim .inl (fun J=>.inr ⟨Nat.le_trans I.out.size J.1,J.2⟩)) (R.out.ext (I.out.none.trans' Z.2)),I.out.none.trans' Z.2⟩)
 unfold ptr at*;clear h B K U a0 HC k0 k1 k2;go_enter func135,ntmps135;go_wp2_with fail;rw[←d,←hW];refine HK.out.mono ?_;rintro e w1⟨rfl,h1,c⟩;have u:=O (V.out _ h1 c);clear h1 c hW d;go_wp2;refine bodyPost_end (by simp[*,results,Tryz.results135,go_sem]) rfl ⟨rfl,u.out⟩
theorem Qp5{w:World}{F:Fp}{b:Nat}{l:List J6}(h:Kh w F b l)(k:Nat):
  Cl 42 #[ptr b,.int .u64 (k:Int)] w fun e w'=>e=.returned (.tuple #[.int .i64 ((Xb k l).getD (0,0)).2,.bool (Xb k l).isSome])∧Qc Qb w w':=by
 obtain⟨p,G,hB,hA,hG⟩:=h.ex;have HA:=O (fun w'(hc:Qc Qb w w')=>Qm5 (Zo.obj.keep hA hc (Je.none G)) k);obtain⟨c,V⟩:=Zx (((Xb k l).getD (0,0)).2);obtain⟨d,Z⟩:=Zx ((Xb k l).isSome);rw[←V,←Z]at HA⊢;have HB:=O hB;clear V Z h hB hA;have HC:Hid (∀W q,Qc Qb w W→Qh W q #[.int .u64 (k:Int)] 29→Cl 91 #[ptr p,ptr q] W fun e w'=>e=.returned (.agg #[.int .i64 c,.bool d])∧Qc Qb W w'):=O (by
  intro W q hc I;obtain⟨s,hs⟩:=Zx (W.heap.size);obtain⟨u,hW1⟩:=Zx (W.alloc (.cells #[.int .i64 0,.bool false] 153));have B:Hid (Qc Qb W u):=O (by rw[hW1];exact(Qc.refl _ _).alloc _);have U:Hid (Qh u s #[.int .i64 0,.bool false] 153):=O (by rw[hW1,hs];exact Qh.new _ _ _);have HL:=O (HA.out u (hc.trans' B.out));have HS:=O hs;have q0:=Zv (show Qh (W.alloc (.cells #[.int .i64 0,.bool false] 153)) q _ _ from hW1▸B.out.blk I (fun h=>h));unfold ptr at*;clear hc I;go_enter func91,ntmps91;go_wp2_with fail;rw[←hW1,←hs];refine HL.out.mono ?_;rintro e w1⟨rfl,E⟩;have J:=O (E.blk U.out (fun h=>h));obtain⟨s0,s1⟩:=Qz J.out;have f1:=J.out.frozen;have z:Hid (Qc Qb W ((((w1.setCell ⟨s,0,none⟩ (.int .i64 c)).setCell ⟨s,1,none⟩ (.bool d)).setCell ⟨s,0,none⟩ (.int .i64 c)).setCell ⟨s,1,none⟩ (.bool d))):=O (by
   have c2:=B.out.trans' E;have ae:=HS.out;exact(((c2.setCell (a:=⟨s,0,none⟩) _ (.inr (by show W.heap.size≤s;omega))).setCell (a:=⟨s,1,none⟩) _ (.inr (by show W.heap.size≤s;omega))).setCell (a:=⟨s,0,none⟩) _ (.inr (by show W.heap.size≤s;omega))).setCell (a:=⟨s,1,none⟩) _ (.inr (by show W.heap.size≤s;omega)))
  have R:Hid (Qh ((((w1.setCell ⟨s,0,none⟩ (.int .i64 c)).setCell ⟨s,1,none⟩ (.bool d)).setCell ⟨s,0,none⟩ (.int .i64 c)).setCell ⟨s,1,none⟩ (.bool d)) s #[.int .i64 c,.bool d] 153):=O ((((J.out.set' 0 _ rfl).set' 1 _ rfl).set' 0 _ rfl).set' 1 _ rfl);clear hW1 hs q0 E;go_wp2;generalize((((w1.setCell ⟨s,0,none⟩ (.int .i64 c)).setCell ⟨s,1,none⟩ (.bool d)).setCell ⟨s,0,none⟩ (.int .i64 c)).setCell ⟨s,1,none⟩ (.bool d))=w9 at R z⊢;obtain⟨e0,e1⟩:=Qz R.out;refine bodyPost_ret (v:=.agg #[.int .i64 c,.bool d]) ?_ rfl ⟨rfl,?_⟩;·simp[*,results,Tryz.results91,go_sem]
  ·exact z.out)
 have HK:Hid (∀W q,Qc Qb w W→Qh W q #[.int .u64 (k:Int)] 29→Cl 90 #[ptr b,.func (.func 91) #[] #[ptr q],.agg #[.int .i64 0,.bool false]] W fun e w'=>e=.returned (.agg #[.int .i64 c,.bool d])∧Qc Qb W w'):=O (by
  intro W q hc I;obtain⟨s,hs⟩:=Zx (W.heap.size);obtain⟨u,hW1⟩:=Zx ((W.alloc (.cells #[.int .i64 0,.bool false] 153)).alloc (.cells #[.int .i64 0,.bool false] 153));have B:Hid (Qc Qb W u):=O (by rw[hW1];exact((Qc.refl _ _).alloc _).alloc _);have U:Hid (Qh u (s+1) #[.int .i64 0,.bool false] 153):=O (by rw[hW1,hs];exact Qh.new' _ _ (by simp));have HL:=O (HC.out u q (hc.trans' B.out) (B.out.blk I (fun h=>h)));have HS:=O hs;have b0:=Zv (show Qh ((W.alloc (.cells #[.int .i64 0,.bool false] 153)).alloc (.cells #[.int .i64 0,.bool false] 153)) b _ _ from hW1▸(hc.trans' B.out).blk HB.out (fun h=>h));unfold ptr at*;clear hc I;go_enter func90,ntmps90;go_wp2_with fail;rw[←hW1,←hs];refine HL.out.mono ?_;rintro e w1⟨rfl,E⟩;have J:=O (E.blk U.out (fun h=>h));obtain⟨s0,s1⟩:=Qz J.out;have f1:=J.out.frozen;have z:Hid (Qc Qb W ((w1.setCell ⟨s+1,0,none⟩ (.int .i64 c)).setCell ⟨s+1,1,none⟩ (.bool d))):=O (by
   have c2:=B.out.trans' E;have ae:=HS.out;exact(c2.setCell (a:=⟨s+1,0,none⟩) _ (.inr (by show W.heap.size≤s+1;omega))).setCell (a:=⟨s+1,1,none⟩) _ (.inr (by show W.heap.size≤s+1;omega)))
  have R:Hid (Qh ((w1.setCell ⟨s+1,0,none⟩ (.int .i64 c)).setCell ⟨s+1,1,none⟩ (.bool d)) (s+1) #[.int .i64 c,.bool d] 153):=O ((J.out.set' 0 _ rfl).set' 1 _ rfl);clear hW1 hs b0 E;go_wp2;generalize((w1.setCell ⟨s+1,0,none⟩ (.int .i64 c)).setCell ⟨s+1,1,none⟩ (.bool d))=w9 at R z⊢;obtain⟨e0,e1⟩:=Qz R.out;refine bodyPost_ret (v:=.agg #[.int .i64 c,.bool d]) ?_ rfl ⟨rfl,?_⟩;·simp[*,results,Tryz.results90,go_sem]
  ·exact z.out)
 obtain⟨q,I⟩:=Zx (w.heap.size);obtain⟨W,hW⟩:=Zx (w.alloc (.cells #[.int .u64 (k:Int)] 29));have C0:Hid (Qc Qb w W):=O (by rw[hW];exact(Qc.refl _ _).alloc _);have K0:Hid (Qh W q #[.int .u64 (k:Int)] 29):=O (by rw[hW,I];exact Qh.new _ _ _);have ab:=O (HK.out W q C0.out K0.out);unfold ptr at*;clear HC HA HK;go_enter func42,ntmps42;go_wp2_with fail;rw[←I,←hW];clear I hW;refine ab.out.mono ?_;rintro e w1⟨rfl,E⟩;have B:=O (C0.out.trans' E);obtain⟨s,hs⟩:=Zx (w1.heap.size);obtain⟨u,hW1⟩:=Zx (w1.alloc (.cells #[.int .i64 c,.bool d] 153));have C2:Hid (Qc Qb w u):=O (by rw[hW1];exact B.out.alloc _);have U:Hid (Qh u s #[.int .i64 c,.bool d] 153):=O (by rw[hW1,hs];exact Qh.new _ _ _);have E1:=fun x=>Qz (Qk (S:=Qb) U.out (fun h=>h) x);clear E;go_wp2_with fail;rw[←hs,←hW1];clear hs hW1;refine Qr [] [0,1,2,3] [4,5] [] (Qw (Qb) (u)) (by kernel_rfl) (by kernel_rfl) ?_ (Qd (by(repeat' (first|(with_reducible first|exact Zg _ _|assumption|refine Zh ?_ _|refine Zi ?_ _|refine Zj ?_ |refine Zk ?_ _ ?_ |(apply Or.inl;rfl))|(apply Or.inl;simp;done)|(apply Or.inr;simp;first|done|omega))))) ?_;·exact fun _ _ _ _ _ h=>h
 simp only[pick,Zf,Ze,Zd];refine Qf ?_;iterate 4 (refine Ql (fun K hK=>?_);go_simp;refine hK _ ?_;clear hK K)
 refine Qf ?_;intro _ ac;obtain⟨xo,aa⟩:=ac;subst aa;simp only[Zn];have c3:=O (Qu Qb u xo);generalize Qw Qb u xo=w3 at c3⊢;clear E1;go_wp2;refine⟨Qd c3.out,?_⟩;go_wp2;refine⟨Qd c3.out,?_⟩;go_wp2;go_ret2;exact⟨rfl,C2.out.trans' c3.out⟩
end
structure Qv where
 id:Int
 par:Int
 leaf:Bool
 shares:Bool
 total:Nat
 limit:Yt
 mem:Q9
 tree:List J6
 under:Nat
abbrev Qe:=List Qv
def Qe.new:Qe:=[⟨0,0,false,false,0,none,⟨[],0⟩,[],0⟩]
def Qe.at(p:Qe)(id:Int):Option Qv:=p.find? fun c=>decide (c.id=id)
def Qe.set(p:Qe)(c:Qv):Qe:=p.map fun x=>if x.id=c.id then c else x
def Qe.fam(p:Qe)(id:Int)(f:Q9→Q9):Qe:=match p.at id with
 |none=>p
 |some c=>match p.at c.par with
  |none=>p
  |some q=>p.set {q with mem:=f q.mem}
def Qe.awake(p:Qe)(id:Int):Bool:=match p.at id with
 |none=>false
 |some c=>decide (0<id)&&(((p.at c.par).map fun q=>q.mem.up id).getD false)
def Qe.v(p:Qe)(id:Int):Nat:=match p.at id with
 |none=>0
 |some c=>if id<1 then 0 else((p.at c.par).map fun q=>q.mem.v id).getD 0
def Qv.fit(c:Qv):Nat:=
 let own:=c.limit.fit c.total
 if c.leaf then own else match low c.tree with
  |none=>Qx
  |some s=>max own s.1
def Qe.note(p:Qe)(id:Int):Qe:=match p.at id with
 |none=>p
 |some c=>match p.at c.par with
  |none=>p
  |some q=>p.set {q with tree:=if p.awake id then Kg id (p.v id) c.fit q.tree else Jc id q.tree}
def Qe.path(p:Qe):Nat→Int→List Int
 |0,_=>[]
 |n+1,id=>if id<1 then[]else match p.at id with
  |none=>[]
  |some c=>id::p.path n c.par
def Qe.up1(now:Nat)(p:Qe)(id:Int):Qe:=match p.at id with
 |none=>p
 |some c=>if p.awake id||!c.shares then p else(p.fam id fun f=>f.wake id).set {c with limit:=c.limit.wake now c.total}
def Qe.wake(p:Qe)(id:Int)(now:Nat):Qe:=match p.at id with
 |none=>p
 |some c=>if id<1||!c.leaf||!c.shares then p else
  let l:=p.path 9 id
  l.foldl Qe.note (l.foldl (Qe.up1 now) p)
def Qe.gain1(g:Nat)(p:Qe)(id:Int):Qe:=match p.at id with
 |none=>p
 |some c=>(p.set {c with total:=c.total+min g (Jz-c.total)}).fam id fun f=>f.gain id g
def Qe.rest1(d:Bool)(p:Qe)(id:Int):Qe:=match p.at id with
 |none=>p
 |some c=>Qe.note (if d&&(c.leaf||decide (c.tree.length=0))then p.fam id fun f=>f.sleep id else p) id
def Qe.sent(p:Qe)(id:Int)(g:Nat)(more:Bool):Qe:=match p.at id with
 |none=>p
 |some c=>if id<1||!c.leaf then p else
  let l:=p.path 9 id;let p:=l.foldl (Qe.gain1 g) p
  l.foldl (Qe.rest1 (!more&&p.awake id)) p
def Qe.next(p:Qe)(now:Nat):Nat→Int→Option Int
 |0,_=>none
 |n+1,id=>match p.at id with
  |none=>none
  |some c=>if c.leaf then some id else match Xf now c.tree with
   |none=>none
   |some e=>p.next now n e.2.1
def Qe.tick(p:Qe):Nat:=match p.at 0 with
 |none=>Qx
 |some c=>match low c.tree with
  |none=>Qx
  |some s=>s.1
def Qe.fitAt(p:Qe)(id:Int):Nat:=if p.awake id then((p.at id).map (·.fit)).getD Qx else Qx
def inB(n a b:Int):Bool:=decide (a≤n∧n≤b)
def Xm.named(s:Xm):Bool:=inB s.id 1 65535&&inB s.par 0 65535&&decide (s.id≠s.par)
def Xm.kind(s:Xm):Int:=if s.leaf=false then 4 else if s.real.none=false∧s.share.none=false then 3 else if s.real.none=false then 1 else if s.share.none=false then 2 else 0
theorem Qex(n a b:Int)(w:World):Cl 215 #[.int .i64 n,.int .i64 a,.int .i64 b] w fun e w'=>e=.returned (.bool (inB n a b))∧w=w':=by
 unfold inB;by_cases h1:a≤n
 ·by_cases c:n≤b
  ·have d:decide (a≤n∧n≤b)=true:=by simp[h1,c]
   rw[d];go_enter func215,ntmps215;go_wp2;go_ret;exact⟨rfl,rfl⟩
  ·have d:decide (a≤n∧n≤b)=false:=by simp[c]
   rw[d];have c:b<n:=by omega
   go_enter func215,ntmps215;go_wp2;go_ret;exact⟨rfl,rfl⟩
 ·have d:decide (a≤n∧n≤b)=false:=by simp[h1]
  rw[d];have h1:n<a:=by omega
  go_enter func215,ntmps215;go_wp2;go_ret;exact⟨rfl,rfl⟩
theorem Qzd(a b:Int):(a != b)=decide (a≠b):=by by_cases h:a=b<;>simp[h]
theorem Qp6(s:Xm)(w:World):Cl 179 #[.agg #[.int .i64 s.id,.int .i64 s.par,.bool s.leaf,.int .u64 (s.real.f:Int),.int .u64 (s.real.l:Int),.int .u64 (s.real.r:Int),.int .u64 (s.share.f:Int),.int .u64 (s.share.l:Int),.int .u64 (s.share.r:Int),.int .u64 (s.upper.f:Int),.int .u64 (s.upper.l:Int),.int .u64 (s.upper.r:Int),.int .i64 s.pk,.int .i64 s.bt]] w fun e w'=>e=.returned (.bool s.named)∧Qc Qb w w':=by
 have c:=O (Qex s.id 1 65535);have d:=O (Qex s.par 0 65535);have hn:s.named=(inB s.id 1 65535&&inB s.par 0 65535&&(s.id != s.par)):=by rw[Qzd];rfl
 generalize inB s.id 1 65535=x at c hn;generalize inB s.par 0 65535=y at d hn;rw[hn];clear hn;cases x with
 |false=> go_enter func179,ntmps179;go_wp2_with fail;refine(c.out _).mono ?_;rintro e w1⟨rfl,rfl⟩;go_wp2;go_ret;refine⟨rfl,?_⟩;(repeat' (first|(with_reducible first|exact Zg _ _|assumption|refine Zh ?_ _|refine Zi ?_ _|refine Zj ?_ |refine Zk ?_ _ ?_ |(apply Or.inl;rfl))|(apply Or.inl;simp;done)|(apply Or.inr;simp;first|done|omega)))
 |true=>
  cases y with
  |false=> go_enter func179,ntmps179;go_wp2_with fail;refine(c.out _).mono ?_;rintro e w1⟨rfl,rfl⟩;go_wp2_with fail;refine(d.out _).mono ?_;rintro e w1⟨rfl,rfl⟩;go_wp2;go_ret;refine⟨rfl,?_⟩;(repeat' (first|(with_reducible first|exact Zg _ _|assumption|refine Zh ?_ _|refine Zi ?_ _|refine Zj ?_ |refine Zk ?_ _ ?_ |(apply Or.inl;rfl))|(apply Or.inl;simp;done)|(apply Or.inr;simp;first|done|omega)))
  |true=> go_enter func179,ntmps179;go_wp2_with fail;refine(c.out _).mono ?_;rintro e w1⟨rfl,rfl⟩;go_wp2_with fail;refine(d.out _).mono ?_;rintro e w1⟨rfl,rfl⟩;go_wp2;go_ret;refine⟨by simp,?_⟩;(repeat' (first|(with_reducible first|exact Zg _ _|assumption|refine Zh ?_ _|refine Zi ?_ _|refine Zj ?_ |refine Zk ?_ _ ?_ |(apply Or.inl;rfl))|(apply Or.inl;simp;done)|(apply Or.inr;simp;first|done|omega)))
end Go.Proofs.YtnnhmpehkbihnaaGreat
