/- A part of the proof: no condition. -/
import Derived.Test.YtnnhmpehkbihnaaGreatPp28
namespace Go.Proofs.YtnnhmpehkbihnaaGreat
set_option linter.unusedVariables false
set_option maxRecDepth 100000
set_option maxHeartbeats 4000000
open Go.RowKit
open Go.Proofs.Tryz
section
attribute [local go_sem] Qq
def Y6(sb now:Nat)(us:Nat→Value)(fine:Bool):Array Value:=(([ptr sb,.int .u64 (now:Int)]:List Value)++(List.range 64).map us++([.bool fine]:List Value)).toArray
def Qj5(b sb now:Nat)(us:Nat→Value)(fine:Bool)(s:Qg)(vs:Nat→Value)(ps:Nat→List Z4):List J7:=
 [Qa8 b (Y6 sb now us fine) 32,fun w F=>Qs w F sb s]++(List.range 64).map fun c=>Vu (vs c) (ps c)
theorem Vm(b sb now:Nat)(us:Nat→Value)(fine:Bool)(s:Qg)(vs:Nat→Value)(ps:Nat→List Z4):∀P∈Qj5 b sb now us fine s vs ps,Hi P:=by
 intro P d;unfold Qj5 at d;rcases List.mem_append.1 d with d|d
 ·simp only[List.mem_cons,List.not_mem_nil,or_false]at d;rcases d with rfl|rfl;·exact Yu _ _ _
  ·exact Qs.obj.good _ _
 ·obtain⟨c,_,rfl⟩:=List.mem_map.1 d;exact Qcr _ _
def upd{X:Type}(f:Nat→X)(c:Nat)(x:X):Nat→X:=fun k=>if k=c then x else f k
theorem Qh0{X:Type}(f:Nat→X)(c:Nat)(x:X):upd f c x c=x:=if_pos rfl
theorem Qh1{X:Type}(f:Nat→X){c k:Nat}(x:X)(h:k≠c):upd f c x k=f k:=if_neg h
theorem Qj6{X:Type}(f:Nat→X)(n c:Nat)(x:X):((List.range n).map f).set c x=(List.range n).map (upd f c x):=by
 refine List.ext_getElem? fun k=>?_;rw[List.getElem?_set];simp only[List.getElem?_map,List.length_map,List.length_range];by_cases d:k<n
 ·rw[List.getElem?_range d];by_cases e:c=k;·subst e;simp[upd,d]
  ·rw[if_neg e];simp only[upd,Option.map_some];rw[if_neg (fun h=>e h.symm)]
 ·rw[List.getElem?_eq_none (by simp;omega)];split;·rw[if_neg (by omega)];rfl
  ·rfl
theorem Ou(sb now:Nat)(us:Nat→Value)(fine:Bool){c:Nat}(hc:c<64):(Y6 sb now us fine)[2+c]? =some (us c):=by unfold Y6;simp only[Zf];rw[List.append_assoc,List.getElem?_append_right (by simp),List.getElem?_append_left (by simp;omega)];simp[hc]
theorem O9(sb now:Nat)(us:Nat→Value)(fine:Bool):(Y6 sb now us fine)[66]? =some (.bool fine):=by unfold Y6;simp
theorem Qrv(sb now:Nat)(us:Nat→Value)(fine:Bool):(Y6 sb now us fine).size=67:=by unfold Y6;simp
def Jv(sb:Nat)(us vs:Nat→Value)(w:World)(F:Fp)(b:Nat)(s:Qg)(now:Nat)(fine:Bool)(ps:Nat→List Z4):Prop:=Hu (Qj5 b sb now us fine s vs ps) w F
section
variable{sb b now:Nat}{us vs:Nat→Value}{w w1:World}{F:Fp}{s:Qg}{fine:Bool}{ps:Nat→List Z4}
theorem Jv.bd(h:Jv sb us vs w F b s now fine ps):Bd F w:=(Zm (Vm b sb now us fine s vs ps)).bd h
theorem Jv.keep(h:Jv sb us vs w F b s now fine ps){S:Fp}(hc:Qc S w w1)(c:Je F S):Jv sb us vs w1 F b s now fine ps:=(Zm (Vm b sb now us fine s vs ps)).keep h hc c
theorem Jv.more(h:Jv sb us vs w F b s now fine ps){c:Fp}(hs:∀k,F k→c k)(d:Bd c w):Jv sb us vs w c b s now fine ps:=(Zm (Vm b sb now us fine s vs ps)).more h hs d
theorem Jv.blk(h:Jv sb us vs w F b s now fine ps):Qh w b (Y6 sb now us fine) 32∧F b:=by obtain⟨G,h1,c⟩:=Z7 (Vm b sb now us fine s vs ps) 0 rfl h;exact⟨h1.1,c _ h1.2.1⟩
theorem Jv.cells(h:Jv sb us vs w F b s now fine ps):∃G:Fp,G b∧(∀k,G k→F k)∧∀w' d q c,Qc (fun k=>k=b) w w'→Qh w' b (Y6 sb d q c) 32→Jv sb q vs w' (Qn F w w') b s d c ps∧Qc F w w':=by obtain⟨G,u,B,_,E⟩:=Ju 0 (Vm b sb now us fine s vs ps) rfl h;refine⟨G,u.2.1,B,fun w' d q c hc I=>?_⟩;have z:Qc G w w':=hc.sub fun k e=>e▸u.2.1;exact⟨E w' (Qa8 b (Y6 sb d q c) 32) z ⟨I,.inl u.2.1,u.2.2.ext z⟩,z.sub B⟩
theorem Jv.sched(h:Jv sb us vs w F b s now fine ps):∃G:Fp,Qs w G sb s∧(∀k,G k→F k)∧¬G b∧∀w' s',Qs w' (Qn G w w') sb s'→Qc G w w'→Jv sb us vs w' (Qn F w w') b s' now fine ps∧Qc F w w':=by
 have Z:=h;obtain⟨q,G0,R0,R,⟨d,z,J,g1,U,E,s2,s3⟩,u,I,s1⟩:=Z;obtain⟨G,k1,k2,_,k3⟩:=Ju 1 (Vm b sb now us fine s vs ps) rfl h;refine⟨z,g1,fun k c=>s1 _ (s2 _ c),fun c=>u b R.2.1 (s2 _ c),fun w' s' h1 hc=>?_⟩;have K:∀k,z k→F k:=fun k c=>s1 _ (s2 _ c);have B:=hc.sub K;refine⟨?_,B⟩;refine Zl (G:=G0) (H:=fun k=>Qn z w w' k∨J k) ((Yu _ _ _).keep R hc (fun k a e=>u k a (s2 _ e))) ?_ ?_ (fun k c=>.inl (I k c)) ?_ (q.ext B)
 ·refine Zl (G:=Qn z w w') (H:=J) h1 ((Zm fun P V=>Vm b sb now us fine s vs ps P (by simp only[Qj5,List.cons_append,List.mem_cons];exact .inr (.inr V))).keep U hc (fun k a e=>E k e a)) ?_ (fun k c=>.inl c) (fun k c=>.inr c) ?_;·exact Je.extL E (d.sub s3)
  ·exact fun k c=>c.elim ((d.sub s2).ext hc k) ((d.sub s3).later hc k)
 ·rintro k c(e|e);·exact e.elim (fun e=>u k c (s2 _ e)) (fun e=>by have:=q _ (I _ c);omega)
  ·exact u k c (s3 _ e)
 ·exact fun k c=>c.elim (fun e=>Qn.mono K k e) (fun e=>.inl (s1 _ (s3 _ e)))
theorem Jv.rowOf(h:Jv sb us vs w F b s now fine ps){c:Nat}(hc:c<64):∃G:Fp,Vu (vs c) (ps c) w G∧(∀k,G k→F k)∧¬G b∧∀w' v' l',Vu v' l' w' (Qn G w w')→Qc G w w'→Jv sb us (upd vs c v') w' (Qn F w w') b s now fine (upd ps c l')∧Qc F w w':=by
 obtain⟨u,G0,z,K,h1,B,U,s1⟩:=h;have gg:∀P∈((fun w F=>Qs w F sb s)::(List.range 64).map fun c=>Vu (vs c) (ps c)),Hi P:=fun P R=>Vm b sb now us fine s vs ps P (by simp only[Qj5,List.cons_append,List.nil_append,List.mem_cons]at R⊢;exact .inr R);have E:Hu ((fun w F=>Qs w F sb s)::(List.range 64).map fun c=>Vu (vs c) (ps c)) w z:=h1;have e:((fun w F=>Qs w F sb s)::(List.range 64).map fun c=>Vu (vs c) (ps c))[c+1]? =some (Vu (vs c) (ps c)):=by rw[Zd];simp[hc]
 obtain⟨G,k1,k2,_,Z⟩:=Ju (c+1) gg e E;refine⟨G,k1,fun k d=>s1 _ (k2 _ d),fun d=>B b K.2.1 (k2 _ d),fun w' v' l' hp q=>?_⟩;have I:Qc F w w':=q.sub fun k d=>s1 _ (k2 _ d);refine⟨?_,I⟩;have J:Hu (((fun w F=>Qs w F sb s)::(List.range 64).map fun c=>Vu (vs c) (ps c)).set (c+1) (Vu v' l')) w' (Qn z w w'):=Z w' (Vu v' l') q hp;have V:((fun w F=>Qs w F sb s)::(List.range 64).map fun c=>Vu (vs c) (ps c)).set (c+1) (Vu v' l')=(fun w F=>Qs w F sb s)::(List.range 64).map fun k=>Vu (upd vs c v' k) (upd ps c l' k):=by
  rw[Zb,Qj6];congr 1;refine List.map_congr_left fun k _=>?_;by_cases d:k=c;·subst d;rw[Qh0,Qh0,Qh0]
  ·rw[Qh1 _ _ d,Qh1 _ _ d,Qh1 _ _ d]
 rw[V]at J;refine Zl (G:=G0) (H:=Qn z w w') ((Yu _ _ _).keep K q (fun k a e=>B k a (k2 _ e))) J ?_ (fun k d=>.inl (U k d)) (fun k d=>Qn.mono s1 k d) (u.ext I);exact Je.extR B (u.sub U)
def Ja(w:World)(F:Fp)(b:Nat)(s:Qg):Prop:=∃sb us now ps,Jv sb us us w F b s now true ps∧now≤1099511627776∧∀c,1≤c→c<64→ps c=s.qOf (c:Nat)
end
end
section
variable{s:Qg}{N:Nat}
theorem Qj7(h:X6 N s)(K:∀c∈s.tree,c.sp.id<64){now:Nat}{id:Int}{rule:Nat}(z:s.who now=some (id,rule)):
  ∃x t,s.qOf id=x::t∧s.next now=(some (s.takeC id rule),s.take id rule)∧(s.takeC id rule).p=x∧x.cls=id∧1≤id∧id<64∧∀i,(s.take id rule).qOf i=if i=id then t else s.qOf i:=by
 obtain⟨l,hl,E,_⟩:=h.who z;obtain⟨k,R,_⟩:=h.at hl;obtain⟨c,hc,_⟩:=h.leaf_at hl;obtain⟨J,_,_,_,U,I⟩:=h.tree.pos hc;have B:=K c I;have q:s.qOf id=l.q:=by unfold Qg.qOf;rw[hl];rfl
 obtain⟨x,t,d⟩:∃x t,l.q=x::t:=by
  cases u:l.q with
  |nil=>exact absurd u E
  |cons x t=>exact⟨x,t,rfl⟩
 refine⟨x,t,by rw[q,d],by unfold Qg.next;rw[z],?_,?_,J,by omega,fun i=>?_⟩;·unfold Qg.takeC;rw[hl];dsimp only;rw[d];rfl
 ·have:=(k.good x (by rw[d];simp)).2;rw[this,R]
 ·rw[Qxb h rule hl,d];rfl
theorem Qj8{now:Nat}(c:s.who now=none):s.next now=(none,s):=by unfold Qg.next;rw[c]
theorem Qh2(sb now:Nat)(us:Nat→Value)(fine:Bool):(Y6 sb now us fine).setIfInBounds 66 (.bool fine)=Y6 sb now us fine:=by
 have h:=O9 sb now us fine;have hs:=Qrv sb now us fine;generalize Y6 sb now us fine=A at h hs;refine Array.ext (by simp) fun i h1 c=>?_;rw[Array.getElem_setIfInBounds];split;·rename_i e;subst e;rw[Array.getElem?_eq_getElem (by omega)]at h;exact(Option.some.inj h).symm
 ·rfl
theorem Qj9(sb now:Nat)(us:Nat→Value)(fine:Bool){c:Nat}(hc:c<64)(v:Value):(Y6 sb now us fine).setIfInBounds (2+c) v=Y6 sb now (upd us c v) fine:=by unfold Y6;rw[Za,←Qj6,List.append_assoc,List.append_assoc,List.set_append_right _ _ (by simp),List.set_append_left _ _ (by simp;omega)];simp
theorem Qva(sb now c:Nat)(us:Nat→Value)(fine:Bool):(Y6 sb now us fine).setIfInBounds 1 (.int .u64 (c:Int))=Y6 sb c us fine:=by unfold Y6;rw[Za,List.append_assoc,List.append_assoc,List.set_append_left _ _ (by simp)];simp
end
section
variable{sb b now:Nat}{us:Nat→Value}{w w':World}{F:Fp}{s:Qg}{ps:Nat→List Z4}
theorem Jv.setRow(h:Jv sb us us w F b s now true ps){c:Nat}(hc:c<64){v:Value}{l:List Z4}(I:∀G:Fp,Vu (us c) (ps c) w G→Vu v l w G):
  Jv sb (upd us c v) (upd us c v) (w.setCell ⟨b,2+c,none⟩ v) (Qn F w (w.setCell ⟨b,2+c,none⟩ v)) b s now true (upd ps c l)∧Qc F w (w.setCell ⟨b,2+c,none⟩ v):=by
 obtain⟨G,h1,K,_,E⟩:=h.rowOf hc;have B:=(Qcr _ _).bd h1;obtain⟨k1,k2⟩:=E w v l ((Qcr _ _).more (I G h1) (fun k u=>.inl u) (B.ext (Qc.refl G w))) (Qc.refl G w);have q:Jv sb us (upd us c v) w F b s now true (upd ps c l):=k1.more (fun k u=>u.elim id (fun e=>by omega)) h.bd;obtain⟨J,_,_,d⟩:=q.cells;have z:=q.blk.1.set (2+c) v;rw[Qj9 _ _ _ _ hc]at z;exact d _ now (upd us c v) true ((Qc.refl _ _).setCell _ (.inl rfl)) z
end
section
attribute [local go_sem] Qq
attribute [local irreducible] Y4 Jm Jw
theorem Qsr(o:Option ChM):∀v∈(chO o).toList,v.oneCell'=true:=by
 cases o with
 |none=>exact Qe5 _ _ _
 |some c=>exact Qe5 _ _ _
theorem Qh3(o:Option ChM):(chO o).size=6:=by cases o<;>rfl
theorem Qzq(w:World):(binOp .eql 50 (.agg #[.int .u64 0,.int .i64 0,.int .i64 0,.int .u64 0,.int .u8 0,.int .u64 0]) (.agg #[.int .u64 0,.int .i64 0,.int .i64 0,.int .u64 0,.int .u8 0,.int .u64 0])).run prog w=.ok (.bool true) w:=by kernel_rfl
attribute [local go_sem] Qh3
attribute [local go_sem ↓] Qzq
section
variable{w:World}{F:Fp}{b:Nat}{s:Qg}{N:Nat}
theorem Qlu(h:Ja w F b s)(ok:X6 N s)(hb:∀c∈s.tree,c.sp.id<64)(hN:N<549755813000):
  Cl 77 #[ptr b] w fun e w'=>e=.returned (.tuple #[])∧∃s',Ja w' (Qn F w w') b s'∧X6 (N+16) s'∧(∀c∈s'.tree,c.sp.id<64)∧Qc F w w':=by
 obtain⟨sb,us,now,ps,h,I,R⟩:=h;have ag:=h.bd;have a2:=O ag;have HB:=O h.blk.1;obtain⟨G,ae⟩:∃G:Fp,G=fun k=>F k∧k≠b:=⟨_,rfl⟩;have an:¬G b:=by rw[ae];exact fun h=>h.2 rfl
 have hG:∀k,G k→F k:=by rw[ae];exact fun k h=>h.1
 have af:Hid (∀w',Qc Qb w w'→Cl 16 #[ptr sb,.int .u64 (now:Int)] w' fun e ak=>e=.returned (.tuple #[.agg (chO (s.next now).1),.bool (s.next now).1.isSome])∧Jv sb us us ak (Qn F w' ak) b (s.next now).2 now true ps∧Qc G w' ak):=O (fun w' cc=>by
  obtain⟨G',hS,bh,ay,z⟩:=(h.keep cc (Je.none F)).sched;refine(Qhz hS ok hN now).mono ?_;rintro e w2⟨rfl,h2,q⟩;obtain⟨m1,m2⟩:=z w2 _ h2 q;exact⟨rfl,m1,q.sub fun k d=>by rw[ae];exact⟨bh k d,fun e=>ay (e▸d)⟩⟩)
 have NG:=O (show∀k,w.heap.size≤k→¬F k from fun k d bf=>by have:=ag _ bf;omega);have aa:=O hG;obtain⟨o,ho⟩:=Zx ((s.next now).1);rw[←ho]at af;have HO:=O ho;clear ho;have a0:w.cell? ⟨b,0,none⟩=some (ptr sb):=by rw[HB.out.cell];rfl
 have a1:w.cell? ⟨b,1,none⟩=some (.int .u64 (now:Int)):=by rw[HB.out.cell];rfl
 have B:=O (fun(w':World)(c:Qc G w w')=>(show w'.cell? ⟨b,0,none⟩=some (ptr sb)∧w'.cell? ⟨b,1,none⟩=some (.int .u64 (now:Int))from⟨by rw[(c.blk HB.out an).cell];rfl,by rw[(c.blk HB.out an).cell];rfl⟩));unfold ptr at*;clear h an hG ae;go_enter func77,ntmps77;go_wp2_with fail;go_cut [2,3] (fun s2 s3 wz=>(∃r,s2=.pointer (some ⟨r,0,none⟩)∧Qh wz r (chO o) 50∧w.heap.size≤r)∧s3=.bool o.isSome∧Jv sb us us wz (Qn F w wz) b (s.next now).2 now true ps∧Qc F w wz)
 case first=>
  refine Lb (.lookp 0 (.lookp 1 (.lookp 2 (.lookp 3 (.lookp 4 (.lookp 5 (.lookp 6 (.lookp 7 (.fork 8 (.lookp 9 (.lookp 10 (.lookp 11 (.walk 12 (.walk 13 (.walk 14 .nil)))))) 12 (.walk 8 (.look 9 (.look 10 (.lookp 11 (.walk 13 (.walk 14 .nil))))))))))))))) (fun wv=>Qc (G) (w) wv) (by kernel_rfl) (by kernel_rfl) ?_ (by(repeat' (first|(with_reducible first|exact Zg _ _|assumption|refine Zh ?_ _|refine Zi ?_ _|refine Zj ?_ |refine Zk ?_ _ ?_ |(apply Or.inl;rfl))|(apply Or.inl;simp;done)|(apply Or.inr;simp;first|done|omega)))) ?_;·exact fun _ _ _ _ _ h=>h
  simp only[U9,Zf,Ze,Zd];iterate 3 (first|(refine Lk (by kernel_rfl) (by go_simp;try with_reducible rfl) ?_)|(refine Vc (by kernel_rfl) (fun wv hv=>by go_simp;try with_reducible rfl) ?_);try simp only[Act.put,Za,Zc,Zb])
  iterate 1 (refine Vc (by kernel_rfl) (fun wv hv=>by(obtain⟨z0,z1⟩:=B.out wv hv);go_simp;try with_reducible rfl) ?_;try simp only[Act.put,Za,Zc,Zb])
  iterate 3 (first|(refine Lk (by kernel_rfl) (by go_simp;try with_reducible rfl) ?_)|(refine Vc (by kernel_rfl) (fun wv hv=>by go_simp;try with_reducible rfl) ?_);try simp only[Act.put,Za,Zc,Zb])
  iterate 1 (refine Vc (by kernel_rfl) (fun wv hv=>by(obtain⟨z0,z1⟩:=B.out wv hv);go_simp;try with_reducible rfl) ?_;try simp only[Act.put,Za,Zc,Zb])
  clear a0 a1;refine Qk8 ?_ ?_
  ·go_wp2_with fail;refine(af.out _ (Qc.refl Qb w).drew).mono ?_;rintro e w2⟨rfl,h2,q⟩;have C2:=O (show Qc G w w2 from(Qc.refl G w).drew.trans' q);have H2:=O h2;clear h2 q;go_wp2_with fail;refine⟨C2.out,?_⟩;iterate 3 (first|(refine Lk (by kernel_rfl) (by go_simp;try with_reducible rfl) ?_)|(refine Vc (by kernel_rfl) (fun wv hv=>by go_simp;try with_reducible rfl) ?_);try simp only[Act.put,Za,Zc,Zb])
   refine Uk ?_;go_wp2_with fail;refine⟨C2.out.alloc _,?_⟩;obtain⟨W3,s3,ac,C3⟩:=Z1 (P:=prog) (vs:=chO o) (Qh.new w2 #[.int .u64 0,.int .i64 0,.int .i64 0,.int .u64 0,.int .u8 0,.int .u64 0] 50) (Qh3 o) (Qsr _);have D3:=O (show Qc G w W3 from(C2.out.alloc _).trans C3 (fun k e=>.inr (by have:=C2.out.size;omega)));have N3:=O (show Qc Qb w2 W3 from((Qc.refl Qb w2).alloc _).trans C3 (fun k e=>.inr (by omega)));have au:=O ac;clear ac C3;refine Uk ?_;go_wp2_with fail;refine⟨D3.out,?_⟩;refine Uk ?_;go_wp2_with fail;refine⟨D3.out,?_⟩;refine Qdi ?_;clear s3;go_wp2_with fail;go_meet;have cF:=D3.out.sub aa.out;refine⟨⟨_,rfl,au.out,C2.out.size⟩,?_,(H2.out.keep N3.out (Je.none _)).more (fun k d=>d.elim .inl (fun d=>.inr ⟨d.1,Nat.lt_of_lt_of_le d.2 N3.out.size⟩)) (a2.out.ext cF),cF⟩;rfl
  ·go_wp2_with fail;have CA:=O ((Qc.refl Qb w).drew.alloc (.cells #[.int .u64 0,.int .i64 0,.int .i64 0,.int .u64 0,.int .u8 0,.int .u64 0] 50));have BA:=O (show Qh (w.drew.alloc (.cells #[.int .u64 0,.int .i64 0,.int .i64 0,.int .u64 0,.int .u8 0,.int .u64 0] 50)) w.heap.size #[.int .u64 0,.int .i64 0,.int .i64 0,.int .u64 0,.int .u8 0,.int .u64 0] 50 from Qh.new w.drew _ _);refine⟨CA.out.mono (fun k h=>h.elim),?_⟩;refine Uk ?_;go_wp2_with fail;refine(af.out _ CA.out).mono ?_;rintro e w2⟨rfl,h2,q⟩;have C2:=O (show Qc G w w2 from(CA.out.none (F:=G)).trans' q);have H2:=O h2;obtain⟨W3,s3,ac,C3⟩:=Z1 (P:=prog) (vs:=chO o) (q.blk BA.out (fun d=>NG.out _ (Nat.le_refl _) (aa.out _ d))) (Qh3 o) (Qsr _);have au:=O ac;have N3:=O (show Qc (fun k=>k=w.heap.size) w2 W3 from C3);have D3:=O (show Qc G w W3 from C2.out.trans C3 (fun k e=>.inr (by omega)));clear h2 q ac C3;go_wp2_with fail;refine⟨C2.out,?_⟩;iterate 3 (first|(refine Lk (by kernel_rfl) (by go_simp;try with_reducible rfl) ?_)|(refine Vc (by kernel_rfl) (fun wv hv=>by go_simp;try with_reducible rfl) ?_);try simp only[Act.put,Za,Zc,Zb])
   refine Uk ?_;go_wp2_with fail;refine⟨D3.out,?_⟩;refine Uk ?_;go_wp2_with fail;refine⟨D3.out,?_⟩;refine Qdi ?_;clear s3;go_wp2_with fail;go_meet;have cF:=D3.out.sub aa.out;have z1:=CA.out.size;have z2:=N3.out.size;refine⟨⟨_,rfl,au.out,Nat.le_refl _⟩,rfl,(H2.out.keep N3.out (fun k d e=>d.elim (fun d=>NG.out k (by omega) d) (fun d=>by have:=BA.out.lt;omega))).more (fun k d=>d.elim .inl (fun d=>.inr (by omega))) (a2.out.ext cF),cF⟩
 case rest=>
  obtain⟨⟨r,rfl,hR,hr⟩,rfl,K,cW⟩:=hcut;obtain⟨V,hV⟩:=Zx wc;rw[←hV]at hR K cW⊢;clear hV af B a0 a1;have HA:=O K;have CW:=O cW;have HR:=O hR;cases o with
  |none=>
   have bd:=O (show s.next now=(none,s)from by
    have h1:=HO.out;cases hw:s.who now with
    |none=>exact Qj8 hw
    |some x=>
     obtain⟨i,k⟩:=x;obtain⟨_,_,_,h2,_⟩:=Qj7 ok hb hw;rw[h2]at h1;cases h1)
   have y3:V.cell? ⟨b,66,none⟩=some (.bool true):=by rw[K.blk.1.cell];exact O9 _ _ _ _
   have yf:=K.blk.1.frozen 66;obtain⟨r0,r1,r2,r3,r4,r5⟩:=Dm (show Qh V r #[.int .u64 0,.int .i64 0,.int .i64 0,.int .u64 0,.int .u8 0,.int .u64 0] _ from hR);obtain⟨G2,_,_,ab⟩:=K.cells;have a8:Qh (V.setCell ⟨b,66,none⟩ (.bool true)) b (Y6 sb now us true) 32:=by have:=K.blk.1.set 66 (.bool true);rw[Qh2]at this;exact this
   obtain⟨m1,m2⟩:=ab (V.setCell ⟨b,66,none⟩ (.bool true)) now us true ((Qc.refl (fun k=>k=b) V).setCell _ (.inl rfl)) a8;have q:Qc F w (V.setCell ⟨b,66,none⟩ (.bool true)):=cW.trans m2 (fun k d=>d.elim .inl (fun d=>.inr d.1));have z1:=cW.size;have z2:=m2.size;have az:(s.next now).2=s:=by rw[bd.out]
   rw[az]at m1;have U:=O (show Ja (V.setCell ⟨b,66,none⟩ (.bool true)) (Qn F w (V.setCell ⟨b,66,none⟩ (.bool true))) b s∧Qc F w (V.setCell ⟨b,66,none⟩ (.bool true))from⟨⟨sb,us,now,ps,m1.more (fun k d=>Qn.trans z1 z2 k d) (ag.ext q),I,R⟩,q⟩);have a7:=O (And.intro (ok.more (show N≤N+16 by omega)) hb);clear K cW hR a8 m1 m2 q ab z1 z2 az R I ok hb;go_wp2_with fail;exact bodyPost_ret (results_none rfl _ _ _) rfl ⟨rfl,s,U.out.1,a7.out.1,a7.out.2,U.out.2⟩
  |some J=>
   have h1:=HO.out;cases hw:s.who now with
   |none=>rw[Qj8 hw]at h1;cases h1
   |some ir=>
    obtain⟨id,rule⟩:=ir;obtain⟨x,t,hq,ar,hp,ai,i1,bg,av⟩:=Qj7 ok hb hw;rw[ar]at h1;have a3:s.takeC id rule=J:=(Option.some.inj h1).symm;obtain⟨k,rfl⟩:∃k:Nat,id=(k:Int):=⟨id.toNat,by omega⟩;have a9:1≤k:=by omega
    have d:k<64:=by omega
    have al:ps k=x::t:=by rw[R k a9 d,hq]
    have ba:(s.next now).2=s.take k rule:=by rw[ar]
    have aq:=O (ok.next now);have am:=O (fun c hc=>hb c (by rw[←Quy (s:=s) now];exact hc));rw[ba]at K aq am;obtain⟨G2,z,_,_,_⟩:=K.rowOf (c:=k) d;rw[al]at z;obtain⟨b2,o2,E,bk,ap,aj,Z,_,a6,c0,c1,q,c3,be,bi⟩:=z.head;have DR:=(Qc.refl Qb V).drew;have ao:=DR.blk K.blk.1 (fun h=>h);have u:=DR.blk a6 (fun h=>h);have y2:V.drew.cell? ⟨b,2+k,none⟩=some (us k):=by rw[ao.cell];exact Ou _ _ _ _ d
    have yf:=ao.frozen (2+k);have p0:V.drew.cell? ⟨b2,o2,none⟩=some (.int .u64 x.id):=by rw[u.cell];exact c0
    have p1:V.drew.cell? ⟨b2,o2+1,none⟩=some (.int .i64 x.cls):=by rw[u.cell];exact c1
    have p2:V.drew.cell? ⟨b2,o2+2,none⟩=some (.int .i64 x.len):=by rw[u.cell];exact q
    have p3:V.drew.cell? ⟨b2,o2+3,none⟩=some (.int .u64 x.at_):=by rw[u.cell];exact c3
    have a5:J.p=x:=by rw[←a3];exact hp
    obtain⟨q0,q1,q2,q3,q4,q5⟩:=Dm (show Qh V r #[.int .u64 J.p.id,.int .i64 J.p.cls,.int .i64 J.p.len,.int .u64 J.p.at_,.int .u8 J.rule,.int .u64 J.due] _ from hR);obtain⟨r0,r1,r2,r3,r4,r5⟩:=Dm (show Qh V.drew r #[.int .u64 J.p.id,.int .i64 J.p.cls,.int .i64 J.p.len,.int .u64 J.p.at_,.int .u8 J.rule,.int .u64 J.due] _ from DR.blk hR (fun h=>h));rw[a5]at r0 r1 r2 r3 q1;rw[ai]at r1 p1 q1;have U:Hid (∀v,v=.slice (some ⟨b2,o2+4,none⟩) t.length (E-1)∨(t=[]∧v=.slice (some ⟨b2,o2,none⟩) 0 (E-1))→∀w',Qc Qb (V.setCell ⟨b,2+k,none⟩ v) w'→Ja w' (Qn F w w') b (s.take k rule)∧Qc F w w'):=O (fun v hv w' cc=>by
     obtain⟨m1,m2⟩:=K.setRow d (v:=v) (l:=t) (fun G hG=>by
      rw[al]at hG;obtain⟨b3,o3,bj,bl,ah,_,_,_,_,_,_,_,_,aw,ax⟩:=hG.head;rw[ap]at ah;injection ah with e1 e2 e3;injection e1 with e1;injection e1 with e4 e5;subst e3 e4 e5;rcases hv with rfl|⟨e,rfl⟩;·exact aw
      ·exact ax e)
     have q:Qc F w (V.setCell ⟨b,2+k,none⟩ v):=cW.trans m2 (fun k d=>d.elim .inl (fun d=>.inr d.1));have c3:=q.trans cc (fun k d=>d.elim);have bc:(V.setCell ⟨b,2+k,none⟩ v).heap.size≤w'.heap.size:=cc.size;refine⟨⟨sb,upd us k v,now,upd ps k t,(m1.keep cc (Je.none _)).more (fun k d=>(Qn.trans cW.size m2.size k d).elim .inl (fun d=>.inr ⟨d.1,Nat.lt_of_lt_of_le d.2 bc⟩)) (ag.ext c3),I,fun c h1 h2=>?_⟩,c3⟩;rw[av];by_cases e:c=k;·subst e;rw[Qh0,if_pos rfl]
     ·rw[Qh1 _ _ e,if_neg (by omega),R c h1 h2])
    have LT:=O (show t=[]∨0<t.length from by cases t<;>simp);have bb:=O (And.intro aj Z);have bn:=O (And.intro a9 d);have k0:(0:Int)≤(k:Int):=by omega
    have k1:(k:Int)<64:=by omega
    have n1:(0:Int)<((t.length+1:Nat):Int):=by omega
    have n2:(1:Int)≤(t.length:Int)+1:=by omega
    have d1:decide ((k:Int)<0)=false:=by simp
    have d2:decide (63<(k:Int))=false:=by simp;omega
    have d3:((t.length:Int)+1==0)=false:=by simp;omega
    have d4:decide ((t.length:Int)+1=0)=false:=by simp;omega
    rw[ap]at y2;clear DR ao u q0 q2 q3 q4 q5 z ap aj Z a6 c0 c1 q c3 be bi a5 a3 hw hq ar hp ai i1 bg av h1 K cW hR R I ok hb ba al;go_wp2_with fail;refine Qi [(0,0),(0,1),(0,2),(0,3),(0,4),(0,5),(0,6),(0,7),(0,8),(0,9),(0,10),(0,11),(0,12),(0,13),(0,14),(0,15),(0,16),(0,17),(0,18),(0,19),(0,20),(0,21),(0,22),(0,23),(0,24),(0,25),(0,26),(0,27),(0,28)] (by kernel_rfl) (by kernel_rfl) ?_ ?_;·exact fun _ _ _ _ _ h=>h
    simp only[Zs,Zf,Ze,Zd];iterate 7 (refine Zz (by kernel_rfl) (by go_simp;try with_reducible rfl) ?_)
    try simp only[Act.put,Za,Zc,Zb]
    iterate 7 (refine Zz (by kernel_rfl) (by go_simp;try with_reducible rfl) ?_)
    try simp only[Act.put,Za,Zc,Zb]
    iterate 7 (refine Zz (by kernel_rfl) (by go_simp;try with_reducible rfl) ?_)
    try simp only[Act.put,Za,Zc,Zb]
    iterate 8 (refine Zz (by kernel_rfl) (by go_simp;try with_reducible rfl) ?_)
    try simp only[Act.put,Za,Zc,Zb]
    refine Zu ?_;go_wp2_with fail;by_cases a4:E=1
    ·subst a4;have HT:=O (show t=[]from List.eq_nil_of_length_eq_zero (by have:=bb.out.1;omega));refine Qi [(0,0),(0,1),(0,2),(0,3),(0,4),(0,5),(0,6),(0,7),(0,8),(0,9),(0,10),(0,11),(2,12)] (by kernel_rfl) (by kernel_rfl) ?_ ?_;·exact fun _ _ _ _ _ h=>h
     simp only[Zs,Zf,Ze,Zd];iterate 6 (refine Zz (by kernel_rfl) (by go_simp;try with_reducible rfl) ?_)
     try simp only[Act.put,Za,Zc,Zb]
     iterate 6 (refine Zz (by kernel_rfl) (by go_simp;try with_reducible rfl) ?_)
     try simp only[Act.put,Za,Zc,Zb]
     refine Jj ?_;go_wp2_with fail;refine Zu ?_;go_wp2_with fail;have FF:=O (U.out _ (.inr ⟨HT.out,rfl⟩) _ ((Qc.refl Qb _).drew.drew));have HL:=O (show t.length=0 by rw[HT.out];rfl);rw[HL.out];exact bodyPost_end (results_none rfl _ _ _) rfl ⟨rfl,_,FF.out.1,aq.out,am.out,FF.out.2⟩
    ·have bm:(E=1)=False:=by simpa using a4
     refine Qi [(0,0),(0,1),(0,2),(0,3),(0,4),(0,5),(0,6),(0,7),(0,8),(0,9),(0,10),(0,11),(2,12)] (by kernel_rfl) (by kernel_rfl) ?_ ?_;·exact fun _ _ _ _ _ h=>h
     simp only[Zs,Zf,Ze,Zd];iterate 6 (refine Zz (by kernel_rfl) (by go_simp;try with_reducible rfl) ?_)
     try simp only[Act.put,Za,Zc,Zb]
     iterate 6 (refine Zz (by kernel_rfl) (by go_simp;try with_reducible rfl) ?_)
     try simp only[Act.put,Za,Zc,Zb]
     refine Jj ?_;go_wp2_with fail;refine Zu ?_;go_wp2_with fail;have FF:=O (U.out _ (.inl rfl) _ ((Qc.refl Qb _).drew.drew));exact bodyPost_end (results_none rfl _ _ _) rfl ⟨rfl,_,FF.out.1,aq.out,am.out,FF.out.2⟩
end
end
section
attribute [local go_sem] Qq
attribute [local go_sem ↓] Xe Xn
attribute [local irreducible] Y4 Jm Jw
structure Yg where
 kind:Int
 s:Xm
 p:Z4
 after:Nat
def Yg.cells(a:Yg):List Value:=[.int .u8 a.kind,.int .i64 a.s.id,.int .i64 a.s.par,.bool a.s.leaf,.int .u64 (a.s.real.f:Int),.int .u64 (a.s.real.l:Int),.int .u64 (a.s.real.r:Int),.int .u64 (a.s.share.f:Int),.int .u64 (a.s.share.l:Int),.int .u64 (a.s.share.r:Int),.int .u64 (a.s.upper.f:Int),.int .u64 (a.s.upper.l:Int),.int .u64 (a.s.upper.r:Int),.int .i64 a.s.pk,.int .i64 a.s.bt,.int .u64 a.p.id,.int .i64 a.p.cls,.int .i64 a.p.len,.int .u64 a.p.at_,.int .u64 (a.after:Int)]
def Yg.wf(a:Yg):Prop:=0≤a.kind∧a.kind<256∧a.after<18446744073709551616
def Yg.withId(a:Yg)(i:Int):Yg:={a with s:={a.s with id:=i}}
def Yg.withCls(a:Yg)(i:Int):Yg:={a with p:={a.p with cls:=i}}
theorem Qh.at{w:World}{b:Nat}{cs:Array Value}{t:TypeId}(h:Qh w b cs t)(j:Nat){v:Value}(c:cs[j]? =some v):w.cell? ⟨b,j,none⟩=some v:=by rw[h.cell];exact c
theorem Qvb(x:Int):∃m:Nat,m<63∧(IntKind.u64.wrap x).tmod 63=(m:Int)∧Go.RowKit.wrap64 (m:Int)=(m:Int)∧Go.RowKit.wrap64 (1+(m:Int))=1+(m:Int):=by
 have h0:0≤IntKind.u64.wrap x:=by rw[IntKind.wrap_u64];omega
 refine⟨(IntKind.u64.wrap x%63).toNat,by omega,?_,?_,?_⟩;·rw[Int.tmod_eq_emod_of_nonneg h0];omega
 ·unfold Go.RowKit.wrap64;omega
 ·unfold Go.RowKit.wrap64;omega
theorem Jv.fine{w:World}{F:Fp}{b sb now:Nat}{us vs:Nat→Value}{s:Qg}{ps:Nat→List Z4}(h:Jv sb us vs w F b s now true ps):Jv sb us vs (w.setCell ⟨b,66,none⟩ (.bool true)) (Qn F w (w.setCell ⟨b,66,none⟩ (.bool true))) b s now true ps∧Qc F w (w.setCell ⟨b,66,none⟩ (.bool true)):=by obtain⟨G,_,_,c⟩:=h.cells;have d:=h.blk.1.set 66 (.bool true);rw[Qh2]at d;exact c _ now us true ((Qc.refl (fun k=>k=b) w).setCell (a:=⟨b,66,none⟩) _ (.inl rfl)) d
theorem Jv.putRow{w w':World}{F G:Fp}{b sb now c:Nat}{us:Nat→Value}{s:Qg}{ps:Nat→List Z4}(h:Jv sb us us w F b s now true ps)(hc:c<64){v:Value}{l:List Z4}
  (q:∀w' v' l',Vu v' l' w' (Qn G w w')→Qc G w w'→Jv sb us (upd us c v') w' (Qn F w w') b s now true (upd ps c l')∧Qc F w w')(h1:Vu v l w' (Qn G w w'))(J:Qc G w w'):
  Jv sb (upd us c v) (upd us c v) (w'.setCell ⟨b,2+c,none⟩ v) (Qn F w (w'.setCell ⟨b,2+c,none⟩ v)) b s now true (upd ps c l)∧Qc F w (w'.setCell ⟨b,2+c,none⟩ v):=by
 obtain⟨k1,k2⟩:=q w' v l h1 J;obtain⟨K,_,_,d⟩:=k1.cells;have z:=k1.blk.1.set (2+c) v;rw[Qj9 _ _ _ _ hc]at z;obtain⟨I,E⟩:=d _ now (upd us c v) true ((Qc.refl (fun k=>k=b) w').setCell (a:=⟨b,2+c,none⟩) _ (.inl rfl)) z;have B:=k2.trans E (fun k u=>u.elim .inl (fun u=>.inr u.1));exact⟨I.more (fun k u=>Qn.trans k2.size E.size k u) (h.bd.ext B),B⟩
structure Qyw(w:World)(F:Fp)(b sb:Nat)(us:Nat→Value)(s:Qg)(ps:Nat→List Z4)(a:Yg)(now m:Nat)(W W1 W2:World)(F2:Fp)(now':Nat):Prop where
 hW:W=w.alloc (.cells a.cells.toArray 74)
 a1:W.drew.cell? ⟨b,1,none⟩=some (.int .u64 (now:Int))
 af:W.drew.frozen? ⟨b,1,none⟩=false
 c19:W.drew.cell? ⟨w.heap.size,19,none⟩=some (.int .u64 (a.after:Int))
 e1:min ((now:Int)+(a.after:Int)%64) 1099511627776=(now':Int)
 hW1:W1=(W.setCell ⟨b,1,none⟩ (.int .u64 (now':Int))).drew
 k0:W1.cell? ⟨w.heap.size,0,none⟩=some (.int .u8 a.kind)
 k1:W1.cell? ⟨w.heap.size,1,none⟩=some (.int .i64 a.s.id)
 kf:W1.frozen? ⟨w.heap.size,1,none⟩=false
 hW2:W2=W1.setCell ⟨w.heap.size,1,none⟩ (.int .i64 (1+(m:Int)))
 k2:W2.cell? ⟨w.heap.size,0,none⟩=some (.int .u8 a.kind)
 act1:Qh W1 w.heap.size a.cells.toArray 74
 game:Jv sb us us W2 F2 b s now' true ps
 act:Qh W2 w.heap.size (a.withId (1+(m:Int))).cells.toArray 74
 off:¬F2 w.heap.size
 le:now'≤1099511627776
 lift:∀w' s',Ja w' (Qn F2 W2 w') b s'→Qc (fun k=>F2 k∨k=w.heap.size) W2 w'→Ja w' (Qn F w w') b s'∧Qc F w w'
theorem Ev{w:World}{F:Fp}{b sb now:Nat}{us:Nat→Value}{s:Qg}{ps:Nat→List Z4}(h:Jv sb us us w F b s now true ps)(ac:now≤1099511627776)(a:Yg)(m:Nat):∃W q B F2 c,Qyw w F b sb us s ps a now m W q B F2 c:=by
 have ae:b<w.heap.size:=h.bd _ h.blk.2;obtain⟨W,hW⟩:=Zx (w.alloc (.cells a.cells.toArray 74));have J:Qc Qb w W:=by rw[hW];exact(Qc.refl _ _).alloc _
 have R:Qh W w.heap.size a.cells.toArray 74:=by rw[hW];exact Qh.new _ _ _
 have V:=h.keep J (Je.none F);obtain⟨c,af⟩:∃n:Nat,n=min (now+a.after%64) 1099511627776:=⟨_,rfl⟩;have dr:=(Qc.refl Qb W).drew;have E:=dr.blk V.blk.1 (fun h=>h);have U:=dr.blk R (fun h=>h);obtain⟨q,hW1⟩:=Zx ((W.setCell ⟨b,1,none⟩ (.int .u64 (c:Int))).drew);obtain⟨g1,q1⟩:Jv sb us us q (Qn F W q) b s c true ps∧Qc F W q:=by obtain⟨G,_,_,u⟩:=V.cells;have hB:=V.blk.1.set 1 (.int .u64 (c:Int));rw[Qva]at hB;rw[hW1];exact u _ c us true (((Qc.refl (fun k=>k=b) W).setCell (a:=⟨b,1,none⟩) _ (.inl rfl)).drew) ((Qc.refl Qb _).drew.blk hB (fun h=>h))
 have bF:Bd F w:=h.bd;have nF:¬F w.heap.size:=fun d=>by have:=bF _ d;omega
 have b1:Qh q w.heap.size a.cells.toArray 74:=q1.blk R nF;obtain⟨B,hW2⟩:=Zx (q.setCell ⟨w.heap.size,1,none⟩ (.int .i64 (1+(m:Int))));have z:Qc (fun k=>k=w.heap.size) q B:=by rw[hW2];exact(Qc.refl (fun k=>k=w.heap.size) q).setCell (a:=⟨w.heap.size,1,none⟩) _ (.inl rfl)
 have b2:Qh B w.heap.size (a.withId (1+(m:Int))).cells.toArray 74:=by rw[hW2];exact b1.set' 1 (.int .i64 (1+(m:Int))) rfl
 have Jl:=R.lt;have I:¬Qn F W q w.heap.size:=fun d=>d.elim nF fun e=>by omega
 have g2:=g1.keep z (fun k d e=>I (e▸d));refine⟨W,q,B,Qn F W q,c,hW,by rw[E.cell];rfl,E.frozen 1,U.at 19 rfl,by omega,hW1,b1.at 0 rfl,b1.at 1 rfl,b1.frozen 1,hW2,b2.at 0 rfl,b1,g2,b2,I,by omega,fun w' s'⟨Z,aa,n',K,hg,ab,hq⟩hc=>?_⟩;have c1:Qc F w q:=J.none.trans' q1;have c2:Qc F w B:=c1.trans z (fun k e=>.inr (by omega));have c3:Qc F w w':=c2.trans hc (fun k d=>d.elim (fun d=>d.elim .inl (fun e=>.inr (by have:=J.size;omega))) (fun e=>.inr (by omega)));have z1:=J.size;have z2:=q1.size;have z3:=z.size;have z4:=hc.size;exact⟨⟨Z,aa,n',K,hg.more (fun k d=>by
  rcases d with(d|d)|d;·exact .inl d
  ·exact .inr ⟨by omega,by omega⟩
  ·exact .inr ⟨by omega,d.2⟩) (bF.ext c3),ab,hq⟩,c3⟩
theorem Yg.spec_cells{w:World}{r:Nat}{a:Yg}{t:TypeId}(h:Qh w r a.cells.toArray t):w.cell? ⟨r,1,none⟩=some (.int .i64 a.s.id)∧w.cell? ⟨r,2,none⟩=some (.int .i64 a.s.par)∧w.cell? ⟨r,3,none⟩=some (.bool a.s.leaf)∧w.cell? ⟨r,4,none⟩=some (.int .u64 (a.s.real.f:Int))∧w.cell? ⟨r,5,none⟩=some (.int .u64 (a.s.real.l:Int))∧w.cell? ⟨r,6,none⟩=some (.int .u64 (a.s.real.r:Int))∧w.cell? ⟨r,7,none⟩=some (.int .u64 (a.s.share.f:Int))∧w.cell? ⟨r,8,none⟩=some (.int .u64 (a.s.share.l:Int))∧w.cell? ⟨r,9,none⟩=some (.int .u64 (a.s.share.r:Int))∧w.cell? ⟨r,10,none⟩=some (.int .u64 (a.s.upper.f:Int))∧w.cell? ⟨r,11,none⟩=some (.int .u64 (a.s.upper.l:Int))∧w.cell? ⟨r,12,none⟩=some (.int .u64 (a.s.upper.r:Int))∧w.cell? ⟨r,13,none⟩=some (.int .i64 a.s.pk)∧w.cell? ⟨r,14,none⟩=some (.int .i64 a.s.bt):=
 ⟨h.at 1 rfl,h.at 2 rfl,h.at 3 rfl,h.at 4 rfl,h.at 5 rfl,h.at 6 rfl,h.at 7 rfl,h.at 8 rfl,h.at 9 rfl,h.at 10 rfl,h.at 11 rfl,h.at 12 rfl,h.at 13 rfl,h.at 14 rfl⟩
section
variable{w:World}{F:Fp}{b:Nat}{s:Qg}{N:Nat}
theorem Qow(h:Ja w F b s)(ok:X6 N s)(hb:∀c∈s.tree,c.sp.id<64)(hN:N<549755813000)(a:Yg)(hw:a.wf)(hk:a.kind%6=0):
  Cl 29 #[ptr b,.agg a.cells.toArray] w fun e w'=>e=.returned (.tuple #[])∧∃s',Ja w' (Qn F w w') b s'∧X6 (N+16) s'∧(∀c∈s'.tree,c.sp.id<64)∧Qc F w w':=by
 obtain⟨sb,us,now,ps,h,B,K⟩:=h;obtain⟨m,hm,i1,i2,i3⟩:=Qvb a.s.id;obtain⟨W,W1,I,F2,ae,PP⟩:=Ev h B a m;obtain⟨hW,a1,af,c19,e1,hW1,k0,k1,kf,hW2,k2,J,ac,E,aj,ai,d⟩:=PP;have q:∀w' s',Ja w' (Qn F2 I w') b s'→Qc F2 I w'→Ja w' (Qn F w w') b s'∧Qc F w w':=fun w' s' g c=>d w' s' g (c.sub fun k hk=>.inl hk);have z:=ac.keep (Qc.refl Qb I).drew (Je.none F2);have u:=(Qc.refl Qb I).drew.blk E (fun h=>h);have D2:=O (Qc.refl Qb I).drew;obtain⟨c,hc⟩:∃c:Xm,c=⟨1+(m:Int),a.s.par,a.s.leaf,a.s.real,a.s.share,a.s.upper,a.s.pk,a.s.bt⟩:=⟨_,rfl⟩;have V:Hid (Cl 27 #[ptr sb,spV c] I.drew fun e w'=>e=.returned (.int .i64 (s.addE c))∧Ja w' (Qn F w w') b (s.add c)∧Qc F w w'):=O (by
  obtain⟨G,hS,hG,al,ag⟩:=z.sched;refine(Qdw hS ok c).mono ?_;rintro e w3⟨rfl,h3,c3⟩;obtain⟨m1,m2⟩:=ag w3 _ h3 c3;exact⟨rfl,q w3 _ ⟨sb,us,ae,ps,m1,ai,fun k h1 h2=>by rw[Qyp ok];exact K k h1 h2⟩ m2.undrew⟩)
 have aa:Hid (X6 (N+16) (s.add c)):=O (by
  by_cases h0:s.addE c=0;·exact(ok.add h0).more (by omega)
  ·rw[Qli h0];exact ok.more (by omega))
 have Z:=O (Qyq hb (c:=c) (by rw[hc];show 1+(m:Int)<64;omega));generalize s.addE c=er at V;generalize s.add c=s2 at V aa Z;unfold spV at V;rw[hc]at V;clear hc;have e3:a.kind.tmod 6=0:=by rw[Int.tmod_eq_emod_of_nonneg hw.1];exact hk
 have b0:I.drew.cell? ⟨b,0,none⟩=some (ptr sb):=z.blk.1.at 0 rfl;obtain⟨x1,x2,x3,x4,x5,x6,x7,x8,x9,U,ab,ak,R,ah⟩:=Yg.spec_cells u;dsimp only[Yg.withId]at x1 x2 x3 x4 x5 x6 x7 x8 x9 U ab ak R ah;clear z u;have HB:=O hb;have OK:=O ok;clear ac J E aj q d ai K h ok hb;unfold ptr at*;unfold Yg.cells at hW;unfold Yg.cells;go_enter func29,ntmps29;go_wp2_with fail;rw[←hW];clear hW k2;refine Qi [(0,0),(0,1),(0,2),(0,3),(0,4),(0,5),(0,6),(0,7),(0,8),(0,9),(0,10),(0,11),(2,12)] (by kernel_rfl) (by kernel_rfl) ?_ ?_;·exact fun _ _ _ _ _ h=>h
 simp only[Zs,Zf,Ze,Zd];iterate 6 (refine Zz (by kernel_rfl) (by go_simp;try with_reducible rfl) ?_)
 try simp only[Act.put,Za,Zc,Zb]
 iterate 6 (refine Zz (by kernel_rfl) (by go_simp;try with_reducible rfl) ?_)
 try simp only[Act.put,Za,Zc,Zb]
 refine Jj ?_;go_wp2_with fail;refine Zu ?_;first|rw[←hW1]|rw[e1,←hW1]
 clear hW1 e1 B a1 c19 af;go_wp2_with fail;rw[←hW2];clear hW2 k0 k1 kf;refine Qi [(0,0),(0,1),(0,2),(0,3),(0,4),(0,5),(2,6)] (by kernel_rfl) (by kernel_rfl) ?_ ?_;·exact fun _ _ _ _ _ h=>h
 simp only[Zs,Zf,Ze,Zd];iterate 6 (refine Zz (by kernel_rfl) (by go_simp;try with_reducible rfl) ?_)
 try simp only[Act.put,Za,Zc,Zb]
 clear x1 x2 x3 x4 x5 x6 x7 x8 x9 U ab ak R ah b0;refine Jj ?_;go_wp2_with fail;refine V.out.mono ?_;rintro e w3⟨rfl,h3⟩;have H3:=O h3;clear h3;go_wp2_with fail;refine Zu ?_;go_wp2_with fail;exact bodyPost_end (results_none rfl _ _ _) rfl ⟨rfl,_,H3.out.1,aa.out,Z.out,H3.out.2⟩
theorem Qox(h:Ja w F b s)(ok:X6 N s)(hb:∀c∈s.tree,c.sp.id<64)(hN:N<549755813000)(a:Yg)(hw:a.wf)(hk:4≤a.kind%6):
  Cl 29 #[ptr b,.agg a.cells.toArray] w fun e w'=>e=.returned (.tuple #[])∧∃s',Ja w' (Qn F w w') b s'∧X6 (N+16) s'∧(∀c∈s'.tree,c.sp.id<64)∧Qc F w w':=by
 obtain⟨sb,us,now,ps,h,u,K⟩:=h;obtain⟨m,hm,i1,i2,i3⟩:=Qvb a.s.id;obtain⟨W,W1,J,F2,U,PP⟩:=Ev h u a m;obtain⟨hW,a1,af,c19,e1,hW1,k0,k1,kf,hW2,k2,I,E,z,Z,V,d⟩:=PP;have q:∀w' s',Ja w' (Qn F2 J w') b s'→Qc F2 J w'→Ja w' (Qn F w w') b s'∧Qc F w w':=fun w' s' g c=>d w' s' g (c.sub fun k hk=>.inl hk);have R:=E.keep (Qc.refl Qb J).drew (Je.none F2);have B:=(Qc.refl Qb J).drew.blk z (fun h=>h);have D2:=O (Qc.refl Qb J).drew;have HC:Hid (∀w',w'=J→Cl 77 #[ptr b] w' fun e w'=>e=.returned (.tuple #[])∧∃s',Ja w' (Qn F w w') b s'∧X6 (N+16) s'∧(∀c∈s'.tree,c.sp.id<64)∧Qc F w w'):=O (by
  rintro w' rfl;refine(Qlu ⟨sb,us,U,ps,E,V,K⟩ ok hb hN).mono ?_;rintro e w3⟨rfl,s3,g3,o3,i3,c3⟩;obtain⟨m1,m2⟩:=q w3 s3 g3 c3;exact⟨rfl,s3,m1,o3,i3,m2⟩)
 have e3:(a.kind.tmod 6==0)=false∧(a.kind.tmod 6==1)=false∧(a.kind.tmod 6==2)=false∧(a.kind.tmod 6==3)=false:=by rw[Int.tmod_eq_emod_of_nonneg hw.1];simp;omega
 obtain⟨e4,e5,e6,e7⟩:=e3;clear R B;have HB:=O hb;have OK:=O ok;clear E I z Z q d V K h ok hb;unfold ptr at*;unfold Yg.cells at hW;unfold Yg.cells;go_enter func29,ntmps29;go_wp2_with fail;rw[←hW];clear hW k2;refine Qi [(0,0),(0,1),(0,2),(0,3),(0,4),(0,5),(0,6),(0,7),(0,8),(0,9),(0,10),(0,11),(2,12)] (by kernel_rfl) (by kernel_rfl) ?_ ?_;·exact fun _ _ _ _ _ h=>h
 simp only[Zs,Zf,Ze,Zd];iterate 6 (refine Zz (by kernel_rfl) (by go_simp;try with_reducible rfl) ?_)
 try simp only[Act.put,Za,Zc,Zb]
 iterate 6 (refine Zz (by kernel_rfl) (by go_simp;try with_reducible rfl) ?_)
 try simp only[Act.put,Za,Zc,Zb]
 refine Jj ?_;go_wp2_with fail;refine Zu ?_;first|rw[←hW1]|rw[e1,←hW1]
 clear hW1 e1 u a1 c19 af;go_wp2_with fail;rw[←hW2];clear hW2 k0 k1 kf;refine(HC.out _ rfl).mono ?_;rintro e w3⟨rfl,h3⟩;have H3:=O h3;clear h3;go_wp2_with fail;exact bodyPost_end (results_none rfl _ _ _) rfl ⟨rfl,H3.out⟩
end
section
variable{w:World}{F:Fp}{b:Nat}{s:Qg}{N:Nat}
theorem Qoy(h:Ja w F b s)(ok:X6 N s)(hb:∀c∈s.tree,c.sp.id<64)(hN:N<549755813000)(a:Yg)(hw:a.wf)(R:a.kind%6=1):
  Cl 29 #[ptr b,.agg a.cells.toArray] w fun e w'=>e=.returned (.tuple #[])∧∃s',Ja w' (Qn F w w') b s'∧X6 (N+16) s'∧(∀c∈s'.tree,c.sp.id<64)∧Qc F w w':=by
 obtain⟨sb,us,now,ps,h,ac,ak⟩:=h;obtain⟨m,hm,i1,i2,i3⟩:=Qvb a.s.id;obtain⟨W,W1,z,U,u,PP⟩:=Ev h ac a m;obtain⟨hW,a1,af,c19,e1,hW1,k0,k1,kf,hW2,k2,ab,ah,J,ae,ar,d⟩:=PP;have I:∀w' s',Ja w' (Qn U z w') b s'→Qc U z w'→Ja w' (Qn F w w') b s'∧Qc F w w':=fun w' s' g c=>d w' s' g (c.sub fun k R=>.inl R);have aa:=ah.keep (Qc.refl Qb z).drew (Je.none U);have ag:=(Qc.refl Qb z).drew.blk J (fun h=>h);have D2:=O (Qc.refl Qb z).drew;obtain⟨c,hc⟩:∃c:Xm,c=⟨1+(m:Int),a.s.par,a.s.leaf,a.s.real,a.s.share,a.s.upper,a.s.pk,a.s.bt⟩:=⟨_,rfl⟩;have V:Hid (Cl 51 #[ptr sb,spV c] z.drew fun e w'=>e=.returned (.int .i64 (s.changeE c))∧Jv sb us us w' (Qn U z w') b (s.change c) u true ps∧Qc U z w'):=O (by
  obtain⟨G,hS,hG,a0,ax⟩:=aa.sched;refine(Qlt hS ok c).mono ?_;rintro e w3⟨rfl,B,E⟩;obtain⟨m1,m2⟩:=ax w3 _ B E;exact⟨rfl,m1,m2.undrew⟩)
 have LF:Hid (∀w3,Jv sb us us w3 (Qn U z w3) b (s.change c) u true ps→Qc U z w3→Ja w3 (Qn F w w3) b (s.change c)∧Qc F w w3):=O (fun w3 B E=>
  I w3 _ ⟨sb,us,u,ps,B,ar,fun k h1 h2=>by rw[Qhk];exact ak k h1 h2⟩ E)
 have ai:=O (Qra hb c);have e4:(a.kind.tmod 6==0)=false∧a.kind.tmod 6=1:=by rw[Int.tmod_eq_emod_of_nonneg hw.1];simp;omega
 obtain⟨e4,e5⟩:=e4;have ay:=O (fun w3(E:Qc U z w3)=>E.blk J ae);have b0:z.drew.cell? ⟨b,0,none⟩=some (ptr sb):=aa.blk.1.at 0 rfl;obtain⟨x1,x2,x3,x4,x5,x6,x7,x8,x9,al,ap,au,ao,aq⟩:=Yg.spec_cells ag;dsimp only[Yg.withId]at x1 x2 x3 x4 x5 x6 x7 x8 x9 al ap au ao aq;clear aa ag;by_cases h0:s.changeE c=0
 ·have am:=ok.change h0;have HM:Hid ((s.change c).many (1+(m:Int))=0):=O (by
   have:=Qoi ok h0 (1+(m:Int));rw[this];have hi:c.id=1+(m:Int):=by rw[hc]
   have:=(Gj h0).1;rw[hi]at this;exact Quu this)
  have HW:Hid (∀w3,Jv sb us us w3 (Qn U z w3) b (s.change c) u true ps→Cl 11 #[ptr sb,.int .i64 (1+(m:Int))] w3 fun e w'=>∃q:Int,e=.returned (.tuple #[.int .i64 0,.int .i64 q])∧Qc Qb w3 w'):=O (fun w3 B=>by
   obtain⟨G,⟨A,hS⟩,_⟩:=B.sched;refine(Dr hS am (1+(m:Int))).mono ?_;rintro e K⟨rfl,Z⟩;exact⟨_,by rw[HM.out],Z⟩)
  have aj:Hid (X6 (N+16) (s.change c)):=O (am.more (by omega));have an:Hid (∀w3 K,Jv sb us us w3 (Qn U z w3) b (s.change c) u true ps→Qc U z w3→Qc Qb w3 K→Ja (K.setCell ⟨b,66,none⟩ (.bool true)) (Qn F w (K.setCell ⟨b,66,none⟩ (.bool true))) b (s.change c)∧Qc F w (K.setCell ⟨b,66,none⟩ (.bool true))):=O (fun w3 K B E Z=>by
   obtain⟨m1,m2⟩:=(B.keep Z (Je.none _)).fine;have c5:Qc U z (K.setCell ⟨b,66,none⟩ (.bool true)):=(E.trans' Z.none).trans m2 (fun k R=>R.elim .inl (fun R=>.inr R.1));exact LF.out _ (m1.more (fun k R=>by
    have z1:=E.size;have z2:=Z.size;have z3:=m2.size;rcases R with(R|R)|R;·exact .inl R
    ·exact .inr ⟨R.1,by omega⟩
    ·exact .inr ⟨by omega,R.2⟩) (ah.bd.ext c5)) c5)
  rw[h0]at V;generalize s.change c=s2 at V aj ai HW an HM LF;clear am h0;unfold spV at V;rw[hc]at V;clear hc;have HB:=O hb;have OK:=O ok;clear ah ab J ae I d ar ak h ok hb;unfold ptr at*;unfold Yg.cells at hW;unfold Yg.cells;go_enter func29,ntmps29;go_wp2_with fail;rw[←hW];clear hW k2;refine Qi [(0,0),(0,1),(0,2),(0,3),(0,4),(0,5),(0,6),(0,7),(0,8),(0,9),(0,10),(0,11),(2,12)] (by kernel_rfl) (by kernel_rfl) ?_ ?_;·exact fun _ _ _ _ _ h=>h
  simp only[Zs,Zf,Ze,Zd];iterate 6 (refine Zz (by kernel_rfl) (by go_simp;try with_reducible rfl) ?_)
  try simp only[Act.put,Za,Zc,Zb]
  iterate 6 (refine Zz (by kernel_rfl) (by go_simp;try with_reducible rfl) ?_)
  try simp only[Act.put,Za,Zc,Zb]
  refine Jj ?_;go_wp2_with fail;refine Zu ?_;first|rw[←hW1]|rw[e1,←hW1]
  clear hW1 e1 ac a1 c19 af;go_wp2_with fail;rw[←hW2];clear hW2 k0 k1 kf;refine Qi [(0,0),(0,1),(0,2),(0,3),(0,4),(0,5),(2,6),(0,7)] (by kernel_rfl) (by kernel_rfl) ?_ ?_;·exact fun _ _ _ _ _ h=>h
  simp only[Zs,Zf,Ze,Zd];iterate 6 (refine Zz (by kernel_rfl) (by go_simp;try with_reducible rfl) ?_)
  try simp only[Act.put,Za,Zc,Zb]
  clear x1 x2 x3 x4 x5 x6 x7 x8 x9 al ap au ao aq b0;refine Jj ?_;go_wp2_with fail;refine V.out.mono ?_;rintro e w3⟨rfl,B,E⟩;have H3:=O B;have C3:=O E;have av:=O (fun K(Z:Qc Qb w3 K)=>Z.blk B.blk.1 (fun h=>h));have az:=O (fun K(Z:Qc Qb w3 K)=>Z.blk (ay.out w3 E) (fun h=>h));have D3:=O (Qc.refl Qb w3).drew;have b0:w3.drew.cell? ⟨b,0,none⟩=some (ptr sb):=(av.out _ D3.out).at 0 rfl;have x1:w3.drew.cell? ⟨w.heap.size,1,none⟩=some (.int .i64 (1+(m:Int))):=(az.out _ D3.out).at 1 rfl;have aw:=O (HW.out w3.drew (B.keep (Qc.refl Qb w3).drew (Je.none _)));unfold ptr at*;clear B E V HW;go_wp2_with fail;refine Zz (by kernel_rfl) (by go_simp;try with_reducible rfl) ?_;try simp only[Act.put,Za,Zc,Zb]
  refine Zu ?_;go_wp2_with fail;refine Z9 [(0,0),(0,1),(0,2),(0,3),(0,4),(0,5),(0,6),(2,7),(0,8),(0,9),(1,10),(2,11),(3,12)] (fun wv=>Qc (Qb) (w3) wv) (by kernel_rfl) (by kernel_rfl) ?_ (by(repeat' (first|(with_reducible first|exact Zg _ _|assumption|refine Zh ?_ _|refine Zi ?_ _|refine Zj ?_ |refine Zk ?_ _ ?_ |(apply Or.inl;rfl))|(apply Or.inl;simp;done)|(apply Or.inr;simp;first|done|omega)))) ?_;·exact fun _ _ _ _ _ h=>h
  simp only[Zs,Zf,Ze,Zd];iterate 7 (refine Jr (by kernel_rfl) (by go_simp;try with_reducible rfl) ?_)
  try simp only[Act.put,Za,Zc,Zb]
  clear b0 x1;refine Yc ?_;go_wp2_with fail;refine aw.out.mono ?_;rintro e K⟨q,rfl,Z⟩;have C4:=O (D3.out.trans' Z);clear Z aw;go_wp2_with fail;refine⟨C4.out,?_⟩;iterate 2 (refine Jr (by kernel_rfl) (by go_simp;try with_reducible rfl) ?_)
  (refine Q4 (by kernel_rfl) (fun wv hv=>by go_simp;try with_reducible rfl) ?_;try simp only[Act.put,Za,Zc,Zb]);try simp only[Act.put,Za,Zc,Zb]
  refine Yc ?_;go_wp2_with fail;refine⟨C4.out,?_⟩;refine V5 ?_;go_wp2_with fail;refine K8 ?_;have f0:K.cell? ⟨b,66,none⟩=some (.bool true):=(av.out _ C4.out).at 66 (O9 _ _ _ _);have ff:=(av.out _ C4.out).frozen 66;have FF:=O (an.out w3 K H3.out C3.out C4.out);clear an;go_wp2_with fail;exact bodyPost_end (results_none rfl _ _ _) rfl ⟨rfl,_,FF.out.1,aj.out,ai.out,FF.out.2⟩
 ·rw[Qah h0]at V LF ai;have aj:Hid (X6 (N+16) s):=O (ok.more (by omega));have e6:(s.changeE c==0)=false:=by simpa using h0
  generalize s.changeE c=er at V e6;clear h0;unfold spV at V;rw[hc]at V;clear hc;have HB:=O hb;have OK:=O ok;clear ah ab J ae I d ar ak h ok hb;unfold ptr at*;unfold Yg.cells at hW;unfold Yg.cells;go_enter func29,ntmps29;go_wp2_with fail;rw[←hW];clear hW k2;refine Qi [(0,0),(0,1),(0,2),(0,3),(0,4),(0,5),(0,6),(0,7),(0,8),(0,9),(0,10),(0,11),(2,12)] (by kernel_rfl) (by kernel_rfl) ?_ ?_;·exact fun _ _ _ _ _ h=>h
  simp only[Zs,Zf,Ze,Zd];iterate 6 (refine Zz (by kernel_rfl) (by go_simp;try with_reducible rfl) ?_)
  try simp only[Act.put,Za,Zc,Zb]
  iterate 6 (refine Zz (by kernel_rfl) (by go_simp;try with_reducible rfl) ?_)
  try simp only[Act.put,Za,Zc,Zb]
  refine Jj ?_;go_wp2_with fail;refine Zu ?_;first|rw[←hW1]|rw[e1,←hW1]
  clear hW1 e1 ac a1 c19 af;go_wp2_with fail;rw[←hW2];clear hW2 k0 k1 kf;refine Qi [(0,0),(0,1),(0,2),(0,3),(0,4),(0,5),(2,6),(0,7)] (by kernel_rfl) (by kernel_rfl) ?_ ?_;·exact fun _ _ _ _ _ h=>h
  simp only[Zs,Zf,Ze,Zd];iterate 6 (refine Zz (by kernel_rfl) (by go_simp;try with_reducible rfl) ?_)
  try simp only[Act.put,Za,Zc,Zb]
  clear x1 x2 x3 x4 x5 x6 x7 x8 x9 al ap au ao aq b0;refine Jj ?_;go_wp2_with fail;refine V.out.mono ?_;rintro e w3⟨rfl,B,E⟩;have FF:=O (LF.out w3 B E);clear B E V;go_wp2_with fail;refine Zz (by kernel_rfl) (by go_simp;try with_reducible rfl) ?_;try simp only[Act.put,Za,Zc,Zb]
  refine Zu ?_;go_wp2_with fail;exact bodyPost_end (results_none rfl _ _ _) rfl ⟨rfl,_,FF.out.1,aj.out,ai.out,FF.out.2⟩
end
section
variable{w:World}{F:Fp}{b:Nat}{s:Qg}{N:Nat}
theorem Qoz(h:Ja w F b s)(ok:X6 N s)(hb:∀c∈s.tree,c.sp.id<64)(hN:N<549755813000)(a:Yg)(hw:a.wf)(z:a.kind%6=2):
  Cl 29 #[ptr b,.agg a.cells.toArray] w fun e w'=>e=.returned (.tuple #[])∧∃s',Ja w' (Qn F w w') b s'∧X6 (N+16) s'∧(∀c∈s'.tree,c.sp.id<64)∧Qc F w w':=by
 obtain⟨sb,us,now,ps,h,V,ag⟩:=h;obtain⟨m,hm,i1,i2,i3⟩:=Qvb a.s.id;obtain⟨W,W1,q,R,E,PP⟩:=Ev h V a m;obtain⟨hW,a1,af,c19,e1,hW1,k0,k1,kf,hW2,k2,ae,aa,I,ac,ak,d⟩:=PP;have u:∀w' s',Ja w' (Qn R q w') b s'→Qc R q w'→Ja w' (Qn F w w') b s'∧Qc F w w':=fun w' s' g c=>d w' s' g (c.sub fun k z=>.inl z);have Z:=aa.keep (Qc.refl Qb q).drew (Je.none R);have U:=(Qc.refl Qb q).drew.blk I (fun h=>h);have D2:=O (Qc.refl Qb q).drew;have HC:Hid (Cl 52 #[ptr sb,.int .i64 (1+(m:Int))] q.drew fun e w'=>e=.returned (.int .i64 (s.dropE (1+(m:Int))))∧Jv sb us us w' (Qn R q w') b (s.drop (1+(m:Int))) E true ps∧Qc R q w'):=O (by
  obtain⟨G,hS,hG,ar,ab⟩:=Z.sched;refine(Qrl hS ok (1+(m:Int))).mono ?_;rintro e w3⟨rfl,K,B⟩;obtain⟨m1,m2⟩:=ab w3 _ K B;exact⟨rfl,m1,m2.undrew⟩)
 have LF:Hid (∀w3,Jv sb us us w3 (Qn R q w3) b (s.drop (1+(m:Int))) E true ps→Qc R q w3→Ja w3 (Qn F w w3) b (s.drop (1+(m:Int)))∧Qc F w w3):=O (fun w3 K B=>
  u w3 _ ⟨sb,us,E,ps,K,ak,fun k h1 h2=>by rw[Qw9 ok];exact ag k h1 h2⟩ B)
 have ah:=O (Qxd hb (1+(m:Int)));have e4:(a.kind.tmod 6==0)=false∧(a.kind.tmod 6==1)=false∧a.kind.tmod 6=2:=by rw[Int.tmod_eq_emod_of_nonneg hw.1];simp;omega
 obtain⟨e4,e5,e6⟩:=e4;have am:=O (fun w3(B:Qc R q w3)=>B.blk I ac);have b0:q.drew.cell? ⟨b,0,none⟩=some (ptr sb):=Z.blk.1.at 0 rfl;have x1:q.drew.cell? ⟨w.heap.size,1,none⟩=some (.int .i64 (1+(m:Int))):=U.at 1 rfl;clear Z U;by_cases h0:s.dropE (1+(m:Int))=0
 ·have an:=ok.drop h0;have ai:Hid (X6 (N+16) (s.drop (1+(m:Int)))):=O (an.more (by omega));have ap:ps (1+m)=[]:=by
   rw[ag (1+m) (by omega) (by omega)];have e:((1+m:Nat):Int)=1+(m:Int):=by omega
   rw[e];have aq:=(Qcp h0).1;cases hl:s.leaf (1+(m:Int))with
   |none=>exact O8 hl
   |some l=>rw[U8 hl];exact ok.idle hl aq
  obtain⟨ra,J,al⟩:∃ra J,us (1+m)=.slice ra 0 J:=by obtain⟨G,ab,_⟩:=aa.rowOf (c:=1+m) (by omega);obtain⟨ra,J,e,_⟩:=ab.row;rw[ap]at e;exact⟨ra,J,e⟩
  have ao:Hid (∀w3 w4,Jv sb us us w3 (Qn R q w3) b (s.drop (1+(m:Int))) E true ps→Qc R q w3→Qc Qb (w3.setCell ⟨b,66,none⟩ (.bool true)) w4→Ja w4 (Qn F w w4) b (s.drop (1+(m:Int)))∧Qc F w w4):=O (fun w3 w4 K B c4=>by
   obtain⟨m1,m2⟩:=K.fine;have c5:Qc R q (w3.setCell ⟨b,66,none⟩ (.bool true)):=B.trans m2 (fun k z=>z.elim .inl (fun z=>.inr z.1));have c6:Qc R q w4:=c5.trans c4 (fun k z=>z.elim);exact LF.out _ ((m1.keep c4 (Je.none _)).more (fun k z=>by
    have z1:=B.size;have z2:=c4.size;have z3:=m2.size;rcases z with(z|z)|z;·exact .inl z
    ·exact .inr ⟨z.1,by omega⟩
    ·exact .inr ⟨by omega,by omega⟩) (aa.bd.ext c6)) c6)
  rw[h0]at HC;generalize s.drop (1+(m:Int))=s2 at HC ai ah ao LF;clear an h0 ap;have HB:=O hb;have OK:=O ok;clear aa ae I ac u d ak ag h ok hb;unfold ptr at*;unfold Yg.cells at hW;unfold Yg.cells;go_enter func29,ntmps29;go_wp2_with fail;rw[←hW];clear hW k2;refine Qi [(0,0),(0,1),(0,2),(0,3),(0,4),(0,5),(0,6),(0,7),(0,8),(0,9),(0,10),(0,11),(2,12)] (by kernel_rfl) (by kernel_rfl) ?_ ?_;·exact fun _ _ _ _ _ h=>h
  simp only[Zs,Zf,Ze,Zd];iterate 6 (refine Zz (by kernel_rfl) (by go_simp;try with_reducible rfl) ?_)
  try simp only[Act.put,Za,Zc,Zb]
  iterate 6 (refine Zz (by kernel_rfl) (by go_simp;try with_reducible rfl) ?_)
  try simp only[Act.put,Za,Zc,Zb]
  refine Jj ?_;go_wp2_with fail;refine Zu ?_;first|rw[←hW1]|rw[e1,←hW1]
  clear hW1 e1 V a1 c19 af;go_wp2_with fail;rw[←hW2];clear hW2 k0 k1 kf;refine Qi [(0,0),(0,1),(0,2),(0,3),(0,4),(0,5),(0,6),(2,7),(0,8)] (by kernel_rfl) (by kernel_rfl) ?_ ?_;·exact fun _ _ _ _ _ h=>h
  simp only[Zs,Zf,Ze,Zd];iterate 7 (refine Zz (by kernel_rfl) (by go_simp;try with_reducible rfl) ?_)
  try simp only[Act.put,Za,Zc,Zb]
  clear x1 b0;refine Jj ?_;go_wp2_with fail;refine HC.out.mono ?_;rintro e w3⟨rfl,K,B⟩;have H3:=O K;have C3:=O B;have D3:=(Qc.refl Qb w3).drew;have aj:=D3.blk K.blk.1 (fun h=>h);have f0:w3.drew.cell? ⟨b,66,none⟩=some (.bool true):=aj.at 66 (O9 _ _ _ _);have ff:=aj.frozen 66;have x1:w3.drew.cell? ⟨w.heap.size,1,none⟩=some (.int .i64 (1+(m:Int))):=(D3.blk (am.out w3 B) (fun h=>h)).at 1 rfl;have y2:w3.drew.cell? ⟨b,2+(1+m),none⟩=some (us (1+m)):=aj.at _ (Ou _ _ _ _ (by omega));rw[al]at y2;have k0:(0:Int)≤1+(m:Int):=by omega
  have k1:1+(m:Int)<64:=by omega
  have k2:(1+(m:Int)).toNat=1+m:=by omega
  clear K B HC D3 aj al;go_wp2_with fail;refine Zz (by kernel_rfl) (by go_simp;try with_reducible rfl) ?_;try simp only[Act.put,Za,Zc,Zb]
  refine Zu ?_;go_wp2_with fail;refine Qi [(0,0),(0,1),(0,2),(0,3),(0,4),(0,5),(0,6),(0,7),(0,8),(0,9),(0,10),(0,11),(0,12),(0,13),(0,14),(0,15),(0,16),(0,17),(0,18),(2,19)] (by kernel_rfl) (by kernel_rfl) ?_ ?_;·exact fun _ _ _ _ _ h=>h
  simp only[Zs,Zf,Ze,Zd];iterate 6 (refine Zz (by kernel_rfl) (by go_simp;try with_reducible rfl) ?_)
  try simp only[Act.put,Za,Zc,Zb]
  iterate 7 (refine Zz (by kernel_rfl) (by go_simp;try with_reducible rfl) ?_)
  try simp only[Act.put,Za,Zc,Zb]
  iterate 6 (refine Zz (by kernel_rfl) (by go_simp;try with_reducible rfl) ?_)
  try simp only[Act.put,Za,Zc,Zb]
  refine Jj ?_;go_wp2_with fail;refine Zu ?_;go_wp2_with fail;have FF:=O (ao.out w3 _ H3.out C3.out ((Qc.refl Qb _).drew));exact bodyPost_end (results_none rfl _ _ _) rfl ⟨rfl,_,FF.out.1,ai.out,ah.out,FF.out.2⟩
 ·rw[Qe4 h0]at HC LF ah;have ai:Hid (X6 (N+16) s):=O (ok.more (by omega));have e7:(s.dropE (1+(m:Int))==0)=false:=by simpa using h0
  generalize s.dropE (1+(m:Int))=er at HC e7;clear h0;have HB:=O hb;have OK:=O ok;clear aa ae I ac u d ak ag h ok hb;unfold ptr at*;unfold Yg.cells at hW;unfold Yg.cells;go_enter func29,ntmps29;go_wp2_with fail;rw[←hW];clear hW k2;refine Qi [(0,0),(0,1),(0,2),(0,3),(0,4),(0,5),(0,6),(0,7),(0,8),(0,9),(0,10),(0,11),(2,12)] (by kernel_rfl) (by kernel_rfl) ?_ ?_;·exact fun _ _ _ _ _ h=>h
  simp only[Zs,Zf,Ze,Zd];iterate 6 (refine Zz (by kernel_rfl) (by go_simp;try with_reducible rfl) ?_)
  try simp only[Act.put,Za,Zc,Zb]
  iterate 6 (refine Zz (by kernel_rfl) (by go_simp;try with_reducible rfl) ?_)
  try simp only[Act.put,Za,Zc,Zb]
  refine Jj ?_;go_wp2_with fail;refine Zu ?_;first|rw[←hW1]|rw[e1,←hW1]
  clear hW1 e1 V a1 c19 af;go_wp2_with fail;rw[←hW2];clear hW2 k0 k1 kf;refine Qi [(0,0),(0,1),(0,2),(0,3),(0,4),(0,5),(0,6),(2,7),(0,8)] (by kernel_rfl) (by kernel_rfl) ?_ ?_;·exact fun _ _ _ _ _ h=>h
  simp only[Zs,Zf,Ze,Zd];iterate 7 (refine Zz (by kernel_rfl) (by go_simp;try with_reducible rfl) ?_)
  try simp only[Act.put,Za,Zc,Zb]
  clear x1 b0;refine Jj ?_;go_wp2_with fail;refine HC.out.mono ?_;rintro e w3⟨rfl,K,B⟩;have FF:=O (LF.out w3 K B);clear K B HC;go_wp2_with fail;refine Zz (by kernel_rfl) (by go_simp;try with_reducible rfl) ?_;try simp only[Act.put,Za,Zc,Zb]
  refine Zu ?_;go_wp2_with fail;exact bodyPost_end (results_none rfl _ _ _) rfl ⟨rfl,_,FF.out.1,ai.out,ah.out,FF.out.2⟩
end
end
end Go.Proofs.YtnnhmpehkbihnaaGreat
