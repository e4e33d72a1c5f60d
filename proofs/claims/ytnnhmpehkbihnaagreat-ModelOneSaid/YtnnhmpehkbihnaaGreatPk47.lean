/- A part of the proof: no condition. -/
import Derived.ArgAppend
import Derived.Deep.MidRow
import Derived.Test.YtnnhmpehkbihnaaGreatPk46
namespace Go.Proofs.YtnnhmpehkbihnaaGreat
set_option linter.unusedVariables false
set_option maxRecDepth 100000
set_option maxHeartbeats 4000000
open Go.RowKit
open Go.Proofs.Tryz
section
attribute [local go_sem] Qp
def Uh(v:Value)(L:List Jr):Ya:=fun w F=>Bd F w∧((v=.slice none 0 0∧L=[])∨∃b o cap c,v=.slice (some ⟨b,o,none⟩) L.length cap∧F b∧L.length≤cap∧cap≤maxLen∧Qh w b c 34∧o+cap*4≤c.size∧∀(j:Nat)(u:Value),(Jm Jr.cells L)[j]? =some u→c[o+j]? =some u)
theorem Nk(v:Value)(L:List Jr):Uy (Uh v L) where
 bd:=fun h=>h.1
 aB:=fun⟨u,h⟩hc I=>⟨u.later hc,h.imp id fun⟨b,o,cap,c,h1,d,k,z,B,E⟩=>⟨b,o,cap,c,h1,d,k,z,hc.blk B (I b d),E⟩⟩
 more:=fun⟨u,h⟩hs q=>⟨q,h.imp id fun⟨b,o,cap,c,h1,d,k⟩=>⟨b,o,cap,c,h1,hs b d,k⟩⟩
theorem Nj(L:List Jr):(Jm Jr.cells L).length=L.length*4:=by
 unfold Jm;induction L with
 |nil=>rfl
 |cons x t c=> simp only[List.flatMap_cons,List.length_append,c,Zm,Jr.aF];omega
theorem Qc7(L:List Jr)(p:Jr):Jm Jr.cells (L++[p])=Jm Jr.cells L++p.cells:=by unfold Jm;simp
section
variable{w w1:World}{F:Fp}{v:Value}{L:List Jr}
theorem Uh.nil{w}{F:Fp}(h:Bd F w):Uh (.slice none 0 0) [] w F:=⟨h,.inl ⟨rfl,rfl⟩⟩
theorem Uh.row(h:Uh v L w F):∃a cap,v=.slice a L.length cap∧L.length≤cap∧cap≤maxLen∧(L≠[]→∃b o c,a=some ⟨b,o,none⟩∧F b∧Qh w b c 34∧∀(j:Nat)(u:Value),(Jm Jr.cells L)[j]? =some u→w.cell? ⟨b,o+j,none⟩=some u):=by
 obtain⟨J,⟨rfl,rfl⟩|⟨b,o,cap,c,rfl,k,q,z,d,I,B⟩⟩:=h;·exact⟨none,0,rfl,Zv _,by simp[maxLen],fun h=>absurd rfl h⟩
 ·exact⟨_,cap,rfl,q,z,fun _=>⟨b,o,c,rfl,k,d,fun j u E=>by rw[d.cell];exact B j u E⟩⟩
theorem Uh.ofOwn{w'}{L':List Jr}{v':Value}(z:Bd F w)(hc:Qc F w w')(h:w'.ownsRow w.heap.size 34 4 v' L'.length (Jm Jr.cells L')):Uh v' L' w' (Qn F w w'):=by
 obtain⟨h0,⟨h1,k⟩|⟨g,cap,d,h1,k,q,B,E,J,I⟩⟩:=h;·exact⟨z.ext hc,.inl ⟨h1,List.eq_nil_of_length_eq_zero k⟩⟩
 ·refine⟨z.ext hc,.inr ⟨g,0,cap,d,h1,.inr ⟨k,(Z2.1 q).1⟩,B,E,q,by omega,fun j u c=>?_⟩⟩;rw[←I,List.getElem?_take]at c;split at c;·rw[Nat.zero_add,←Array.getElem?_toList];exact c
  ·cases c
theorem Uh.append(h:Uh v L w F)(hn:L.length+1≤4096)(p:Jr)(w1)(q:Qc Qb w w1){a:Addr}{c:Nat}(d:∀(j:Nat)(u:Value),p.cells[j]? =some u→w1.cell? (a.add j)=some u)(ty:TypeId):
  ∃v' w',(Builtin.append_ #[27,27] ty #[v,.slice (some a) 1 c]).run prog w1=.ok v' w'∧Uh v' (L++[p]) w' (Qn F w w')∧Qc F w w':=by
 obtain⟨i,z,hi,hz,hs,K,U⟩:=pktT.hi;have one:∀u∈p.cells,u.oneCell'=true:=pktT.one p;obtain⟨hb,hv⟩:=h;have R:(L++[p]).length=L.length+1:=by simp
 have own:∀v' w',w'.ownsRow w1.heap.size 34 4 v' (L.length+1) (Jm Jr.cells L++p.cells)→w1.grownBy w' none→Uh v' (L++[p]) w' (Qn F w w')∧Qc F w w':=by intro v' w' h1 V;have J:Qc F w1 w':=(Zg F w1).grown V (fun k e=>by cases e);have h3:=Uh.ofOwn (F:=F) (w:=w1) (L':=L++[p]) (hb.later q) J (by rw[R,Qc7];exact h1);have c3:Qc F w w':=q.none.aA J;exact⟨(Nk v' _).more h3 (Ke q.size) (hb.ext c3),c3⟩
 rcases hv with⟨rfl,rfl⟩|⟨b,o,cap,aa,rfl,V,h3,h4,h5,h6,h7⟩;·obtain⟨v',w',hr,ho,hg,_,_⟩:=run_append_own_at (P:=prog) w1 w1.heap.size 27 ty 34 i z 4 32 pktT.ht hi hz hs K (by rw[U];rfl) (by omega) (.slice none 0 0) 0 [] (World.ownsRow_nil w1 _ _ _) a 1 c p.cells rfl d one (by simp[maxLen]) (by omega) (Zv _);exact⟨v',w',hr,own v' w' ho hg⟩
 ·have B:=q.blk h5 (fun h=>h);by_cases I:L.length+1≤cap
  ·have hr:=run_append_room_cells (P:=prog) w1 27 ty 34 i pktT.ht hi b o L.length cap a 1 c p.cells (by rw[hs];rfl) d one I
    (fun j Z=>by rw[B.cell];simp only[Jr.aF]at Z;rw[hs];simp;omega) (fun j Z=>B.frozen _)
   rw[hs]at hr;obtain⟨cs',k1,k2,k3,k4⟩:=Vc (t:=34) p.cells (o+L.length*4) w1 aa B (by simp only[Jr.aF];omega);have J:Qc F w (w1.setCells b (o+L.length*4) p.cells):=q.none.aA (k4.sub fun k e=>e▸V);refine⟨_,_,hr,⟨hb.ext J,.inr ⟨b,o,cap,cs',by rw[R],.inl V,by omega,h4,k1,by omega,fun j u E=>?_⟩⟩,J⟩;rw[Qc7]at E;rw[k3];have pl:=Jr.aF p;by_cases Z:j<L.length*4;·rw[if_neg (by omega)];rw[List.getElem?_append_left (by rw[Nj];exact Z)]at E;exact h7 j u E
   ·rw[List.getElem?_append_right (by rw[Nj];omega),Nj]at E;have ab:j-L.length*4<4:=(Z1.1 E).1;rw[if_pos (by omega)];rw[show o+j-(o+L.length*4)=j-L.length*4 from by omega];exact E
  ·obtain⟨v',w',hr,ho,hg⟩:=run_append_arg_grows (P:=prog) w1 27 ty 34 i z 4 32 pktT.ht hi hz hs K (by rw[U];rfl) (by omega) ⟨b,o,none⟩ L.length cap (Jm Jr.cells L) (Nj L) (fun j u E=>by
    rw[Addr.add_lit,B.cell];exact h7 j u E) a 1 c p.cells rfl d (by omega) (by simp[maxLen];omega) (by omega)
   exact⟨v',w',hr,own v' w' ho hg⟩
theorem Uh.head{x:Jr}{t:List Jr}(h:Uh v (x::t) w F):∃b o cap c,v=.slice (some ⟨b,o,none⟩) (t.length+1) cap∧t.length+1≤cap∧cap≤maxLen∧F b∧Qh w b c 34∧c[o]? =some (.int .u64 x.id)∧c[o+1]? =some (.int .i64 x.cls)∧c[o+2]? =some (.int .i64 x.len)∧c[o+3]? =some (.int .u64 x.at_)∧
  Uh (.slice (some ⟨b,o+4,none⟩) t.length (cap-1)) t w F∧(t=[]→Uh (.slice (some ⟨b,o,none⟩) 0 (cap-1)) t w F):=by
 obtain⟨E,⟨_,h1⟩|⟨b,o,cap,c,rfl,k,B,I,q,J,d⟩⟩:=h;·cases h1
 ·simp only[Zm]at B;refine⟨b,o,cap,c,rfl,B,I,k,q,d 0 _ rfl,d 1 _ rfl,d 2 _ rfl,d 3 _ rfl,⟨E,.inr ⟨b,o+4,cap-1,c,rfl,k,by omega,by omega,q,by omega,fun j u z=>?_⟩⟩,fun e=>⟨E,.inr ⟨b,o,cap-1,c,by rw[e];rfl,k,by rw[e];exact Nat.zero_le _,by omega,q,by omega,fun j u z=>by subst e;cases z⟩⟩⟩;have:=d (4+j) u (by
   show((Jr.cells x)++Jm Jr.cells t)[4+j]? =some u;rw[List.getElem?_append_right (by simp[Jr.aF])];rw[Jr.aF,show 4+j-4=j from by omega];exact z)
  rw[show o+4+j=o+(4+j)from by omega];exact this
end
def Va(sb now:Nat)(us:Nat→Value)(fine:Bool):Array Value:=(([ptr sb,.int .u64 now]:List Value)++(List.range 64).map us++([.bool fine]:List Value)).toArray
def Qc9(b sb now:Nat)(us:Nat→Value)(fine:Bool)(s:Qf)(vs:Nat→Value)(ps:Nat→List Jr):List Ya:=
 [Tv b (Va sb now us fine) 32,fun w F=>Qt w F sb s]++(List.range 64).map fun c=>Uh (vs c) (ps c)
theorem Ht(b sb now:Nat)(us:Nat→Value)(fine:Bool)(s:Qf)(vs:Nat→Value)(ps:Nat→List Jr):∀P∈Qc9 b sb now us fine s vs ps,Uy P:=by
 intro P d;unfold Qc9 at d;rcases Zl.1 d with d|d
 ·simp only[Zu,List.not_mem_nil,or_false]at d;rcases d with rfl|rfl;·exact Ks _ _ _
  ·exact Qt.obj.good _ _
 ·obtain⟨c,_,rfl⟩:=Z3.1 d;exact Nk _ _
def upd{X:Type}(f:Nat→X)(c:Nat)(x:X):Nat→X:=fun k=>if k=c then x else f k
theorem Qbz{X:Type}(f:Nat→X)(c:Nat)(x:X):upd f c x c=x:=if_pos rfl
theorem Qb0{X:Type}(f:Nat→X){c k:Nat}(x:X)(h:k≠c):upd f c x k=f k:=if_neg h
theorem Qed{X:Type}(f:Nat→X)(n c:Nat)(x:X):((List.range n).map f).set c x=(List.range n).map (upd f c x):=by
 refine List.ext_getElem? fun k=>?_;rw[List.getElem?_set];simp only[List.getElem?_map,List.length_map,List.length_range];by_cases d:k<n
 ·rw[List.getElem?_range d];by_cases e:c=k;·subst e;simp[upd,d]
  ·rw[if_neg e];simp only[upd,Zn];rw[if_neg (fun h=>e h.symm)]
 ·rw[List.getElem?_eq_none (by simp;omega)];split;·rw[if_neg (by omega)];rfl
  ·rfl
theorem E6(sb now:Nat)(us:Nat→Value)(fine:Bool):(Va sb now us fine)[66]? =some (.bool fine):=by unfold Va;simp
theorem Qkg(sb now:Nat)(us:Nat→Value)(fine:Bool):(Va sb now us fine).size=67:=by unfold Va;simp
def Xm(sb:Nat)(us vs:Nat→Value)(w:World)(F:Fp)(b:Nat)(s:Qf)(now:Nat)(fine:Bool)(ps:Nat→List Jr):Prop:=Oh (Qc9 b sb now us fine s vs ps) w F
section
variable{sb b now:Nat}{us vs:Nat→Value}{w w1:World}{F:Fp}{s:Qf}{fine:Bool}{ps:Nat→List Jr}
theorem Xm.bd(h:Xm sb us vs w F b s now fine ps):Bd F w:=(Je (Ht b sb now us fine s vs ps)).bd h
theorem Xm.aB(h:Xm sb us vs w F b s now fine ps){S:Fp}(hc:Qc S w w1)(c:Jl F S):Xm sb us vs w1 F b s now fine ps:=(Je (Ht b sb now us fine s vs ps)).aB h hc c
theorem Xm.more(h:Xm sb us vs w F b s now fine ps){F':Fp}(hs:∀k,F k→F' k)(c:Bd F' w):Xm sb us vs w F' b s now fine ps:=(Je (Ht b sb now us fine s vs ps)).more h hs c
theorem Xm.blk(h:Xm sb us vs w F b s now fine ps):Qh w b (Va sb now us fine) 32∧F b:=by obtain⟨G,h1,c⟩:=J6 (Ht b sb now us fine s vs ps) 0 rfl h;exact⟨h1.1,c _ h1.2.1⟩
theorem Xm.cells(h:Xm sb us vs w F b s now fine ps):∃G:Fp,G b∧(∀k,G k→F k)∧∀w' d q c,Qc (fun k=>k=b) w w'→Qh w' b (Va sb d q c) 32→Xm sb q vs w' (Qn F w w') b s d c ps∧Qc F w w':=by obtain⟨G,u,B,_,E⟩:=Xv 0 (Ht b sb now us fine s vs ps) rfl h;refine⟨G,u.2.1,B,fun w' d q c hc I=>?_⟩;have z:Qc G w w':=hc.sub fun k e=>e▸u.2.1;exact⟨E w' (Tv b (Va sb d q c) 32) z ⟨I,.inl u.2.1,u.2.2.ext z⟩,z.sub B⟩
theorem Xm.sched(h:Xm sb us vs w F b s now fine ps):∃G:Fp,Qt w G sb s∧(∀k,G k→F k)∧¬G b∧∀w' s',Qt w' (Qn G w w') sb s'→Qc G w w'→Xm sb us vs w' (Qn F w w') b s' now fine ps∧Qc F w w':=by
 have hh:=h;obtain⟨q,U,R0,K,⟨d,u,B,V,Z,I,s2,s3⟩,z,R,s1⟩:=hh;obtain⟨G,k1,k2,_,k3⟩:=Xv 1 (Ht b sb now us fine s vs ps) rfl h;refine⟨u,V,fun k c=>s1 _ (s2 _ c),fun c=>z b K.2.1 (s2 _ c),fun w' s' h1 hc=>?_⟩;have J:∀k,u k→F k:=fun k c=>s1 _ (s2 _ c);have E:=hc.sub J;refine⟨?_,E⟩;refine Q7 (G:=U) (H:=fun k=>Qn u w w' k∨B k) ((Ks _ _ _).aB K hc (fun k a e=>z k a (s2 _ e))) ?_ ?_ (fun k c=>.inl (R k c)) ?_ (q.ext E)
 ·refine Q7 (G:=Qn u w w') (H:=B) h1 ((Je fun P hP=>Ht b sb now us fine s vs ps P (by simp only[Qc9,List.cons_append,Zu];exact .inr (.inr hP))).aB Z hc (fun k a e=>I k e a)) ?_ (fun k c=>.inl c) (fun k c=>.inr c) ?_;·exact Jl.extL I (d.sub s3)
  ·exact fun k c=>c.elim ((d.sub s2).ext hc k) ((d.sub s3).later hc k)
 ·rintro k c(e|e);·exact e.elim (fun e=>z k c (s2 _ e)) (fun e=>by have:=q _ (R _ c);omega)
  ·exact z k c (s3 _ e)
 ·exact fun k c=>c.elim (fun e=>Qn.mono J k e) (fun e=>.inl (s1 _ (s3 _ e)))
theorem Xm.rowOf(h:Xm sb us vs w F b s now fine ps){c:Nat}(hc:c<64):∃G:Fp,Uh (vs c) (ps c) w G∧(∀k,G k→F k)∧¬G b∧∀w' v' l',Uh v' l' w' (Qn G w w')→Qc G w w'→Xm sb us (upd vs c v') w' (Qn F w w') b s now fine (upd ps c l')∧Qc F w w':=by
 obtain⟨u,V,z,J,h1,B,U,s1⟩:=h;have gg:∀P∈((fun w F=>Qt w F sb s)::(List.range 64).map fun c=>Uh (vs c) (ps c)),Uy P:=fun P R=>Ht b sb now us fine s vs ps P (by simp only[Qc9,List.cons_append,List.nil_append,Zu]at R⊢;exact .inr R);have E:Oh ((fun w F=>Qt w F sb s)::(List.range 64).map fun c=>Uh (vs c) (ps c)) w z:=h1;have e:((fun w F=>Qt w F sb s)::(List.range 64).map fun c=>Uh (vs c) (ps c))[c+1]? =some (Uh (vs c) (ps c)):=by rw[Zd];simp[hc]
 obtain⟨G,k1,k2,_,k3⟩:=Xv (c+1) gg e E;refine⟨G,k1,fun k d=>s1 _ (k2 _ d),fun d=>B b J.2.1 (k2 _ d),fun w' v' l' hp q=>?_⟩;have I:Qc F w w':=q.sub fun k d=>s1 _ (k2 _ d);refine⟨?_,I⟩;have K:Oh (((fun w F=>Qt w F sb s)::(List.range 64).map fun c=>Uh (vs c) (ps c)).set (c+1) (Uh v' l')) w' (Qn z w w'):=k3 w' (Uh v' l') q hp;have Z:((fun w F=>Qt w F sb s)::(List.range 64).map fun c=>Uh (vs c) (ps c)).set (c+1) (Uh v' l')=(fun w F=>Qt w F sb s)::(List.range 64).map fun k=>Uh (upd vs c v' k) (upd ps c l' k):=by
  rw[Zb,Qed];congr 1;refine List.map_congr_left fun k _=>?_;by_cases d:k=c;·subst d;rw[Qbz,Qbz,Qbz]
  ·rw[Qb0 _ _ d,Qb0 _ _ d,Qb0 _ _ d]
 rw[Z]at K;refine Q7 (G:=V) (H:=Qn z w w') ((Ks _ _ _).aB J q (fun k a e=>B k a (k2 _ e))) K ?_ (fun k d=>.inl (U k d)) (fun k d=>Qn.mono s1 k d) (u.ext I);exact Jl.extR B (u.sub U)
def Xc(w:World)(F:Fp)(b:Nat)(s:Qf):Prop:=∃sb us now ps,Xm sb us us w F b s now true ps∧now≤1099511627776∧∀c,1≤c→c<64→ps c=s.qOf (c:Nat)
end
end
section
variable{s:Qf}{N:Nat}
theorem Cs{now:Nat}(c:s.who now=none):s.next now=(none,s):=by unfold Qf.next;rw[c]
theorem Wr(sb now:Nat)(us:Nat→Value)(fine:Bool):(Va sb now us fine).setIfInBounds 66 (.bool fine)=Va sb now us fine:=by
 have h:=E6 sb now us fine;have hs:=Qkg sb now us fine;generalize Va sb now us fine=A at h hs;refine Array.ext (by simp) fun i h1 c=>?_;rw[Array.getElem_setIfInBounds];split;·rename_i e;subst e;rw[Array.getElem?_eq_getElem (by omega)]at h;exact(Zs h).symm
 ·rfl
theorem Qc8(sb now:Nat)(us:Nat→Value)(fine:Bool){c:Nat}(hc:c<64)(v:Value):(Va sb now us fine).setIfInBounds (2+c) v=Va sb now (upd us c v) fine:=by unfold Va;rw[Za,←Qed,List.append_assoc,List.append_assoc,List.set_append_right _ _ (by simp),List.set_append_left _ _ (by simp;omega)];simp
end
section
variable{sb b now:Nat}{us:Nat→Value}{w w':World}{F:Fp}{s:Qf}{ps:Nat→List Jr}
theorem Xm.setRow(h:Xm sb us us w F b s now true ps){c:Nat}(hc:c<64){v:Value}{l:List Jr}(I:∀G:Fp,Uh (us c) (ps c) w G→Uh v l w G):
  Xm sb (upd us c v) (upd us c v) (w.setCell ⟨b,2+c,none⟩ v) (Qn F w (w.setCell ⟨b,2+c,none⟩ v)) b s now true (upd ps c l)∧Qc F w (w.setCell ⟨b,2+c,none⟩ v):=by
 obtain⟨G,h1,K,_,B⟩:=h.rowOf hc;have E:=(Nk _ _).bd h1;obtain⟨k1,k2⟩:=B w v l ((Nk _ _).more (I G h1) (fun k u=>.inl u) (E.ext (Zg G w))) (Zg G w);have q:Xm sb us (upd us c v) w F b s now true (upd ps c l):=k1.more (fun k u=>u.elim id (fun e=>by omega)) h.bd;obtain⟨J,_,_,d⟩:=q.cells;have z:=q.blk.1.set (2+c) v;rw[Qc8 _ _ _ _ hc]at z;exact d _ now (upd us c v) true ((Zg _ _).setCell _ (.inl rfl)) z
end
section
attribute [local go_sem] Qp
attribute [local irreducible] Kl J9 Xo
theorem Ga(o:Option ChM):∀v∈(Bq o).toList,v.oneCell'=true:=by
 cases o with
 |none=>exact Iy _ _ _
 |some c=>exact Iy _ _ _
theorem Uq(o:Option ChM):(Bq o).size=6:=by cases o<;>rfl
theorem Qu0(w):(binOp .eql 50 (.agg #[.int .u64 0,.int .i64 0,.int .i64 0,.int .u64 0,.int .u8 0,.int .u64 0]) (.agg #[.int .u64 0,.int .i64 0,.int .i64 0,.int .u64 0,.int .u8 0,.int .u64 0])).run prog w=.ok (.bool true) w:=by kernel_rfl
attribute [local go_sem] Uq
attribute [local go_sem ↓] Qu0
section
variable{w:World}{F:Fp}{b:Nat}{s:Qf}{N:Nat}
end
end
section
attribute [local go_sem] Qp
attribute [local go_sem ↓] X8 Yd
attribute [local irreducible] Kl J9 Xo
structure Yy where
 kind:Int
 s:Yk
 p:Jr
 after:Nat
def Yy.cells(a:Yy):List Value:=[.int .u8 a.kind,.int .i64 a.s.id,.int .i64 a.s.par,.bool a.s.leaf,.int .u64 a.s.real.f,.int .u64 a.s.real.l,.int .u64 a.s.real.r,.int .u64 a.s.share.f,.int .u64 a.s.share.l,.int .u64 a.s.share.r,.int .u64 a.s.aN.f,.int .u64 a.s.aN.l,.int .u64 a.s.aN.r,.int .i64 a.s.pk,.int .i64 a.s.bt,.int .u64 a.p.id,.int .i64 a.p.cls,.int .i64 a.p.len,.int .u64 a.p.at_,.int .u64 a.after]
def Yy.wf(a:Yy):Prop:=0≤a.kind∧a.kind<256∧a.after<18446744073709551616
theorem Xm.fine{w}{F:Fp}{b sb now:Nat}{us vs:Nat→Value}{s:Qf}{ps:Nat→List Jr}(h:Xm sb us vs w F b s now true ps):Xm sb us vs (w.setCell ⟨b,66,none⟩ (.bool true)) (Qn F w (w.setCell ⟨b,66,none⟩ (.bool true))) b s now true ps∧Qc F w (w.setCell ⟨b,66,none⟩ (.bool true)):=by obtain⟨G,_,_,c⟩:=h.cells;have d:=h.blk.1.set 66 (.bool true);rw[Wr]at d;exact c _ now us true ((Zg (fun k=>k=b) w).setCell (a:=⟨b,66,none⟩) _ (.inl rfl)) d
theorem Xm.putRow{w w'}{F G:Fp}{b sb now c:Nat}{us:Nat→Value}{s:Qf}{ps:Nat→List Jr}(h:Xm sb us us w F b s now true ps)(hc:c<64){v:Value}{l:List Jr}
  (u:∀w' v' l',Uh v' l' w' (Qn G w w')→Qc G w w'→Xm sb us (upd us c v') w' (Qn F w w') b s now true (upd ps c l')∧Qc F w w')(h1:Uh v l w' (Qn G w w'))(I:Qc G w w'):
  Xm sb (upd us c v) (upd us c v) (w'.setCell ⟨b,2+c,none⟩ v) (Qn F w (w'.setCell ⟨b,2+c,none⟩ v)) b s now true (upd ps c l)∧Qc F w (w'.setCell ⟨b,2+c,none⟩ v):=by
 obtain⟨k1,k2⟩:=u w' v l h1 I;obtain⟨K,_,_,d⟩:=k1.cells;have B:=k1.blk.1.set (2+c) v;rw[Qc8 _ _ _ _ hc]at B;obtain⟨J,E⟩:=d _ now (upd us c v) true ((Zg (fun k=>k=b) w').setCell (a:=⟨b,2+c,none⟩) _ (.inl rfl)) B;have z:=k2.trans E (fun k q=>q.elim .inl (fun q=>.inr q.1));exact⟨J.more (fun k q=>Qn.trans k2.size E.size k q) (h.bd.ext z),z⟩
end
section
attribute [local go_sem] Qp
attribute [local irreducible] Kl J9 Xo
attribute [local go_sem ↓] X8 Yd
def Qxp:Array Value:=#[.int .u8 0,.int .i64 0,.int .i64 0,.bool false,.int .u64 0,.int .u64 0,.int .u64 0,.int .u64 0,.int .u64 0,.int .u64 0,.int .u64 0,.int .u64 0,.int .u64 0,.int .i64 0,.int .i64 0,.int .u64 0,.int .i64 0,.int .i64 0,.int .u64 0,.int .u64 0]
theorem Qxd(a:Yy):∀v∈a.cells,v.oneCell'=true:=by intro v c;simp only[Yy.cells,Zu,List.not_mem_nil,or_false]at c;rcases c with rfl|rfl|rfl|rfl|rfl|rfl|rfl|rfl|rfl|rfl|rfl|rfl|rfl|rfl|rfl|rfl|rfl|rfl|rfl|rfl<;>rfl
def spL(s:Yk):List Value:=[.int .i64 s.id,.int .i64 s.par,.bool s.leaf,.int .u64 s.real.f,.int .u64 s.real.l,.int .u64 s.real.r,.int .u64 s.share.f,.int .u64 s.share.l,.int .u64 s.share.r,.int .u64 s.aN.f,.int .u64 s.aN.l,.int .u64 s.aN.r,.int .i64 s.pk,.int .i64 s.bt]
theorem Qwe(a:Yy):a.cells=.int .u8 a.kind::(spL a.s++(a.p.cells++[.int .u64 a.after])):=rfl
theorem Qw4{w}{b:Nat}{a:Yy}{t:TypeId}(h:Qh w b a.cells.toArray t):w.rangeAt b 1 (spL a.s):=fun j u c=>by refine h.at (1+j) ?_;rw[Zf,Qwe,Nat.add_comm 1 j,Zd,List.getElem?_append_left (Z1.1 c).1];exact c
theorem Qxe{w}{b:Nat}{a:Yy}{t:TypeId}(h:Qh w b a.cells.toArray t):w.rangeAt b 15 a.p.cells:=fun j u c=>by refine h.at (15+j) ?_;rw[Zf,Qwe,show 15+j=(14+j)+1 by omega,Zd,List.getElem?_append_right (by show 14≤14+j;omega)];rw[show 14+j-(spL a.s).length=j by show 14+j-14=j;omega,List.getElem?_append_left (Z1.1 c).1];exact c
section
variable{s:Qf}{N:Nat}
theorem Xp.addA(ok:Xp N s)(c:Yk):Xp (N+16) (s.add c):=by
 by_cases h0:s.aO c=0;·exact(ok.add h0).more (by omega)
 ·rw[Qem h0];exact ok.more (by omega)
theorem Xp.changeA(ok:Xp N s)(c:Yk):Xp (N+16) (s.change c):=by
 by_cases h0:s.aG c=0;·exact(ok.change h0).more (by omega)
 ·rw[Sj h0];exact ok.more (by omega)
theorem Xp.dropA(ok:Xp N s)(i:Int):Xp (N+16) (s.drop i):=by
 by_cases h0:s.aP i=0;·exact(ok.drop h0).more (by omega)
 ·rw[I0 h0];exact ok.more (by omega)
theorem Xp.pushA(ok:Xp N s)(p:Jr)(now:Nat):Xp (N+16) (s.push p now):=by
 by_cases h0:s.aQ p=0;·exact ok.push now h0
 ·rw[Qnm h0];exact ok.more (by omega)
end
theorem Qwd(most:Int)(l:List Yy)(a:Option Addr)(cap:Nat)(W)(hl:l.length≤150)(hr:Kb Yy.cells 20 W a l)(hw:∀x∈l,x.wf)(hm:¬(most<1∨65536≤most)):
  Cl 21 #[.int .i64 most,.slice a l.length cap] W fun e w'=>∃sb s now,e=.returned (.tuple #[.pointer (some ⟨sb,0,none⟩),.int .u64 ((now:Nat):Int)])∧Qt w' (Qn Qb W w') sb s∧Xp 2400 s∧now≤1099511627776∧Qc Qb W w':=by
 have HR:=O hr;have HW:=O hw;have aj:=O (Qeb most (by omega) (by omega) W);have ap:=O (Xp.new (N:=0) (most:=most) (by omega) (by omega));clear hm hr hw;unfold ptr at*;go_enter func21,ntmps21;go_wp2_with fail;refine Zo aj ?_;rintro e w1⟨sb,rfl,h1,c1⟩;have H1:=O h1;have C1:=O c1;clear h1 c1 aj;go_wp2_with fail;go_loopw [8,9] (fun t8 t9 wr=>∃(k now:Nat)(s:Qf),t9=.int .i64 k∧t8=.int .u64 now∧now≤1099511627776∧k≤l.length∧Qt wr (Qn Qb W wr) sb s∧Qc Qb W wr∧Xp (16*k) s) (fun _ t9 _=>l.length-(intOf t9).toNat);case atStart=>exact⟨0,0,_,rfl,rfl,by omega,Nat.zero_le _,H1.o,C1.o,ap.o⟩
 case round=>
  obtain⟨k,now,s,rfl,rfl,al,q,hS,hc,am⟩:=hrel;obtain⟨V,hV⟩:=Zx wr;rw[←hV]at hS hc⊢;clear hV;have HC:=O hc;have HS:=O hS;have z:=O am;clear hc hS am;by_cases af:k<l.length
  ·have hd:decide ((k:Int)<(l.length:Int))=true:=by simp;omega
   have ar:decide (k<l.length)=true:=by simpa using af
   obtain⟨g,o,rfl,hj⟩:=HR.o k af;have ah:=HW.o _ (List.getElem_mem af);generalize ak:l[k]=act at hj ah;have HL:=O (show V.rangeAt g (o+k*20) act.cells from fun j u hu=>HC.o.same (hj j u hu));have av:IntKind.i64.wrap ((k:Int)+1)=(k:Int)+1:=by rw[IntWalk.i64_in _ (by omega)]
   have k0:(0:Int)≤(k:Int):=by omega
   have k1:(k:Int)<(l.length:Int):=by omega
   obtain⟨d,au⟩:∃n:Nat,n=min (now+act.after%1048576) 1099511627776:=⟨_,rfl⟩;have e1:min ((now:Int)+(act.after:Int)%1048576) 1099511627776=(d:Int):=by omega
   have e2:IntKind.u64.wrap ((now:Int)+(act.after:Int)%1048576)=(now:Int)+(act.after:Int)%1048576:=by rw[IntWalk.u64_in _ (by omega)]
   have ab:d≤1099511627776:=by omega
   obtain⟨W6,s6,U,c6⟩:=Q0 (P:=prog) (vs:=act.cells.toArray) (Qh.new V Qxp 74) rfl (by simpa using Qxd act);have C6:=O (show Qc Qb V W6 from((Zg Qb V).alloc _).trans c6 fun k e=>.inr (by omega));have J:Hi (∀w' s',Qt w' (Qn (Qn Qb W V) W6 w') sb s'→Qc (Qn Qb W V) W6 w'→Xp (16*k+16) s'→Qt w' (Qn Qb W w') sb s'∧Qc Qb W w'∧Xp (16*(k+1)) s'):=O (fun w' s' h c o=>by
    have z1:=HC.o.size;have z2:=C6.o.size;have z3:=c.size;refine⟨Qt.obj.more h (fun k q=>?_) (fun k q=>((Qr k).1 q).2),(HC.o.aA C6.o).trans c (fun k q=>.inr ((Qr k).1 q).1),by rw[Nat.mul_add];exact o⟩;rcases q with q|q;·have:=(Qr k).1 q;exact(Qr k).2 (by omega)
    ·exact(Qr k).2 (by omega))
   have aa:=O (Qt.obj.aB HS.o C6.o (Jl.none _));have ai:=O (Qw4 U);have ao:=O (Qxe U);have c0:W6.cell? ⟨V.heap.size,0,none⟩=some (.int .u8 act.kind):=U.at 0 rfl;have ae:W6.cell? ⟨V.heap.size,1,none⟩=some (.int .i64 act.s.id):=U.at 1 rfl;have c19:W6.cell? ⟨V.heap.size,19,none⟩=some (.int .u64 act.after):=U.at 19 rfl;have hz:(act.cells.toArray).size=20:=rfl;have an:Qxp=#[.int .u8 0,.int .i64 0,.int .i64 0,.bool false,.int .u64 0,.int .u64 0,.int .u64 0,.int .u64 0,.int .u64 0,.int .u64 0,.int .u64 0,.int .u64 0,.int .u64 0,.int .i64 0,.int .i64 0,.int .u64 0,.int .i64 0,.int .i64 0,.int .u64 0,.int .u64 0]:=rfl;rw[an]at s6;obtain⟨ac,ag⟩:=Zx (act.cells.toArray);rw[←ag]at s6 hz;have Z:=O ag;have h6:act.kind%6=0∨act.kind%6=1∨act.kind%6=2∨act.kind%6=3∨act.kind%6=4∨act.kind%6=5:=by omega
   have B:=ah.1;clear hj ak ah U c6 an ag au;rcases h6 with q|q|q|q|q|q
   ·have e3:act.kind.tmod 6=0:=by rw[Int.tmod_eq_emod_of_nonneg B];exact q
    have HA:=O (Cy aa.o z.o act.s);have I:=O (z.o.addA act.s);clear q B ae;unfold ptr at*;go_wp2_with (first|(with_reducible refine wpList_load_mid rfl 74 (.tmp 26) rfl g (o+k*20) rfl act.cells _ HL.o underlying74 rfl (by kernel_rfl) ?_;rw[←Z.o])|(with_reducible refine wpList_load_mid rfl 40 (.tmp 43) rfl V.heap.size 1 rfl (spL act.s) _ ai.o underlying40 rfl (by kernel_rfl) ?_));clear s6;refine Zy HA ?_;rintro w3⟨R,K⟩;have E:=O (J.o w3 _ R K I.o);clear R K;go_wp2;go_roundw;case measure=>simp only[intOf];omega
    case rel=>exact⟨k+1,d,_,by rw[←Int.natCast_one,←Int.natCast_add],rfl,ab,by omega,E.o.1,E.o.2.1,E.o.2.2⟩
   ·have e3:act.kind.tmod 6=1:=by rw[Int.tmod_eq_emod_of_nonneg B];exact q
    have HA:=O (Qfp aa.o z.o act.s);have I:=O (z.o.changeA act.s);clear q B ae;unfold ptr at*;go_wp2_with (first|(with_reducible refine wpList_load_mid rfl 74 (.tmp 26) rfl g (o+k*20) rfl act.cells _ HL.o underlying74 rfl (by kernel_rfl) ?_;rw[←Z.o])|(with_reducible refine wpList_load_mid rfl 40 (.tmp 49) rfl V.heap.size 1 rfl (spL act.s) _ ai.o underlying40 rfl (by kernel_rfl) ?_));clear s6;refine Zy HA ?_;rintro w3⟨R,K⟩;have E:=O (J.o w3 _ R K I.o);clear R K;go_wp2;go_roundw;case measure=>simp only[intOf];omega
    case rel=>exact⟨k+1,d,_,by rw[←Int.natCast_one,←Int.natCast_add],rfl,ab,by omega,E.o.1,E.o.2.1,E.o.2.2⟩
   ·have e3:act.kind.tmod 6=2:=by rw[Int.tmod_eq_emod_of_nonneg B];exact q
    have HA:=O (Qmd aa.o z.o act.s.id);have I:=O (z.o.dropA act.s.id);clear q B;unfold ptr at*;go_wp2_with (with_reducible refine wpList_load_mid rfl 74 (.tmp 26) rfl g (o+k*20) rfl act.cells _ HL.o underlying74 rfl (by kernel_rfl) ?_;rw[←Z.o]);clear s6;refine Zy HA ?_;rintro w3⟨R,K⟩;have E:=O (J.o w3 _ R K I.o);clear R K;go_wp2;go_roundw;case measure=>simp only[intOf];omega
    case rel=>exact⟨k+1,d,_,by rw[←Int.natCast_one,←Int.natCast_add],rfl,ab,by omega,E.o.1,E.o.2.1,E.o.2.2⟩
   ·have e3:act.kind.tmod 6=3:=by rw[Int.tmod_eq_emod_of_nonneg B];exact q
    have HA:=O (Qbn aa.o z.o (by omega) act.p d (by omega));have I:=O (z.o.pushA act.p d);clear q B ae;unfold ptr at*;go_wp2_with (first|(with_reducible refine wpList_load_mid rfl 74 (.tmp 26) rfl g (o+k*20) rfl act.cells _ HL.o underlying74 rfl (by kernel_rfl) ?_;rw[←Z.o])|(with_reducible refine wpList_load_mid rfl 34 (.tmp 62) rfl V.heap.size 15 rfl act.p.cells _ ao.o underlying34 rfl (by kernel_rfl) ?_));clear s6;refine Zy HA ?_;rintro w3⟨R,K⟩;have E:=O (J.o w3 _ R K I.o);clear R K;go_wp2;go_roundw;case measure=>simp only[intOf];omega
    case rel=>exact⟨k+1,d,_,by rw[←Int.natCast_one,←Int.natCast_add],rfl,ab,by omega,E.o.1,E.o.2.1,E.o.2.2⟩
   all_goals
    have e3:act.kind.tmod 6=4∨act.kind.tmod 6=5:=by rw[Int.tmod_eq_emod_of_nonneg B];omega
    have HA:=O (Pg aa.o z.o (by omega) d);have I:=O (z.o.next d);clear q B ae;unfold ptr at*;rcases e3 with e3|e3;all_goals
     go_wp2_with (with_reducible refine wpList_load_mid rfl 74 (.tmp 26) rfl g (o+k*20) rfl act.cells _ HL.o underlying74 rfl (by kernel_rfl) ?_;rw[←Z.o]);clear s6;refine Zy HA ?_;rintro w3⟨R,K⟩;have E:=O (J.o w3 _ R K I.o);clear R K;go_wp2;go_roundw;case measure=>simp only[intOf];omega
     case rel=>exact⟨k+1,d,_,by rw[←Int.natCast_one,←Int.natCast_add],rfl,ab,by omega,E.o.1,E.o.2.1,E.o.2.2⟩
  ·have hd:decide ((k:Int)<(l.length:Int))=false:=by simp;omega
   have ar:decide (k<l.length)=false:=by simpa using af
   have aq:=O (z.o.more (show 16*k≤2400 by omega));go_wp2;go_ret2;exact⟨_,s,now,rfl,HS.o,aq.o,al,HC.o⟩
theorem P5(most:Int)(l:List Yy)(a:Option Addr)(cap:Nat)(W)(hl:l.length≤150)(hr:Kb Yy.cells 20 W a l)(k:∀x∈l,x.wf):
  Cl 21 #[.int .i64 most,.slice a l.length cap] W fun e w'=>(e=.returned (.tuple #[.pointer none,.int .u64 0])∧Qc Qb W w')∨∃sb s now,e=.returned (.tuple #[.pointer (some ⟨sb,0,none⟩),.int .u64 ((now:Nat):Int)])∧Qt w' (Qn Qb W w') sb s∧Xp 2400 s∧now≤1099511627776∧Qc Qb W w':=by
 by_cases c:most<1∨65536≤most;·have u:=O (Qiz most W c);clear c hr k hl;go_enter func21,ntmps21;go_wp2_with fail;refine Zy u ?_;intro w1 d;have q:=O d;clear d;go_wp2;go_ret2;exact .inl ⟨rfl,q.o⟩
 ·exact(Qwd most l a cap W hl hr k c).mono fun e w' h=>.inr h
end
section
attribute [local go_sem] Qp
attribute [local irreducible] Kl J9 Xo
section
variable{w:World}{F:Fp}{b:Nat}{s:Qf}{N:Nat}
theorem Qec{w}:∀{L:List Ya},(∀P∈L,P w fun _=>False)→Oh L w fun _=>False
 |[],_=>fun k c=>c.elim
 |P::L,h=>Q7 (h P List.mem_cons_self) (Qec fun Q d=>h Q (Zr _ d)) (fun k c=>c.elim) (fun k c=>c) (fun k c=>c) (fun k c=>c.elim)
theorem Xc.start{w w1}{sb:Nat}{most:Int}(h:Qt w1 (Qn Qb w w1) sb (Qf.new most))(z:Qc Qb w w1):
  Xc (w1.alloc (.cells (Va sb 0 (fun _=>.slice none 0 0) true) 32)) (Qn Qb w (w1.alloc (.cells (Va sb 0 (fun _=>.slice none 0 0) true) 32))) w1.heap.size (Qf.new most)∧Qc Qb w (w1.alloc (.cells (Va sb 0 (fun _=>.slice none 0 0) true) 32)):=by
 have q:Qc Qb w1 (w1.alloc (.cells (Va sb 0 (fun _=>.slice none 0 0) true) 32)):=(Zg _ _).alloc _;have B:Qh (w1.alloc (.cells (Va sb 0 (fun _=>.slice none 0 0) true) 32)) w1.heap.size (Va sb 0 (fun _=>.slice none 0 0) true) 32:=Qh.new _ _ _;generalize w1.alloc (.cells (Va sb 0 (fun _=>.slice none 0 0) true) 32)=w2 at*;have s1:=z.size;have s2:=B.lt;have E:Qc Qb w w2:=z.aA q;have u:Bd (Qn Qb w w2) w2:=fun k d=>((Qr k).1 d).2;refine⟨⟨sb,fun _=>.slice none 0 0,0,fun _=>[],?_,by omega,fun c _ _=>(Qbc (s:=Qf.new most) rfl).symm⟩,E⟩;show Oh _ w2 _;unfold Qc9;refine Q7 (G:=fun k=>k=w1.heap.size) (H:=Qn Qb w w1) ⟨B,rfl,fun k e=>e▸s2⟩ ?_ ?_ (fun k e=>(Qr k).2 (by omega)) (fun k d=>(Qr k).2 (by have:=(Qr k).1 d;omega)) u;·refine Q7 (G:=Qn Qb w w1) (H:=fun _=>False) (Qt.obj.aB h q (Jl.none _)) ?_ (fun k _ d=>d) (fun k d=>d) (fun k d=>d.elim) (fun k d=>by have:=(Qr k).1 d;omega);refine Qec fun P I=>?_;obtain⟨c,_,rfl⟩:=Z3.1 I;exact Uh.nil (fun k d=>d.elim)
 ·intro k e d;have:=(Qr k).1 d;omega
end
theorem F3(n:Nat)(a:Option Addr)(cap:Nat)(w):Cl 9 #[.slice a n cap] w fun e w'=>e=.returned (.bool (decide (150<n)))∧w=w':=by
 go_enter func9,ntmps9;go_wp2;go_ret;refine⟨?_,rfl⟩;congr 2;by_cases h:150<n;·simp[h];omega
 ·simp[h];omega
end
theorem Uv{n:Int}(h:(Lit.int .u64 n).wf=true):∃k:Nat,n=(k:Int)∧k<18446744073709551616:=by
 refine⟨n.toNat,?_⟩;simp[Lit.wf]at h;have e1:IntKind.u64.min=0:=by kernel_rfl
 have c:IntKind.u64.max=18446744073709551615:=by kernel_rfl
 omega
theorem Qum{n:Int}(h:(Lit.int .u8 n).wf=true):0≤n∧n<256:=by
 simp[Lit.wf]at h;have e1:IntKind.u8.min=0:=by kernel_rfl
 have c:IntKind.u8.max=255:=by kernel_rfl
 omega
def Al:List (Option IntKind):=[some .u8,some .i64,some .i64,none,some .u64,some .u64,some .u64,some .u64,some .u64,some .u64,some .u64,some .u64,some .u64,some .i64,some .i64,some .u64,some .i64,some .i64,some .u64,some .u64]
theorem Yy.of_fits{x:List Value}(h:O2 Al x):∃a:Yy,x=a.cells∧a.wf:=by unfold Al at h;obtain⟨k,y0,rfl,wk,h1⟩:=h.int1;obtain⟨v0,y1,rfl,_,h2⟩:=h1.int1;obtain⟨v1,y2,rfl,_,h3⟩:=h2.int1;obtain⟨v2,y3,rfl,h4⟩:=h3.bool1;obtain⟨u4,y4,rfl,w4,h5⟩:=h4.int1;obtain⟨v3,rfl,_⟩:=Uv w4;clear w4;obtain⟨u5,y5,rfl,w5,h6⟩:=h5.int1;obtain⟨v4,rfl,_⟩:=Uv w5;clear w5;obtain⟨u6,y6,rfl,w6,h7⟩:=h6.int1;obtain⟨v5,rfl,_⟩:=Uv w6;clear w6;obtain⟨u7,y7,rfl,w7,h8⟩:=h7.int1;obtain⟨v6,rfl,_⟩:=Uv w7;clear w7;obtain⟨u8,y8,rfl,w8,h9⟩:=h8.int1;obtain⟨v7,rfl,_⟩:=Uv w8;clear w8;obtain⟨u9,y9,rfl,w9,z⟩:=h9.int1;obtain⟨v8,rfl,_⟩:=Uv w9;clear w9;obtain⟨u10,ac,rfl,c,B⟩:=z.int1;obtain⟨v9,rfl,_⟩:=Uv c;clear c;obtain⟨u11,ae,rfl,d,E⟩:=B.int1;obtain⟨v10,rfl,_⟩:=Uv d;clear d;obtain⟨u12,af,rfl,q,I⟩:=E.int1;obtain⟨v11,rfl,_⟩:=Uv q;clear q;obtain⟨v12,ag,rfl,_,J⟩:=I.int1;obtain⟨v13,ah,rfl,_,K⟩:=J.int1;obtain⟨p0,ai,rfl,_,R⟩:=K.int1;obtain⟨p1,aj,rfl,_,U⟩:=R.int1;obtain⟨p2,ak,rfl,_,V⟩:=U.int1;obtain⟨p3,al,rfl,_,Z⟩:=V.int1;obtain⟨u19,am,rfl,u,aa⟩:=Z.int1;obtain⟨va,rfl,ab⟩:=Uv u;clear u;have hz:=aa.nil0;subst hz;exact⟨⟨k,⟨v0,v1,v2,⟨v3,v4,v5⟩,⟨v6,v7,v8⟩,⟨v9,v10,v11⟩,v12,v13⟩,⟨p0,p1,p2,p3⟩,va⟩,rfl,(Qum wk).1,(Qum wk).2,ab⟩
theorem Qvd:O9 prog 5 74=some Al:=by kernel_rfl
theorem own:ownKnob prog.godebug=none:=by kernel_rfl
end Go.Proofs.YtnnhmpehkbihnaaGreat
