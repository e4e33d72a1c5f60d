/- A part of the proof: no condition. -/
import Derived.Test.YtnnhmpehkbihnaaGreatPs15
import Derived.ScopeJumps
namespace Go.Proofs.YtnnhmpehkbihnaaGreat
set_option linter.unusedVariables false
set_option maxRecDepth 100000
set_option maxHeartbeats 4000000
open Go.RowKit
open Go.Proofs.Tryz
section
attribute [local go_sem] Qp Wk
structure Qqu(w:World)(F:Fp)(b m:Nat)(ad:Int→Nat)(f:Jc)(l:List Jh)(b' m' r:Nat)(wr:World)(lm dn:List Jh):Prop where
 it:Kj wr m r (Xy Jh.id ad l) (Xy Jh.id ad lm)
 sub:lm.Sublist l
 perm:(dn++lm).Perm l
 chg:Qc Qb w wr
 blk:Qh wr b' #[.map (some m'),.int .u64 f.mark] 212
 co:∃ad' G,Yn Jh.id Vj wr G m' ad' dn∧∀k,G k→w.heap.size≤k∧k≠r∧k≠b'
 nb:w.heap.size≤b'∧w.heap.size≤r∧b'≠r
theorem Qmt{w}{F:Fp}{b:Nat}{f:Jc}(h:J0 w F b f)(hN:∀x∈f.all,x.run.l.length<1099511627776):
  Cl 87 #[ptr b] w fun e w'=>∃b',e=.returned (ptr b')∧J0 w' (Qn Qb w w') b' f∧Qc Qb w w':=by
 obtain⟨m,ad,hA⟩:=h.addr;have HA:=O hA;obtain⟨l,hp,hB,G,hC⟩:=hA.coll;have HP:=O hp;have ak:=O hC.nodup;obtain⟨a0,a1⟩:=Q4 hB;obtain⟨s,hs⟩:=Zx (w.heap.size);obtain⟨W,hW⟩:=Zx ((w.alloc (.map #[] 0)).alloc (.cells #[.map (some w.heap.size),.int .u64 f.mark] 212));have bk:=@run_makeMap prog;have C0:Qc Qb w W:=by rw[hW];exact((Zg _ _).alloc _).alloc _
 have hm:Xq W s []:=by rw[hW,hs];exact(Xq.new w).aB ((Zg Qb _).alloc _) (fun h=>h)
 have au:Qh W (s+1) #[.map (some s),.int .u64 f.mark] 212:=by rw[hW,hs];exact Qh.new' _ _ (by simp)
 have Z:W.heap.size=s+1+1:=by rw[hW,hs];simp
 obtain⟨o,az,ag⟩:=Er (P:=prog) (hC.map.aB C0 (fun h=>h)) underlying210;have B:Hi (∃lm E,Qqu w F b m ad f l (s+1) s (s+1+1) (W.alloc o) lm E):=O (by
  have cc:Qc Qb W (W.alloc o):=(Zg _ _).alloc _;rw[Z]at ag;refine⟨l,[],ag,List.Sublist.refl _,by simp,C0.aA cc,cc.blk au (fun h=>h),⟨fun _=>0,fun k=>k=s,Yn.new (hm.aB cc (fun h=>h)) (fun k e=>by rw[e];exact(hm.aB cc (fun h=>h)).lt) rfl,?_⟩,?_⟩;·intro k e;omega
  ·omega)
 have q1:=Q4 (((Zg Qb w).alloc (.map #[] 0)).blk hB (fun h=>h));obtain⟨f0,f1⟩:=q1;have e0:=(Q4 (C0.blk hB (fun h=>h))).1;rw[Z]at az;rw[hW]at e0 B az;subst hs;have a7:=O hN;unfold ptr at*;clear h hA hB hC hp hm au C0 ag hN Z hW;go_enter func87,ntmps87;go_wp2_with fail;go_loopw [4,5,6] (fun _ _ _ wr=>∃lm E,Qqu w F b m ad f l (w.heap.size+1) w.heap.size (w.heap.size+1+1) wr lm E) (fun _ _ _ wr=>Dq wr (w.heap.size+1+1));case atStart=>exact B.o
 case round=>
  obtain⟨lm,E,c⟩:=hrel;have U:=ak.o.sublist (c.sub.map _);obtain⟨e1,_⟩:=Q4 c.blk;rcases Rx (P:=prog) c.it 0 with⟨h0,hr⟩|⟨p,hp,w2,hr,R,K,af⟩
  ·have ba:lm=[]:=by
    cases lm with
    |nil=>rfl
    |cons a l=>cases h0
   subst ba;have a4:Hi (J0 wr (Qn Qb w wr) (w.heap.size+1) f∧Qc Qb w wr):=O (by
    obtain⟨al,G',I,z⟩:=c.co;have bd:E.Perm l:=by simpa using c.perm
    refine⟨⟨w.heap.size,al,E,bd.trans HP.o,?_⟩,c.chg⟩;refine Q7 (G:=fun k=>k=w.heap.size+1) (H:=G') ⟨c.blk,rfl,fun k e=>e▸c.blk.lt⟩ (Y6 I I.bd) ?_ ?_ ?_ (fun k d=>d.elim (fun h=>h.elim) (fun h=>h.2));·rintro k rfl d;exact(z _ d).2.2 rfl
    ·rintro k rfl;exact .inr ⟨by omega,c.blk.lt⟩
    ·intro k d;exact .inr ⟨(z k d).1,I.bd k d⟩)
   clear c U;go_wp2_with fail;go_ret;exact⟨_,rfl,a4.o⟩
  ·obtain⟨x,hx,rfl⟩:=Z3.1 hp;have be:=c.sub.subset hx;have a2:=HP.o.mem_iff.1 be;have c2:Qc Qb w w2:=c.chg.trans K (fun k e=>.inr (by rw[e];omega));obtain⟨p,H,hM,hR,_⟩:=((Yu.obj m ad).aB HA.o c2 (Jl.none F)).memB a2;obtain⟨W3,J⟩:=Zx (w2.alloc (.cells (Pp x p) 215));have c3:Qc Qb w2 W3:=by rw[J];exact(Zg _ _).alloc _
   have aq:Qh W3 (ad x.id) (Pp x p) 215:=c3.blk hM (fun h=>h);have aa:Qh W3 w2.heap.size (Pp x p) 215:=by rw[J];exact Qh.new _ _ _
   have HC:=O (Mo (runP.aB hR c3 (Jl.none H)) (a7.o x a2));obtain⟨d0,d1,d2,d3⟩:=X9 hM;obtain⟨_,_,g2,_⟩:=X9 aq;have ae:Qh w2 (w.heap.size+1) #[.map (some w.heap.size),.int .u64 f.mark] 212:=K.blk c.blk (by omega);have aj:=O ae;have a5:=O aa;have ai:Hi (∀w4 q,Yv w4 (Qn Qb W3 w4) q x.run→Qc Qb W3 w4→∃w6,(Instr.mapUpdate 210 (.map (some w.heap.size)) (.int .i64 x.id) (.pointer (some ⟨w2.heap.size,0,none⟩))).run prog (w4.setCell ⟨w2.heap.size,2,none⟩ (ptr q))=.ok () w6∧
     Qqu w F b m ad f l (w.heap.size+1) w.heap.size (w.heap.size+1+1) w6 (Kp Jh.id x.id lm) (E++[x])∧Dq w6 (w.heap.size+1+1)<Dq wr (w.heap.size+1+1)):=O (by
    intro w4 q V c4;obtain⟨al,G',I,z⟩:=c.co;have s1:=c.chg.size;have s2:=K.size;have s3:=c3.size;have s4:=c4.size;have bh:w2.heap.size<W3.heap.size:=aa.lt;have bg:=(show w.heap.size+1+1<w2.heap.size from by
     obtain⟨o2,h2,_⟩:=R.walk;exact(Z2.1 h2).1)
    have an:Qc (fun k=>k=w2.heap.size) w4 (w4.setCell ⟨w2.heap.size,2,none⟩ (ptr q)):=(Zg _ _).setCell _ (.inl rfl);have a8:=c4.blk aa (fun h=>h);have ar:Qh (w4.setCell ⟨w2.heap.size,2,none⟩ (ptr q)) w2.heap.size (Pp x q) 215:=a8.set' 2 _ rfl;have a9:Yv (w4.setCell ⟨w2.heap.size,2,none⟩ (ptr q)) (Qn Qb W3 w4) q x.run:=runP.aB V an (fun k d e=>by rcases(Qr k).1 d with⟨h1,_⟩;omega);have am:Qc Qb w2 (w4.setCell ⟨w2.heap.size,2,none⟩ (ptr q)):=(c3.aA c4).trans an (fun k e=>.inr (by rw[e];exact Zv _));have bi:=ar.lt;have hX:Vj (w4.setCell ⟨w2.heap.size,2,none⟩ (ptr q)) (Qn Qb w2 (w4.setCell ⟨w2.heap.size,2,none⟩ (ptr q))) w2.heap.size x:=
     O1.new (p:=q) (G:=Qn Qb W3 w4) a9 (fun k d=>by rcases(Qr k).1 d with⟨h1,_⟩;omega) runP ar (Zv _) (fun d=>by rcases(Qr _).1 d with⟨h1,_⟩;omega)
    have ao:=I.aB Vj.obj K (fun k d e=>(z k d).2.1 e);have ap:=ao.aB Vj.obj am (Jl.none G');obtain⟨w6,ah,bb,c6⟩:=X6 (P:=prog) ap.map underlying210 underlying3 x.id (.pointer (some ⟨w2.heap.size,0,none⟩));have bc:Hn Jh.id x.id E=none:=by
     cases ha:Hn Jh.id x.id E with
     |none=>rfl
     |some y=> obtain⟨hy,bf⟩:=Y3 ha;have aw:((E++lm).map Jh.id).Nodup:=((c.perm.map _).nodup_iff).2 ak.o;rw[List.map_append,List.nodup_append]at aw;exact(aw.2.2 _ (Z3.2 ⟨y,hy,rfl⟩) _ (Z3.2 ⟨x,hx,rfl⟩) bf).elim
    have a6:=ap.put Vj.obj hX (fun k a b'=>by
     rcases(Qr k).1 a with⟨h1,_⟩;have:=ao.bd k b';omega) bc bb c6
    have bj:∀k,G' k→w.heap.size≤k∧k≠w.heap.size+1+1∧k≠w.heap.size+1:=z;have ac:Qc (fun k=>k=w.heap.size) w2 w6:=(am.none).aA c6;have ab:Kj w6 m (w.heap.size+1+1) (Xy Jh.id ad l) (Vu x.id (Xy Jh.id ad lm)):=R.aB ac (by have:=HA.o.coll;obtain⟨_,_,_,_,hq⟩:=this;have:=hq.map.lt;omega) (by omega);have ay:=O8 (key:=Jh.id) U hx;refine⟨w6,ah,⟨?_,List.filter_sublist.trans c.sub,?_,?_,ac.blk ae (by omega),⟨_,_,a6,?_⟩,c.nb⟩,?_⟩;·rw[←Hr];exact ab
    ·refine List.Perm.trans ?_ c.perm;rw[List.append_assoc];exact List.Perm.append_left E ay.symm
    ·exact c2.trans ac (fun k e=>.inr (by rw[e];exact Zv _))
    ·intro k d;rcases d with d|d;·exact z k d
     ·rcases(Qr k).1 d with⟨h1,_⟩;omega
    ·rw[ab.left_eq,c.it.left_eq,Hr];have:=ay.length_eq;simp only[Xy,List.length_map,Zm]at*;omega)
   dsimp only at hr af;have u:=J;unfold Pp at u;unfold ptr at hr af HC d2 g2 u;rw[u]at HC g2;clear c U R K c2 c3 hM aq hR aa ae hp;go_wp2_with fail;refine Zo HC ?_;rintro e w4⟨q,rfl,V,c4⟩;rw[←u]at V c4;obtain⟨w6,ah,av,Xg⟩:=ai.o w4 q V c4;have a3:=O av;have LT:=O Xg;have q4:=c4.blk a5.o (fun h=>h);obtain⟨k0,k1,k2,k3⟩:=X9 q4;have z2:=q4.frozen 2;have q5:=c4.blk ((show Qc Qb w2 W3 from by rw[J];exact(Zg _ _).alloc _).blk aj.o (fun h=>h)) (fun h=>h);have ax:w2.heap.size≠w.heap.size+1:=by have:=aj.o.lt;omega
   obtain⟨y0,y1⟩:=Q4 (q5.other (a:=⟨w2.heap.size,2,none⟩) (ptr q) ax);unfold ptr at ah y0 y1;clear V c4 av Xg q4 q5 hr af d0 d1 d2 d3 g2 J u;go_wp2_with fail;exact⟨⟨_,_,a3.o⟩,LT.o⟩
end
section
open Go.Shelf
attribute [local go_sem] Oper.semAt_some Qp
attribute [local irreducible] Uo
theorem Qac{T:Fp}(W):Le T W W.drew:=fun b o _ h _=>h
theorem Le.refl{T:Fp}(W):Le T W W:=fun b o _ h _=>h
theorem Jw.kpt{T:Fp}{w w'}(d:Le T w w'):∀(t:Tr),Jw w t→(∀a∈t.aC,T a)→Jw w' t
 | .nil,_,_=>trivial
 | .aD x c l r,⟨h1,h2,h3⟩,hT=>⟨d.blk h1 (hT x.a (by simp[Tr.aC])),Jw.kpt d l h2 (fun a ha=>hT a (by simp[Tr.aC,ha])),Jw.kpt d r h3 (fun a ha=>hT a (by simp[Tr.aC,ha]))⟩
def Qof(x:Xu):Array Value:=#[Yo x.1 x.2.1,.int .u64 x.2.2]
def Ok(T:Fp)(J k:List Xu→World→Prop)(c l:List Xu)(W:World)(e:Ending)(d:World):Prop:=
 ∃b:Bool,e=.returned (.bool b)∧(b=true→J (c++l) d∧Le T W d)∧(b=false→∃p,p<+:l∧k (c++p) d)
theorem Qrb{n l:Nat}{T:Fp}{J k:List Xu→World→Prop}(q:∀c W,J c W→J c W.drew)(c:List Xu)(W)(h0:J c W):
  CallsIn Fence.wide n prog 228 #[.pointer none,.func (.yield l) #[] #[]] W (Ok T J k c [] W):=by
 have d:Hi (Ok T J k c [] W (.returned (.bool true)) W.drew):=O ⟨true,rfl,fun _=>⟨by rw[List.append_nil];exact q _ _ h0,Qac W⟩,nofun⟩;clear h0 q;refine callsIn_of_wp func228 rfl trivial ?_ rfl;simp only[ntmps228,List.size_toArray,Zm,List.length_nil,Nat.reduceAdd,Nat.reduceSub,Array.replicate_succ,Array.replicate_zero,List.push_toArray,List.append_toArray,List.nil_append,List.cons_append];gi_wp2;refine Lx [(0,0),(0,1),(0,2),(0,3),(0,4),(0,5),(0,6),(0,7),(2,8),(0,9),(0,10),(0,11),(0,12),(0,13),(0,14),(0,15),(0,16),(0,17),(0,18),(2,19),(0,20),(0,21),(0,22),(0,23),(0,24),(0,25),(0,26),(2,27),(0,28),(0,29),(2,30)] Zq (by kernel_rfl) (fun _ _ _ _ _ h=>h) ?_;simp only[Jk,Zf,Ze,Zd];iterate 3 (refine Et (by kernel_rfl) (by go_simp;try rfl) ?_)
 iterate 26 (first|(refine Qf4 (by kernel_rfl) ?_)|(refine Ae (by kernel_rfl) ?_)|(refine Qf3 (by kernel_rfl) ?_);try simp only[Act.put,Za,Zc,Zb])
 refine Et (by kernel_rfl) (by go_simp;try rfl) ?_;refine Bl ?_;gi_wp2;refine Qf2 ?_;gi_wp2;refine bodyPost_ret (v:=.bool true) (by simp[results,Tryz.results228,go_sem]) rfl d.o
theorem Qoc{n l N:Nat}{T:Fp}{J z:List Xu→World→Prop}(hJ:∀d W,J d W→J d W.drew)
  (hY:∀m d x W1,J d W1→d.length<N→YieldAt Fence.wide m prog l (Qof x) W1 fun e W'=>(e=.returned (.bool true)∧J (d++[x]) W'∧Le T W1 W')∨(e=.returned (.bool false)∧z (d++[x]) W'))
  {x:Nd} {c:Bool} {L R:Tr} (d:List Xu) (W) (hA:Jw W (.aD x c L R)) (hT:∀a∈(Tr.aD x c L R).aC,T a) (h0:J d W) (u:d.length+(Tr.aD x c L R).flat.length≤N)
  (il:∀m d W,Jw W L→J d W→d.length+L.flat.length≤N→CallsIn Fence.wide m prog 228 #[L.aH,.func (.yield l) #[] #[]] W (Ok T J z d L.flat W))
  (ir:∀m d W,Jw W R→J d W→d.length+R.flat.length≤N→CallsIn Fence.wide m prog 228 #[R.aH,.func (.yield l) #[] #[]] W (Ok T J z d R.flat W)):
  CallsIn Fence.wide n prog 228 #[.pointer (some ⟨x.a,0,none⟩),.func (.yield l) #[] #[]] W (Ok T J z d (Tr.aD x c L R).flat W):=by
 have HB:=O hA.1;have HA:=O hA;have HJ:=O hJ;have HY:=O hY;have H0:=O h0;have HL:=O u;have IL:=O il;have IR:=O ir;have HT:=O hT;obtain⟨pl,ac⟩:=L.ptrV_any;obtain⟨pr,ae⟩:=R.ptrV_any;rw[ac]at HB IL;rw[ae]at HB IR;clear hA hJ hY h0 u il ir hT ac ae;refine callsIn_of_wp func228 rfl trivial ?_ rfl;simp only[ntmps228,List.size_toArray,Zm,List.length_nil,Nat.reduceAdd,Nat.reduceSub,Array.replicate_succ,Array.replicate_zero,List.push_toArray,List.append_toArray,List.nil_append,List.cons_append];gi_wp2;obtain⟨K,a1,U,V,Z,a5,a6,a7⟩:=Ja HB.o.drew;refine Lx [(0,0),(0,1),(0,2),(0,3),(0,4),(0,5),(0,6),(0,7),(2,8),(0,9),(0,10),(0,11),(0,12),(0,13),(0,14),(0,15),(0,16),(0,17),(0,18),(2,19),(0,20),(0,21),(0,22),(0,23),(0,24),(0,25),(0,26),(2,27),(0,28),(0,29),(2,30)] Zq (by kernel_rfl) (fun _ _ _ _ _ h=>h) ?_;simp only[Jk,Zf,Ze,Zd];iterate 8 (refine Et (by kernel_rfl) (by go_simp;try rfl) ?_)
 clear K a1 U V Z a5 a6 a7;refine Bl ?_;gi_wp2;refine⟨trivial,(fun h=>by cases h),?_⟩;refine(IL.o _ d W.drew (Jw.aB ((Zg Qb W).drew) _ HA.o.2.1 (fun a _ h=>h)) (HJ.o _ _ H0.o) (by have:=HL.o;simp[Tr.flat]at this;omega)).mono ?_;rintro e w1⟨b1,rfl,k1,k2⟩;cases b1
 ·obtain⟨p,hp,hx⟩:=k2 rfl;have k:Hi (Ok T J z d (Tr.aD x c L R).flat W (.returned (.bool false)) w1):=O ⟨false,rfl,nofun,fun _=>⟨p,hp.trans (by simp[Tr.flat]),hx⟩⟩;clear k1 k2 hp hx;gi_wp2;iterate 1 (first|(refine Et (by kernel_rfl) (by go_simp;try rfl) ?_)|(refine Dl (by kernel_rfl) (fun E=>by go_simp;try rfl) ?_);try simp only[Act.put,Za,Zc,Zb])
  iterate 10 (first|(refine Qf4 (by kernel_rfl) ?_)|(refine Ae (by kernel_rfl) ?_)|(refine Qf3 (by kernel_rfl) ?_);try simp only[Act.put,Za,Zc,Zb])
  iterate 2 (first|(refine Et (by kernel_rfl) (by go_simp;try rfl) ?_)|(refine Dl (by kernel_rfl) (fun E=>by go_simp;try rfl) ?_);try simp only[Act.put,Za,Zc,Zb])
  iterate 6 (first|(refine Qf4 (by kernel_rfl) ?_)|(refine Ae (by kernel_rfl) ?_)|(refine Qf3 (by kernel_rfl) ?_);try simp only[Act.put,Za,Zc,Zb])
  iterate 2 (first|(refine Et (by kernel_rfl) (by go_simp;try rfl) ?_)|(refine Dl (by kernel_rfl) (fun E=>by go_simp;try rfl) ?_);try simp only[Act.put,Za,Zc,Zb])
  refine Bl ?_;gi_wp2;refine Qf2 ?_;gi_wp2;refine bodyPost_ret (v:=.bool false) (by simp[results,Tryz.results228,go_sem]) rfl k.o
 ·obtain⟨aa,B⟩:=k1 rfl;have B1:=O (B.blk HB.o.drew (HT.o _ (by simp[Tr.aC])));obtain⟨K,a1,U,V,Z,a5,a6,a7⟩:=Ja B1.o;obtain⟨fn,aj,ag,ai,hy,hR⟩:=HY.o 0 _ (x.n,x.i,x.v) w1 aa (by have:=HL.o;simp[Tr.flat]at this⊢;omega);have I:=O B;have HR:=O hR;clear k1 k2 aa B hR;dsimp only[Qof,Yo]at hy;gi_wp2;iterate 10 (first|(refine Et (by kernel_rfl) (by go_simp;try rfl) ?_)|(refine Dl (by kernel_rfl) (fun E=>by go_simp;try rfl) ?_);try simp only[Act.put,Za,Zc,Zb])
  clear K a1 U V Z a5 a6 a7;refine Bl ?_;gi_wp2;refine⟨(fun h=>by cases h),?_⟩;refine(Nx HR.o).mono ?_;clear hy;rintro e W3(⟨rfl,ab,q⟩|⟨rfl,af⟩)
  ·have B3:=O (q.blk B1.o (HT.o _ (by simp[Tr.aC])));obtain⟨K,a1,U,V,Z,a5,a6,a7⟩:=Ja B3.o;have AR:=O (Jw.kpt (I.o.trans q) R (Jw.aB ((Zg Qb W).drew) _ HA.o.2.2 (fun a _ h=>h)) (fun a ha=>HT.o a (by simp[Tr.aC,ha])));have ah:=O ((Le.trans (Qac W) I.o).trans q);have J3:=O ab;clear ab q;gi_wp2;iterate 7 (first|(refine Et (by kernel_rfl) (by go_simp;try rfl) ?_)|(refine Dl (by kernel_rfl) (fun E=>by go_simp;try rfl) ?_);try simp only[Act.put,Za,Zc,Zb])
   clear K a1 U V Z a5 a6 a7;refine Bl ?_;gi_wp2;refine⟨trivial,(fun h=>by cases h),?_⟩;refine(IR.o _ _ W3 AR.o J3.o (by have:=HL.o;simp[Tr.flat]at this⊢;omega)).mono ?_;rintro e W4⟨b4,rfl,k1,k2⟩;have k:Hi (Ok T J z d (Tr.aD x c L R).flat W (.returned (.bool b4)) W4):=O (by
    refine⟨b4,rfl,fun h=>⟨?_,ah.o.trans (k1 h).2⟩,fun h=>?_⟩;·have:=(k1 h).1;simpa[Tr.flat]using this
    ·obtain⟨p,hp,hx⟩:=k2 h;refine⟨L.flat++(x.n,x.i,x.v)::p,?_,by simpa using hx⟩;simp[Tr.flat,hp])
   clear k1 k2;gi_wp2;iterate 2 (first|(refine Et (by kernel_rfl) (by go_simp;try rfl) ?_)|(refine Dl (by kernel_rfl) (fun E=>by go_simp;try rfl) ?_);try simp only[Act.put,Za,Zc,Zb])
   refine Bl ?_;gi_wp2;refine Qf2 ?_;gi_wp2;refine bodyPost_ret (v:=.bool b4) (by simp[results,Tryz.results228,go_sem]) rfl k.o
  ·have k:Hi (Ok T J z d (Tr.aD x c L R).flat W (.returned (.bool false)) W3):=O ⟨false,rfl,nofun,fun _=>⟨L.flat++[(x.n,x.i,x.v)],by simp[Tr.flat],by simpa using af⟩⟩;clear af;gi_wp2;iterate 2 (first|(refine Et (by kernel_rfl) (by go_simp;try rfl) ?_)|(refine Dl (by kernel_rfl) (fun E=>by go_simp;try rfl) ?_);try simp only[Act.put,Za,Zc,Zb])
   iterate 6 (first|(refine Qf4 (by kernel_rfl) ?_)|(refine Ae (by kernel_rfl) ?_)|(refine Qf3 (by kernel_rfl) ?_);try simp only[Act.put,Za,Zc,Zb])
   iterate 2 (first|(refine Et (by kernel_rfl) (by go_simp;try rfl) ?_)|(refine Dl (by kernel_rfl) (fun E=>by go_simp;try rfl) ?_);try simp only[Act.put,Za,Zc,Zb])
   refine Bl ?_;gi_wp2;refine Qf2 ?_;gi_wp2;refine bodyPost_ret (v:=.bool false) (by simp[results,Tryz.results228,go_sem]) rfl k.o
theorem Wf{l N:Nat}{T:Fp}{J B:List Xu→World→Prop}(k:∀d W,J d W→J d W.drew)
  (z:∀m d x u,J d u→d.length<N→YieldAt Fence.wide m prog l (Qof x) u fun e q=>(e=.returned (.bool true)∧J (d++[x]) q∧Le T u q)∨(e=.returned (.bool false)∧B (d++[x]) q)):
  ∀(t:Tr)(n:Nat)(d:List Xu)(W),Jw W t→(∀a∈t.aC,T a)→J d W→d.length+t.flat.length≤N→
   CallsIn Fence.wide n prog 228 #[t.aH,.func (.yield l) #[] #[]] W (Ok T J B d t.flat W)
 | .nil,n,d,W,_,_,h0,_=>Qrb k d W h0
 | .aD x c L R,n,d,W,hA,hT,h0,hlen=>Qoc k z d W hA hT h0 hlen
   (fun m d W ha h0 hl=>Wf k z L m d W ha (fun a h=>hT a (by simp[Tr.aC,h])) h0 hl)
   (fun m d W ha h0 hl=>Wf k z R m d W ha (fun a h=>hT a (by simp[Tr.aC,h])) h0 hl)
end
section
open Go.Shelf
attribute [local go_sem] Oper.semAt_some Qp
theorem Qqi(n l' V b:Nat)(T:Fp)(J K:List Xu→World→Prop)(W){t:Tr}{p:Value}{k:Int}(hB:Qh W V #[ptr b] 195)(U:Qh W b #[Dd,Vv,t.aH,.int .i64 k] 254)(hA:Jw W t)(u:∀a∈t.aC,T a)
  (hJ:∀c W,J c W→J c W.drew)
  (hY:∀m c x R,J c R→c.length<t.flat.length→YieldAt Fence.wide m prog l' (Qof x) R fun e d=>(e=.returned (.bool true)∧J (c++[x]) d∧Le T R d)∨(e=.returned (.bool false)∧K (c++[x]) d))(h0:J [] W):
  CallsIn Fence.wide n prog 227 #[.func (.yield l') #[] #[],.pointer (some ⟨V,0,none⟩)] W fun e d=>(∃v,e=.returned v)∧((∃B,B=t.flat∧J B d)∨(∃c,c<+:t.flat∧K c d)):=by
 have Z:=O (fun n=>Wf (n:=n) hJ hY t);have c0:=Jf hB;obtain⟨c1,c2,c3,c4⟩:=X9 U;have I:=O (Zt hA (Zt u h0));have HN:=O (fun W(h:Qgc W b)=>Od h);have q:Hi (Qgc W b):=O ⟨_,_,U⟩;obtain⟨pv,z⟩:=Zx (t.aH);rw[←z]at c3 Z;clear z hB U hA u hJ hY h0;unfold ptr at*;refine callsIn_of_wp func227 rfl trivial ?_ rfl;simp only[ntmps227,List.size_toArray,Zm,List.length_nil,Nat.reduceAdd,Nat.reduceSub,Array.replicate_succ,Array.replicate_zero,List.push_toArray,List.append_toArray,List.nil_append,List.cons_append];gi_wp2;refine⟨trivial,(fun h=>by cases h),?_⟩;refine(callsIn_wide.2 (HN.o _ q.o)).mono ?_;rintro e w1⟨rfl,rfl⟩;gi_wp2;refine⟨trivial,(fun h=>by cases h),?_⟩;refine(Z.o _ [] W I.o.1 I.o.2.1 I.o.2.2 (by simp)).mono ?_;rintro e w2⟨b2,rfl,k1,k2⟩;have E:Hi ((∃B,B=t.flat∧J B w2)∨(∃c,c<+:t.flat∧K c w2)):=O (by
  cases b2 with
  |true=>exact .inl ⟨_,rfl,by simpa using(k1 rfl).1⟩
  |false=>
   obtain⟨p,hp,hx⟩:=k2 rfl;exact .inr ⟨p,hp,by simpa using hx⟩)
 clear k1 k2;gi_wp2;refine bodyPost_end (results_none rfl _ _ _) rfl ?_;exact⟨⟨_,rfl⟩,E.o⟩
theorem Qjc(n q b:Nat)(T:Fp)(w){t:Tr}{p:Value}{k:Int}(I:Qh w q #[ptr b] 195)(R:Qh w b #[Dd,Vv,t.aH,.int .i64 k] 254)(E:Jw w t)(u:∀a∈t.aC,T a):
  SeqStopsK Fence.wide n prog 227 #[.pointer (some ⟨q,0,none⟩)] Qof (Le T) (fun V=>V=t.flat) (fun c=>c<+:t.flat) t.flat.length w:=fun l' J z W hW K _ U h0=>
 Qqi (p:=p) n l' q b T J z W ((Qc.ofBelow (S:=Qb) hW).blk I (fun h=>h)) ((Qc.ofBelow (S:=Qb) hW).blk R (fun h=>h)) (Jw.aB (Qc.ofBelow (S:=Qb) hW) t E (fun _ _ h=>h)) u
  (fun c d h=>K c d d.drew none h ⟨rfl,rfl,rfl,Zv _,fun _ _ _=>rfl⟩ (fun r e=>by cases e)) (fun m c x d h1 B=>Qf6 (U c x d h1 B)) h0
theorem Qqj(b:Nat)(w):Cl 213 #[ptr b] w fun e w'=>e=.returned (.func (.func 227) #[] #[.pointer (some ⟨w.heap.size,0,none⟩)])∧w'=w.alloc (.cells #[ptr b] 195):=by unfold ptr;go_enter func213,ntmps213;go_wp2;go_ret;exact⟨rfl,rfl⟩
def Qrf(l:List Xu):Nat:=(l.head?.map (·.1)).getD 0
def Wl(l:List Xu):Int:=(l.head?.map (·.2.1)).getD 0
theorem Qis{w}{F:Fp}{b:Nat}{l:List Xu}(h:Vz w F b l):
  Cl 170 #[ptr b] w fun e w'=>e=.returned (.tuple #[Yo (Qrf l) (Wl l),.bool (!l.isEmpty)])∧Qc Qb w w':=by
 obtain⟨t,hR⟩:=h;have HU:=O (Qqj b);refine callsIn_wide (n:=9).1 ?_;unfold ptr at HU⊢;refine callsIn_of_wp_marks func170 rfl trivial ?_;simp only[ntmps170,List.size_toArray,Zm,List.length_nil,Nat.reduceAdd,Nat.reduceSub,Array.replicate_succ,Array.replicate_zero,List.push_toArray,List.append_toArray,List.nil_append,List.cons_append];gi_wp2_with (refine⟨trivial,?_⟩;gi_at_call 213;refine(callsIn_wide.2 (HU.o _)).mono ?_;rintro e w1⟨rfl,rfl⟩);obtain⟨s,hs⟩:=Zx (w.heap.size);obtain⟨z,B⟩:=Zx ((((w.alloc (.cells #[.int .u64 0,.int .i64 0] 204)).alloc (.cells #[.bool false] 4)).alloc (.cells #[.pointer (some ⟨b,0,none⟩)] 195)));have C0:Hi (Qc Qb w z):=O (by rw[B];exact(((Zg _ _).alloc _).alloc _).alloc _);have ah:z.heap.size=s+3:=by rw[B,hs];simp
 have B2:Hi (Qh z s #[.int .u64 0,.int .i64 0] 204):=O (by rw[B,hs];exact((Qh.new' _ _ (by simp)).alloc _).alloc _);have B3:Hi (Qh z (s+1) #[.bool false] 4):=O (by rw[B,hs];exact(Qh.new' _ _ (by simp)).alloc _);have B4:Hi (Qh z (s+1+1) #[ptr b] 195):=O (by rw[B,hs];exact Qh.new' _ _ (by simp));have ac:Hi (Qh z b #[Dd,Vv,t.aH,.int .i64 l.length] 254):=O (C0.o.blk hR.top (fun h=>h));have ab:Hi (Jw z t):=O (Jw.aB C0.o t hR.sub.at' (fun _ _ h=>h));have Xg:∀a∈t.aC,a<s:=fun a ha=>by rw[hs];exact Jw.lt t hR.sub.at' a ha
 have HF:=O hR.flat;rw[←hs,←B];have J:=O hs;clear B hs hR;refine wpIn_rangeFunc_ownH rfl (by decide) (gf:=227) (lb:=#[.pointer (some ⟨s+1+1,0,none⟩)]) rfl trivial (enters_of func227 (by kernel_rfl) rfl)
  (Qjc (p:=.pointer none) 8 (s+1+1) b (fun k=>k∈t.aC) z B4.o ac.o ab.o (fun a h=>h))
  (fun h k=>h.trans k) (fun W l o o' h1 h2 h3 h4=>Le.put (w:=z) W l o o' h1 h2 h3 h4) (Below.refl _ _) (fun _=>rfl)
  (fun E W=>(E=[]∧Qh W s #[.int .u64 0,.int .i64 0] 204∧Qh W (s+1) #[.bool false] 4)∧Qc Qb z W)
  (fun c E W=>(c=.ret∧(∃x,E=[x]∧Qh W s #[.int .u64 x.1,.int .i64 x.2.1] 204)∧Qh W (s+1) #[.bool true] 4)∧Qc (fun k=>k=s∨k=s+1) z W)
  ?o1 ?o2 ⟨⟨rfl,B2.o,B3.o⟩,Zg _ _⟩
  (fun x a' W=>∃V,s+3≤V∧Qh W V #[.int .u64 x.1,.int .i64 x.2.1] 204∧a'={tmps:=#[.pointer (some ⟨b,0,none⟩),undef,.pointer (some ⟨s,0,none⟩),.pointer (some ⟨s+1,0,none⟩),.pointer (some ⟨V,0,none⟩),.pointer (some ⟨b,0,none⟩),.func (.func 227) #[] #[.pointer (some ⟨s+1+1,0,none⟩)],Yo x.1 x.2.1,.int .u64 x.2.2,undef,undef],defers:=[]})
  ?o3 ?assign ?body ?done ?stop
 case assign=> rintro l' E x W K hI hK;obtain⟨U,R,xv⟩:=x;dsimp only[Qof,Yo];gi_wp2;have cc:Qc Qb W (W.alloc (.cells #[.int .u64 U,.int .i64 R] 204)):=(Zg _ _).alloc _;exact hK _ _ (Vg cc (fun k h=>h.elim)) (Le.chg cc (fun _ _ h=>h)) ⟨⟨hI.1.1,cc.blk hI.1.2.1 (fun h=>h),cc.blk hI.1.2.2 (fun h=>h)⟩,hI.2.aA cc⟩ ⟨W.heap.size,by have:=hI.2.size;omega,Qh.new W _ _,rfl⟩
 case body=>
  rintro l' E⟨U,R,xv⟩a' W hl ag⟨⟨rfl,b2,I⟩,q⟩⟨V,af,bX,rfl⟩ae;obtain⟨x0,x1⟩:=Q4 bX;obtain⟨y0,y1⟩:=Q4 b2;have y2:=Jf I;have z0:=b2.frozen;have z1:=I.frozen 0;dsimp only[Yo]at*;have HW:Hi (∀w',w'=((W.setCell ⟨s,0,none⟩ (.int .u64 U)).setCell ⟨s,1,none⟩ (.int .i64 R)).setCell ⟨s+1,0,none⟩ (.bool true)→KeepsFrom z.heap.size W w'∧Qh w' s #[.int .u64 U,.int .i64 R] 204∧Qh w' (s+1) #[.bool true] 4∧Qc (fun k=>k=s∨k=s+1) z w'):=O (by
   rintro w' rfl;have c1:Qc (fun k=>k=s∨k=s+1) W (((W.setCell ⟨s,0,none⟩ (.int .u64 U)).setCell ⟨s,1,none⟩ (.int .i64 R)).setCell ⟨s+1,0,none⟩ (.bool true)):=(((Zg _ _).setCell _ (.inl (.inl rfl))).setCell _ (.inl (.inl rfl))).setCell _ (.inl (.inr rfl));refine⟨Vg c1 (fun k hk=>by rcases hk with h|h<;>omega),((b2.set' 0 _ rfl).set' 1 _ rfl).other _ (by show s+1≠s;omega),?_,(q.none).aA c1⟩;exact((I.other (a:=⟨s,0,none⟩) _ (by show s≠s+1;omega)).other (a:=⟨s,1,none⟩) _ (by show s≠s+1;omega)).set' 0 _ rfl)
  clear b2 I bX q;gi_wp2;obtain⟨k1,k2,k3,k4⟩:=HW.o _ rfl;exact⟨k1,⟨rfl,⟨_,rfl,k2⟩,k3⟩,k4⟩
 case o1=>exact OwnFrom.and (OwnFrom.and (ownFrom_pure _ _) (OwnFrom.and (Yx _ _ (fun _=>_) _) (Yx _ _ (fun _=>_) _))) (Dr (Zv _))
 case o2=> intro c E W W' row h hg hr;obtain⟨⟨e,⟨x,Z,b2⟩,I⟩,hc⟩:=h;exact⟨⟨e,⟨x,Z,Yx z.heap.size s (fun(_:Unit)=>#[.int .u64 x.1,.int .i64 x.2.1]) _ () W W' row b2 hg hr⟩,Yx z.heap.size (s+1) (fun(_:Unit)=>#[.bool true]) _ () W W' row I hg hr⟩,Dr (β:=Unit) (Zv _) () W W' row hc hg hr⟩
 case o3=>exact fun x a' _ X Y row hs hg hr=>by obtain⟨V,e1,Z,e3⟩:=hs;exact⟨V,e1,Yx z.heap.size V (fun(_:Unit)=>#[.int .u64 x.1,.int .i64 x.2.1]) _ () X Y row Z hg hr,e3⟩
 case done=>
  rintro D ys W hD hp⟨⟨rfl,b2,I⟩,q⟩hK;have hl:l=[]:=by rw[←HF.o];exact hp.symm
  subst hl;obtain⟨y0,y1⟩:=Q4 b2;have y2:=Jf I;have z0:=b2.frozen;have z1:=I.frozen 0;obtain⟨W2,hW2⟩:=Zx (((W.setCell ⟨s,0,none⟩ (.int .u64 0)).setCell ⟨s,1,none⟩ (.int .i64 0)).setCell ⟨s+1,0,none⟩ (.bool false));have c1:Qc (fun k=>k=s∨k=s+1) W W2:=by rw[hW2];exact(((Zg _ _).setCell _ (.inl (.inl rfl))).setCell _ (.inl (.inl rfl))).setCell _ (.inl (.inr rfl))
  have q2:Qh W2 s #[.int .u64 0,.int .i64 0] 204:=by rw[hW2];exact((b2.set' 0 _ rfl).set' 1 _ rfl).other _ (by show s+1≠s;omega)
  have q3:Qh W2 (s+1) #[.bool false] 4:=by rw[hW2];exact((I.other (a:=⟨s,0,none⟩) _ (by show s≠s+1;omega)).other (a:=⟨s,1,none⟩) _ (by show s≠s+1;omega)).set' 0 _ rfl
  have d:=O (c1.heap hK (fun h=>by rcases h with h|h<;>omega));have CC:Hi (Qc Qb w W2):=O (C0.o.trans (q.none.aA c1) (fun k hk=>.inr (by rw[←J.o];rcases hk with h|h<;>omega)));have Q2:=O q2;have Q3:=O q3;have aa:w.heap.size≤D:=by have:=J.o;omega
  clear b2 I q c1 q2 q3 hK hp;gi_wp2;rw[←hW2];clear hW2;refine⟨by simp,.inl ⟨_,_,rfl,run_takeDeferred d.o,?_⟩⟩;have r2:=Uc Q2.o d.o;have r3:=Uc Q3.o d.o;obtain⟨e0,e1⟩:=Q4 r2;have Z:=Jf r3;refine⟨.tuple #[Yo 0 0,.bool false],?_,rfl,Ud CC.o aa (Z2.1 d.o).1⟩;clear r2 r3;simp[results,Tryz.results170,go_sem,e0,e1,Z,Yo]
 case stop=>
  rintro D c' E W hD u⟨⟨rfl,⟨x,rfl,b2⟩,I⟩,q⟩hK;obtain⟨U,R,xv⟩:=x;obtain⟨l2,hl⟩:∃l2,l=(U,R,xv)::l2:=by
   rw[←HF.o];cases ht:t.flat with
   |nil=>rw[ht]at u;simp at u
   |cons y l2=> rw[ht]at u;obtain⟨rfl,_⟩:=List.cons_prefix_cons.1 u;exact⟨l2,rfl⟩
  subst hl;have CC:Hi (Qc Qb w W):=O (C0.o.trans q (fun k hk=>.inr (by rw[←J.o];rcases hk with h|h<;>omega)));have aa:w.heap.size≤D:=by have:=J.o;omega
  have Q2:=O b2;have Q3:=O I;have d:=O hK;clear b2 I q hK u;gi_wp2;refine⟨by simp,.inl ⟨_,_,rfl,run_takeDeferred d.o,?_⟩⟩;have r2:=Uc Q2.o d.o;have r3:=Uc Q3.o d.o;obtain⟨e0,e1⟩:=Q4 r2;have Z:=Jf r3;refine⟨.tuple #[Yo U R,.bool true],?_,rfl,Ud CC.o aa (Z2.1 d.o).1⟩;clear r2 r3;simp[results,Tryz.results170,go_sem,e0,e1,Z,Yo]
end
section
attribute [local go_sem] Qp
theorem Fm{w}{F:Fp}{b:Nat}{l:List Xu}(h:Jg w F b l):Cl 104 #[ptr b] w fun e w'=>e=.returned (.tuple #[.int .i64 (Wl l),.bool (!l.isEmpty)])∧Qc Qb w w':=by obtain⟨T,m,L,B,h0,⟨G,h1⟩,z⟩:=h.opn;have q:=O (Dp h0);have c:=O (Qis h1);generalize Qrf l=n at c;generalize Wl l=i at c⊢;generalize(!l.isEmpty)=u at c⊢;unfold ptr Yo at*;clear h B h0 h1 z;go_enter func104,ntmps104;go_wp2_with fail;refine Zy q ?_;rintro w1 rfl;go_wp2_with fail;refine Zy c ?_;intro w1 d;have k:=O (d.alloc (.cells #[.int .u64 n,.int .i64 i] 204));clear d;go_wp2;refine bodyPost_ret (v:=.tuple #[.int .i64 i,.bool u]) (by simp[results,Tryz.results104,go_sem]) rfl ⟨rfl,k.o⟩
theorem Qkc{w}{F:Fp}{b:Nat}{l:List Xu}(h:Yq w F b l):Cl 49 #[ptr b] w fun e w'=>e=.returned (.int .u64 ((Hk l:Nat):Int))∧Qc Qb w w':=by
 obtain⟨p,G,u,k,z⟩:=h.ex;have B:Hi (Cl 103 #[ptr p] w fun e w'=>e=.returned (.int .u64 ((Hk l:Nat):Int))∧Qc Qb w w'):=O (by
  cases l with
  |nil=> have q:=O (Fm k);rw[show((Hk []:Nat):Int)=9223372036854775808 from rfl];dsimp only[Wl,List.head?_nil,Option.map_none,Option.getD_none,List.isEmpty_nil,Bool.not_true]at q;unfold ptr at*;clear h u k z;go_enter func103,ntmps103;go_wp2_with fail;refine Zy q ?_;intro w1 c;have d:=O c;clear c;go_wp2;go_ret;exact⟨rfl,d.o⟩
  |cons e l=>
   obtain⟨n,i,v⟩:=e;have q:=O (Fm k);have K:=O (fun w'(hc:Qc Qb w w')=>Qn0 (Jg.obj.aB k hc (Jl.none G)) n i v (List.mem_cons_self));rw[show Hk ((n,i,v)::l)=n from rfl];dsimp only[Wl,List.head?_cons,Zn,Option.getD_some,List.isEmpty_cons,Bool.not_false]at q;unfold ptr at*;clear h u k z;go_enter func103,ntmps103;go_wp2_with fail;refine Zy q ?_;intro w1 c;have d:=O c;clear c;go_wp2_with fail;refine Zz (K.o _ d.o) ?_;intro w2 I;have J:=O (d.o.aA I);clear I;go_wp2;go_ret;exact⟨rfl,J.o⟩)
 have E:Hi (Cl 102 #[ptr b,.func (.func 103) #[] #[],.int .u64 9223372036854775808] w fun e w'=>e=.returned (.int .u64 ((Hk l:Nat):Int))∧Qc Qb w w'):=O (by
  have R:=Jf u;generalize((Hk l:Nat):Int)=v at B⊢;unfold ptr at*;clear h u k z;go_enter func102,ntmps102;go_wp2_with fail;refine Zy B ?_;intro w1 c;have d:=O c;clear c;go_wp2;go_ret;exact⟨rfl,d.o⟩)
 generalize((Hk l:Nat):Int)=v at E⊢;unfold ptr at*;clear h u k z B;go_enter func49,ntmps49;go_wp2_with fail;refine Zy E ?_;intro w1 c;have d:=O c;clear c;go_wp2;go_ret;exact⟨rfl,d.o⟩
theorem Qmi{w:World}{g c:Nat}{x:Nat}(h:w.cell? ⟨g,0,none⟩=some (.int .u64 x)):
  Cl 212 #[.slice (some ⟨g,0,none⟩) 1 c] w fun e w'=>e=.returned (.int .u64 x)∧Qc Qb w w':=by
 have h':w.drew.cell? ⟨g,0,none⟩=some (.int .u64 x):=h;go_enter func212,ntmps212;go_wp2_with fail;refine wp_loop_rounds 1 ?_;rw[rounds_succ];go_wp2;go_ret;exact⟨rfl,Zg _ _⟩
section
attribute [local go_sem ↓] Yd
theorem Qjf{w:World}{g c:Nat}{own x:Nat}(h:w.cell? ⟨g,0,none⟩=some (.int .u64 x)):
  Cl 169 #[.int .u64 own,.slice (some ⟨g,0,none⟩) 1 c] w fun e w'=>e=.returned (.int .u64 ((max own x:Nat):Int))∧Qc Qb w w':=by
 have q:=O (fun(w:World)(h:w.cell? ⟨g,0,none⟩=some (.int .u64 x))=>Qmi (c:=c) h);have u:((max own x:Nat):Int)=max (own:Int) (x:Int):=by omega
 rw[u];go_enter func169,ntmps169;go_wp2_with fail;refine Zz (q.o _ h) ?_;intro w1 d;have k:=O d;clear d;go_wp2;go_ret;exact⟨rfl,k.o⟩
end
end
section
attribute [local go_sem] Qp
attribute [local irreducible] Kl
structure Ps(N:Nat)(c:Qx):Prop where
 total:c.total≤Xw
 lim:∀r,c.limit=some r→r.l.length≤N
 mem:∀x∈c.mem.all,x.total≤Xw∧x.run.l.length≤N∧x.v≤Qq
 mark:c.mem.mark≤Qq
 tree:c.tree.length≤N
 aM:c.aM≤65536
structure Qs(dep:Int→Nat)(N:Nat)(p:Qe):Prop where
 nd:(p.map Qx.id).Nodup
 root:∃r,p.at 0=some r∧r.leaf=false
 up:dep 0=0∧∀c∈p,c.id≠0→0<c.id∧(∃q,p.at c.par=some q)∧dep c.id=dep c.par+1∧dep c.id≤8
 tr:∀q∈p,∀e∈q.tree,∃c,p.at e.2.1=some c∧c.par=q.id∧0<e.2.1
 ok:∀c∈p,Ps N c
theorem Ps.more{N M:Nat}{c:Qx}(h:Ps N c)(d:N≤M):Ps M c:=⟨h.total,fun r hr=>Zp (h.lim r hr) d,fun x k=>⟨(h.mem x k).1,Zp (h.mem x k).2.1 d,(h.mem x k).2.2⟩,h.mark,Zp h.tree d,h.aM⟩
theorem Qs.par{dep:Int→Nat}{N:Nat}{p:Qe}(h:Qs dep N p){i:Int}{c:Qx}(hc:p.at i=some c)(hi:0<i):∃q,p.at c.par=some q:=by obtain⟨k,rfl⟩:=Qe.aE hc;obtain⟨_,d⟩:=h.up;exact(d c k (by omega)).2.1
theorem Qs.pos{dep:Int→Nat}{N:Nat}{p:Qe}(h:Qs dep N p){i:Int}{c:Qx}(hc:p.at i=some c):0≤i:=by
 obtain⟨k,rfl⟩:=Qe.aE hc;obtain⟨_,d⟩:=h.up;by_cases h0:c.id=0;·omega
 ·have:=(d c k h0).1;omega
section
variable{A:Dz}{w:World}{F:Fp}{b:Nat}{p:Qe}{N:Nat}{dep:Int→Nat}
theorem Qo.fam(h:Qo A w F b p){i:Int}{c:Qx}(hc:p.at i=some c):∃G,J0 w G (A.pf i) c.mem:=by obtain⟨d,rfl⟩:=Qe.aE hc;obtain⟨G,h1,_⟩:=h.famOf d;exact⟨G,h1⟩
theorem Qo.cell(h:Qo A w F b p){i:Int}{c:Qx}(hc:p.at i=some c):Qh w (A.ad i) (Pn c (A.vl i) (A.pf i) (A.pt i)) 143:=by obtain⟨d,rfl⟩:=Qe.aE hc;exact h.cells d
theorem Xz{i:Int}{c:Qx}(hc:p.at i=some c):pkV A p i=ptr (A.ad i):=by unfold pkV;rw[hc]
theorem Ep{i:Int}(hc:p.at i=none):pkV A p i=.pointer none:=by unfold pkV;rw[hc]
theorem Qo.drew(h:Qo A w F b p):Qo A w.drew F b p:=(Qo.obj A).aB h (Zg Qb w).drew (Jl.none F)
theorem Hw(h:Qo A w F b p)(i:Int):Cl 93 #[ptr b,.int .i64 i] w fun e w'=>e=.returned (pkV A p i)∧w=w':=by have c:=h.look1 i;have d:=Jf h.blk;generalize pkV A p i=v at c⊢;unfold ptr;clear h;go_enter func93,ntmps93;go_wp2;go_ret;exact⟨rfl,rfl⟩
theorem Qe.awake_eq{i:Int}{c q:Qx}(hc:p.at i=some c)(d:p.at c.par=some q)(hi:0<i):p.aL i=q.mem.up i:=by unfold Qe.aL;rw[hc];dsimp only;rw[d];simp[hi]
theorem Qe.awake_none{i:Int}(hc:p.at i=none):p.aL i=false:=by unfold Qe.aL;rw[hc]
theorem Qe.awake_neg{i:Int}(hi:¬0<i):p.aL i=false:=by
 unfold Qe.aL;cases p.at i with
 |none=>rfl
 |some c=>simp[hi]
theorem Qe.v_eq{i:Int}{c q:Qx}(hc:p.at i=some c)(d:p.at c.par=some q)(hi:0<i):p.v i=q.mem.v i:=by unfold Qe.v;rw[hc];dsimp only;rw[d,if_neg (by omega)];rfl
theorem Qe.v_none{i:Int}(hc:p.at i=none):p.v i=0:=by unfold Qe.v;rw[hc]
theorem Qe.v_neg{i:Int}(hi:¬0<i):p.v i=0:=by
 unfold Qe.v;cases p.at i with
 |none=>rfl
 |some c=>dsimp only;rw[if_pos (by omega)]
theorem Hx(h:Qo A w F b p)(d:Qs dep N p)(i:Int):Cl 100 #[ptr b,.int .i64 i] w fun e w'=>e=.returned (.bool (p.aL i))∧Qc Qb w w':=by
 have u:=O (Hw h i);have B:=O (Zg Qb w).drew;by_cases hi:0<i
 ·have d1:decide (0<i)=true:=by simpa using hi
  cases k:p.at i with
  |none=>
   rw[Qe.awake_none k];rw[Ep k]at u;unfold ptr at*;clear h k d;go_enter func100,ntmps100;go_wp2_with fail;refine Zy u ?_;rintro w1 rfl;go_wp2_with fail;refine Qj [(0,0),(0,1),(0,2),(0,3),(0,4),(0,5),(0,6),(0,7),(0,8),(0,9),(0,10),(0,11),(0,12),(0,13),(0,14),(0,15),(0,16),(0,17),(0,18),(0,19),(2,20),(0,21),(2,22)] Zq (by kernel_rfl) (fun _ _ _ _ _ h=>h) ?_;simp only[Jk,Zf,Ze,Zd];iterate 7 (refine Jq (by kernel_rfl) (by go_simp;try rfl) ?_)
   iterate 14 (first|(refine Qs8 (by kernel_rfl) ?_)|(refine Qmz (by kernel_rfl) ?_)|(refine Qs7 (by kernel_rfl) ?_);try simp only[Act.put,Za,Zc,Zb])
   refine Jq (by kernel_rfl) (by go_simp;try rfl) ?_;refine J7 ?_;go_wp2_with fail;refine Jo ?_;go_wp2;go_ret;exact⟨rfl,B.o⟩
  |some c=>
   obtain⟨q,z⟩:=d.par k hi;obtain⟨G,I⟩:=h.drew.fam z;have E:=O (Qjg I i);rw[Qe.awake_eq k z hi];rw[Xz k]at u;have J:=h.drew.look1 c.par;rw[Xz z]at J;have K:=Jf h.drew.blk;obtain⟨R,U,V,Z,c4,c5,c6,c7⟩:=Ja (h.drew.cell k);obtain⟨q0,q1,q2,q3,q4,q5,q6,q7⟩:=Ja (h.drew.cell z);generalize q.mem.up i=r at E⊢;unfold ptr at*;clear h k d z I;go_enter func100,ntmps100;go_wp2_with fail;refine Zy u ?_;rintro w1 rfl;go_wp2_with fail;refine Qj [(0,0),(0,1),(0,2),(0,3),(0,4),(0,5),(0,6),(0,7),(0,8),(0,9),(0,10),(0,11),(0,12),(0,13),(0,14),(0,15),(0,16),(0,17),(0,18),(0,19),(2,20),(0,21),(2,22)] Zq (by kernel_rfl) (fun _ _ _ _ _ h=>h) ?_;simp only[Jk,Zf,Ze,Zd];iterate 20 (refine Jq (by kernel_rfl) (by go_simp;try rfl) ?_)
   clear J K R U V Z c4 c5 c6 c7 q0 q1 q2 q3 q4 q5 q6 q7;refine J7 ?_;go_wp2_with fail;refine Zy E ?_;rintro w2 rfl;go_wp2_with fail;refine Jq (by kernel_rfl) (by go_simp;try rfl) ?_;refine J7 ?_;go_wp2_with fail;refine Jo ?_;go_wp2;go_ret;exact⟨rfl,B.o⟩
 ·have d1:decide (0<i)=false:=by simpa using hi
  rw[Qe.awake_neg hi];generalize pkV A p i=v at u;unfold ptr at*;clear h d;go_enter func100,ntmps100;go_wp2_with fail;refine Zy u ?_;rintro w1 rfl;go_wp2_with fail;refine Qj [(0,0),(0,1),(0,2),(0,3),(0,4),(0,5),(0,6),(0,7),(0,8),(0,9),(0,10),(0,11),(0,12),(0,13),(0,14),(0,15),(0,16),(0,17),(0,18),(0,19),(2,20),(0,21),(2,22)] Zq (by kernel_rfl) (fun _ _ _ _ _ h=>h) ?_;simp only[Jk,Zf,Ze,Zd];iterate 3 (refine Jq (by kernel_rfl) (by go_simp;try rfl) ?_)
  iterate 2 (first|(refine Qs8 (by kernel_rfl) ?_)|(refine Qmz (by kernel_rfl) ?_)|(refine Qs7 (by kernel_rfl) ?_);try simp only[Act.put,Za,Zc,Zb])
  iterate 2 (refine Jq (by kernel_rfl) (by go_simp;try rfl) ?_)
  iterate 14 (first|(refine Qs8 (by kernel_rfl) ?_)|(refine Qmz (by kernel_rfl) ?_)|(refine Qs7 (by kernel_rfl) ?_);try simp only[Act.put,Za,Zc,Zb])
  refine Jq (by kernel_rfl) (by go_simp;try rfl) ?_;refine J7 ?_;go_wp2_with fail;refine Jo ?_;go_wp2;go_ret;exact⟨rfl,B.o⟩
theorem Qnl(h:Qo A w F b p)(d:Qs dep N p)(i:Int):Cl 114 #[ptr b,.int .i64 i] w fun e w'=>e=.returned (.int .u64 ((p.v i:Nat):Int))∧Qc Qb w w':=by
 have u:=O (Hw h i);have J:=O (Zg Qb w).drew;by_cases hi:0<i
 ·have d1:decide (i<1)=false:=by simp;omega
  have d2:¬i<1:=by omega
  cases k:p.at i with
  |none=> rw[Qe.v_none k];rw[Ep k]at u;unfold ptr at*;clear h k d;go_enter func114,ntmps114;go_wp2_with fail;refine Zy u ?_;rintro w1 rfl;go_wp2;go_ret;exact⟨rfl,Zg _ _⟩
  |some c=>
   obtain⟨q,z⟩:=d.par k hi;obtain⟨G,E⟩:=h.drew.fam z;have B:=O (Quf E i);rw[Qe.v_eq k z hi];rw[Xz k]at u;have I:=h.drew.look1 c.par;rw[Xz z]at I;have K:=Jf h.drew.blk;obtain⟨R,U,V,Z,c4,c5,c6,c7⟩:=Ja (h.drew.cell k);obtain⟨q0,q1,q2,q3,q4,q5,q6,q7⟩:=Ja (h.drew.cell z);generalize q.mem.v i=r at B⊢;unfold ptr at*;clear h k d z E;go_enter func114,ntmps114;go_wp2_with fail;refine Zy u ?_;rintro w1 rfl;go_wp2_with fail;refine Qj [(0,0),(0,1),(0,2),(0,3),(0,4),(0,5),(0,6),(0,7),(0,8),(0,9),(0,10),(0,11),(0,12),(2,13),(2,14)] Zq (by kernel_rfl) (fun _ _ _ _ _ h=>h) ?_;simp only[Jk,Zf,Ze,Zd];iterate 13 (refine Jq (by kernel_rfl) (by go_simp;try rfl) ?_)
   clear I K R U V Z c4 c5 c6 c7 q0 q1 q2 q3 q4 q5 q6 q7;refine J7 ?_;go_wp2_with fail;refine Zy B ?_;rintro w2 rfl;go_wp2_with fail;refine J7 ?_;go_wp2_with fail;refine Jo ?_;go_wp2;go_ret;exact⟨rfl,J.o⟩
 ·have d1:decide (i<1)=true:=by simp;omega
  have d2:i<1:=by omega
  rw[Qe.v_neg hi];generalize pkV A p i=v at u;unfold ptr at*;clear h d;go_enter func114,ntmps114;go_wp2_with fail;refine Zy u ?_;rintro w1 rfl;go_wp2;go_ret;exact⟨rfl,Zg _ _⟩
end
section
variable{A:Dz}{w:World}{F:Fp}{b:Nat}{p:Qe}{N:Nat}{dep:Int→Nat}
theorem Qo2(x:Nat)(w):Cl 168 #[.pointer none,.int .u64 x] w fun e w'=>e=.returned (.int .u64 0)∧Qc Qb w w':=by have k:=O (F8 w);go_enter func168,ntmps168;go_wp2_with fail;refine Zy k ?_;intro w1 c;have d:=O c;clear c;go_wp2;go_ret;exact⟨rfl,d.o⟩
theorem Qky{v:Value}{l:Kg}{G:Fp}(h:Do v l w G)(hn:∀r,l=some r→r.l.length<549755813888)(x:Nat)(c:x<18446744073709551616):
  Cl 168 #[v,.int .u64 x] w fun e w'=>e=.returned (.int .u64 ((l.fit x:Nat):Int))∧Qc Qb w w':=by
 rcases h with⟨rfl,rfl,_⟩|⟨b,rfl,h⟩;·exact Qo2 x w
 ·exact Qo1 h hn x c
theorem Qo.lim(h:Qo A w F b p){i:Int}{c:Qx}(hc:p.at i=some c):∃G,Do (A.vl i) c.limit w G:=by obtain⟨d,rfl⟩:=Qe.aE hc;obtain⟨G,h1,_⟩:=h.limOf d;exact⟨G,h1⟩
theorem Qo.tre(h:Qo A w F b p){i:Int}{c:Qx}(hc:p.at i=some c):∃G,Jg w G (A.pt i) c.tree:=by obtain⟨d,rfl⟩:=Qe.aE hc;obtain⟨G,h1,_⟩:=h.treeOf d;exact⟨G,h1⟩
theorem Qcx(h:Qo A w F b p){i:Int}{c:Qx}(hc:p.at i=some c)(u:Ps N c)(hN:N<549755813888):
  Cl 101 #[ptr (A.ad i)] w fun e w'=>e=.returned (.int .u64 ((c.fit:Nat):Int))∧Qc Qb w w':=by
 obtain⟨G1,hl⟩:=h.drew.lim hc;have R:=O (Qky hl (fun r hr=>Nat.lt_of_le_of_lt (u.lim r hr) hN) c.total (by have:=u.total;have:=Yz;omega));obtain⟨G2,ht⟩:=h.tre hc;have I:=O (fun w'(hc:Qc Qb w w')=>My (Jg.obj.aB ht hc (Jl.none G2)));have HB:=O (h.cell hc);obtain⟨d0,d1,d2,d3,d4,d5,d6,d7⟩:=Ja (h.drew.cell hc);unfold Qx.fit;dsimp only;generalize c.limit.fit c.total=own at R⊢;cases q:c.leaf with
 |true=>
  have K:=O q;simp only[if_true];unfold ptr at*;clear h hc u hl ht q;go_enter func101,ntmps101;go_wp2_with fail;refine Qj [(0,0),(0,1),(0,2),(0,3),(0,4),(0,5),(0,6),(0,7),(2,8),(2,9)] Zq (by kernel_rfl) (fun _ _ _ _ _ h=>h) ?_;simp only[Jk,Zf,Ze,Zd];iterate 8 (refine Jq (by kernel_rfl) (by go_simp;try rfl) ?_)
  clear d0 d1 d2 d3 d4 d5 d6 d7;refine J7 ?_;go_wp2_with fail;refine Zy R ?_;intro w1 E;have z:=O E.undrew;obtain⟨U,d,V,J,Z,c5,c6,c7⟩:=Ja (z.o.blk HB.o (fun h=>h));rw[K.o]at d;clear E;go_wp2_with fail;refine J7 ?_;go_wp2_with fail;refine Jo ?_;go_wp2;go_ret;exact⟨rfl,z.o⟩
 |false=>
  have K:=O q;simp only[Bool.false_eq_true,if_false];cases B:low c.tree with
  |none=>
   rw[B]at I;dsimp only[Option.getD_none,Option.isSome_none]at I⊢;rw[show((Qq:Nat):Int)=9223372036854775808 from rfl];unfold ptr at*;clear h hc u hl ht q B;go_enter func101,ntmps101;go_wp2_with fail;refine Qj [(0,0),(0,1),(0,2),(0,3),(0,4),(0,5),(0,6),(0,7),(2,8),(2,9)] Zq (by kernel_rfl) (fun _ _ _ _ _ h=>h) ?_;simp only[Jk,Zf,Ze,Zd];iterate 8 (refine Jq (by kernel_rfl) (by go_simp;try rfl) ?_)
   clear d0 d1 d2 d3 d4 d5 d6 d7;refine J7 ?_;go_wp2_with fail;refine Zy R ?_;intro w1 E;have z:=O E.undrew;obtain⟨U,d,V,J,Z,c5,c6,c7⟩:=Ja (z.o.blk HB.o (fun h=>h));rw[K.o]at d;unfold ptr at*;clear E;go_wp2_with fail;refine J7 ?_;go_wp2_with fail;refine Jo ?_;go_wp2_with fail;refine Zz (I.o _ z.o) ?_;intro w2 k;have C2:=O (z.o.aA k);clear k U d V J Z c5 c6 c7;go_wp2;go_ret;exact⟨rfl,C2.o⟩
  |some s=>
   rw[B]at I;dsimp only[Option.getD_some,Option.isSome_some]at I⊢;obtain⟨s1,s2⟩:=s;dsimp only at I⊢;have HI:=O (fun(w:World)(g:Nat)(h:w.cell? ⟨g,0,none⟩=some (.int .u64 s1))=>Qjf (c:=1) (own:=own) h);unfold ptr at*;clear h hc u hl ht q B;go_enter func101,ntmps101;go_wp2_with fail;refine Qj [(0,0),(0,1),(0,2),(0,3),(0,4),(0,5),(0,6),(0,7),(2,8),(2,9)] Zq (by kernel_rfl) (fun _ _ _ _ _ h=>h) ?_;simp only[Jk,Zf,Ze,Zd];iterate 8 (refine Jq (by kernel_rfl) (by go_simp;try rfl) ?_)
   clear d0 d1 d2 d3 d4 d5 d6 d7;refine J7 ?_;go_wp2_with fail;refine Zy R ?_;intro w1 E;have z:=O E.undrew;obtain⟨U,d,V,J,Z,c5,c6,c7⟩:=Ja (z.o.blk HB.o (fun h=>h));rw[K.o]at d;unfold ptr at*;clear E;go_wp2_with fail;refine J7 ?_;go_wp2_with fail;refine Jo ?_;go_wp2_with fail;refine Zz (I.o _ z.o) ?_;intro w2 k;have C2:=O (z.o.aA k);clear k U d V J Z c5 c6 c7;go_wp2_with fail;refine Zz (HI.o _ _ (Jf (Qh.new _ _ _))) ?_;intro w3 J;have C3:=O ((C2.o.alloc _).aA J);clear J;go_wp2;go_ret;exact⟨rfl,C3.o⟩
theorem Qpj(h:Qo A w F b p)(k:Qs dep N p)(Z:N<549755813888)(i:Int):
  Cl 48 #[ptr b,.int .i64 i] w fun e w'=>e=.returned (.int .u64 ((p.fitAt i:Nat):Int))∧Qc Qb w w':=by
 have z:=O (Hx h k i);unfold Qe.fitAt;rcases Bool.eq_false_or_eq_true (p.aL i)with d|d
 ·rw[if_pos d];rw[d]at z;have hc:∃c,p.at i=some c:=by
   cases hx:p.at i with
   |none=>rw[Qe.awake_none hx]at d;cases d
   |some c=>exact⟨c,rfl⟩
  obtain⟨c,hc⟩:=hc;rw[hc];dsimp only[Zn,Option.getD_some];have E:=O (fun w'(B:Qc Qb w w')=>Qcx ((Qo.obj A).aB h B (Jl.none F)) hc (k.ok c (Qe.aE hc).1) Z);have I:=O (fun w'(B:Qc Qb w w')=>((Qo.obj A).aB h B (Jl.none F)).look1 i);rw[Xz hc]at I;have R:=O h.blk;generalize c.fit=v at E⊢;unfold ptr at*;clear h k hc d;go_enter func48,ntmps48;go_wp2_with fail;refine Zy z ?_;intro w1 q;have u:=O q;have V:=I.o _ q;have U:=Jf (q.blk R.o (fun h=>h));clear q;go_wp2_with fail;refine Zz (E.o _ u.o) ?_;intro w2 J;have K:=O (u.o.aA J);clear J V U;go_wp2;go_ret;exact⟨rfl,K.o⟩
 ·rw[if_neg (by rw[d];decide)];rw[d]at z;rw[show((Qq:Nat):Int)=9223372036854775808 from rfl];unfold ptr at*;clear h k d;go_enter func48,ntmps48;go_wp2_with fail;refine Zy z ?_;intro w1 q;have u:=O q;clear q;go_wp2;go_ret;exact⟨rfl,u.o⟩
theorem Qln(h:Qo A w F b p)(d:Qs dep N p):
  Cl 50 #[ptr b] w fun e w'=>e=.returned (.int .u64 ((p.tick:Nat):Int))∧Qc Qb w w':=by
 have z:=O (Hw h 0);obtain⟨r,hr,_⟩:=d.root;rw[Xz hr]at z;obtain⟨G,ht⟩:=h.tre hr;have k:=O (My ht);obtain⟨B,E,I,J,K,R,U,V⟩:=Ja (h.cell hr);unfold Qe.tick;rw[hr];dsimp only;cases c:low r.tree with
 |none=> rw[c]at k;dsimp only[Option.getD_none,Option.isSome_none]at k⊢;rw[show((Qq:Nat):Int)=9223372036854775808 from rfl];unfold ptr at*;clear h d hr ht c;go_enter func50,ntmps50;go_wp2_with fail;refine Zy z ?_;rintro w1 rfl;go_wp2_with fail;refine Zy k ?_;intro w1 q;have u:=O q;clear q B E I J K R U V;go_wp2;go_ret;exact⟨rfl,u.o⟩
 |some s=> rw[c]at k;obtain⟨s1,s2⟩:=s;dsimp only[Option.getD_some,Option.isSome_some]at k⊢;unfold ptr at*;clear h d hr ht c;go_enter func50,ntmps50;go_wp2_with fail;refine Zy z ?_;rintro w1 rfl;go_wp2_with fail;refine Zy k ?_;intro w1 q;have u:=O q;clear q B E I J K R U V;go_wp2;go_ret;exact⟨rfl,u.o⟩
end
end
section
attribute [local go_sem] Qp
attribute [local irreducible] Kl J9
section
variable{A:Dz}{w:World}{F:Fp}{b:Nat}{p:Qe}{N:Nat}{dep:Int→Nat}
theorem Qcf{v:Nat}{l:List Xu}{e:Xu}(h:Xf v l=some e):e∈l:=List.mem_of_find?_eq_some h
theorem Qpf(p:Qe)(now n:Nat)(i:Int){c:Qx}(hc:p.at i=some c):p.next now (n+1) i=if c.leaf then some i else match Xf now c.tree with
  |none=>none
  |some e=>p.next now n e.2.1:=by
 rw[Qe.next,hc];rfl
theorem Qll(h:Qo A w F b p)(z:Qs dep N p)(now:Nat):
  Cl 44 #[ptr b,.int .u64 now] w fun e w'=>e=.returned (.tuple #[.int .i64 ((p.next now 10 0).getD 0),.bool (p.next now 10 0).isSome])∧Qc Qb w w':=by
 have HA:=O (Hw h 0);obtain⟨r,hr,_⟩:=z.root;obtain⟨Eu,hd⟩:=z.up;rw[Xz hr]at HA;have HO:=O z;have HH:=O h;have k:Hi (∃(id:Int)(c:Qx)(n:Nat),(0:Int)=id∧A.ad 0=A.ad id∧p.at id=some c∧n+dep id=9∧p.next now (n+1) id=p.next now 10 0∧Qc Qb w w):=O ⟨0,r,9,rfl,rfl,hr,by omega,rfl,Zg _ _⟩;generalize ac:p.next now 10 0=ae at k⊢;have HD:=O hd;unfold ptr at*;clear h z hr ac hd;go_enter func44,ntmps44;go_wp2_with fail;refine Zy HA ?_;rintro w1 rfl;go_wp2_with fail;go_loopw [6,7] (fun i v wr=>∃(id:Int)(c:Qx)(n:Nat),i=.int .i64 id∧v=.pointer (some ⟨A.ad id,0,none⟩)∧p.at id=some c∧n+dep id=9∧p.next now (n+1) id=ae∧Qc Qb w wr) (fun i _ wr=>9-dep (intOf i));case atStart=> obtain⟨id,c,n,h1,h2,h3,h4,h5,h6⟩:=k.o;exact⟨id,c,n,by rw[←h1],by rw[←h2],h3,h4,h5,h6⟩
 case round=>
  obtain⟨id,c,n,rfl,rfl,hc,hn,d,K⟩:=hrel;have J:=(Qo.obj A).aB HH.o K (Jl.none F);obtain⟨c0,c1,c2,c3,c4,c5,c6,c7⟩:=Ja (J.cell hc);rw[Qpf p now n id hc]at d;cases aa:c.leaf with
  |true=> rw[aa]at d c1;simp only[if_true]at d;subst d;have U:=O K;clear J K hc;go_wp2;refine bodyPost_ret (v:=.tuple #[.int .i64 id,.bool true]) (by simp[results,Tryz.results44,go_sem]) rfl ⟨rfl,U.o⟩
  |false=>
   rw[aa]at d c1;simp only[Bool.false_eq_true,if_false]at d;obtain⟨G,ht⟩:=J.tre hc;have R:=O (Qen ht now);cases q:Xf now c.tree with
   |none=> rw[q]at R d;dsimp only[Option.map_none,Option.getD_none,Option.isSome_none]at R d;subst d;have U:=O K;unfold ptr at*;clear J K hc ht q;go_wp2_with fail;refine Zy R ?_;intro w2 B;have C2:=O (U.o.aA B);clear B c0 c1 c2 c3 c4 c5 c6 c7;go_wp2;refine bodyPost_ret (v:=.tuple #[.int .i64 0,.bool false]) (by simp[results,Tryz.results44,go_sem]) rfl ⟨rfl,C2.o⟩
   |some x=>
    rw[q]at R d;dsimp only[Zn,Option.getD_some,Option.isSome_some]at R d;obtain⟨V,rfl⟩:=Qe.aE hc;obtain⟨c',u,ab,ah⟩:=HO.o.tr c V x (Qcf q);obtain⟨E,Z⟩:=Qe.aE u;have I:=HD.o c' E (by omega);rw[Z,ab]at I;have af:Hi (∃(id:Int)(c:Qx)(n:Nat),Value.int .i64 x.2.1=.int .i64 id∧(Value.pointer (some ⟨A.ad x.2.1,0,none⟩))=.pointer (some ⟨A.ad id,0,none⟩)∧p.at id=some c∧n+dep id=9∧p.next now (n+1) id=ae):=O ⟨x.2.1,c',n-1,rfl,rfl,u,by omega,by rw[show n-1+1=n by omega];exact d⟩;have LT:Hi (9-dep x.2.1<9-dep c.id):=O (by omega);have U:=O K;have hL:=fun w'(B:Qc Qb wr w')=>((Qo.obj A).aB J B (Jl.none F)).look1 x.2.1;rw[Xz u]at hL;have HL:=O hL;have HB:=O J.blk;unfold ptr at*;clear J K hc ht q u V E hL I d hn;go_wp2_with fail;refine Zy R ?_;intro w2 B;have CC:=O B;have C2:=O (U.o.aA B);clear B c0 c1 c2 c3 c4 c5 c6 c7;go_wp2_with fail;refine Jp [(0,0),(1,1),(1,2),(1,3),(1,4),(1,5),(1,6),(2,7),(3,8)] (fun wv=>Qc (Qb) (w2) wv) Zq (by kernel_rfl) (fun _ _ _ _ _ h=>h) (Zj (Zg _ _)) ?_;simp only[Jk,Zf,Ze,Zd];refine Xe (by kernel_rfl) (by go_simp;try rfl) ?_;iterate 6 (refine Qy (by kernel_rfl) (fun wv hv=>by(have zz:=hv.blk (CC.o.blk HB.o (fun h=>h)) (fun h=>h);have y0:=Jf zz;have y1:=HL.o _ (CC.o.aA hv));go_simp;try rfl) ?_;try simp only[Act.put,Za,Zc,Zb])
    refine Yb ?_;go_wp2_with fail;refine⟨(Zg _ _).drew,?_⟩;refine Km ?_;go_wp2_with fail;refine Ky ?_;go_wp2;obtain⟨ag,c2,n2,r1,r2,r3,r4,r5⟩:=af.o;exact⟨⟨ag,c2,n2,r1,r2,r3,r4,r5,C2.o.drew⟩,LT.o⟩
end
section
variable{A:Dz}{w:World}{F:Fp}{b:Nat}{p:Qe}{N:Nat}{dep:Int→Nat}
theorem St{i:Int}{c q:Qx}(hc:p.at i=some c)(d:p.at c.par=some q):p.note i=p.set {q with tree:=if p.aL i then Vf i (p.v i) c.fit q.tree else Xa i q.tree}:=by unfold Qe.note;rw[hc];dsimp only;rw[d]
theorem Ke{G:Fp}{w w1 w2:World}(h:w.heap.size≤w1.heap.size):∀k,Qn G w1 w2 k→Qn G w w2 k:=fun k c=>c.elim .inl (fun c=>.inr ⟨Zp h c.1,c.2⟩)
theorem Mj(h:Qo A w F b p)(u:Qs dep N p)(hN:N<549755813888){i:Int}{c q:Qx}(hi:0<i)(hc:p.at i=some c)(V:p.at c.par=some q):
  Cl 141 #[ptr b,.int .i64 i] w fun e w'=>e=.returned (.tuple #[])∧Qo A w' (Qn F w w') b (p.note i)∧Qc F w w':=by
 rw[St hc V];obtain⟨J,af⟩:=Qe.aE V;have k:=u.ok q J;have R:=h.look1 i;rw[Xz hc]at R;have U:=h.drew.look1 c.par;rw[Xz V]at U;have a0:=Jf h.blk;have ac:=Jf h.drew.blk;obtain⟨c0,_,_,_,_,_,_,_⟩:=Ja (h.drew.cell hc);obtain⟨_,_,_,_,_,_,q6,_⟩:=Ja (h.drew.cell V);obtain⟨G,ht,ae,z⟩:=h.treeOf J;rw[af]at ht;have E:=O (Hx h.drew u i);have HV:=O (fun w'(B:Qc Qb w w')=>Qnl ((Qo.obj A).aB h B (Jl.none F)) u i);have HF:=O (fun w'(B:Qc Qb w w')=>Qcx ((Qo.obj A).aB h B (Jl.none F)) hc (u.ok c (Qe.aE hc).1) hN);have I:=O (fun w'(B:Qc Qb w w')=>Qct (Jg.obj.aB ht B (Jl.none G)) (Nat.lt_of_le_of_lt k.tree (by omega)) i (p.v i) c.fit);have ab:=O (fun w'(B:Qc Qb w w')=>Tt (Jg.obj.aB ht B (Jl.none G)) (Nat.lt_of_le_of_lt k.tree (by omega)) i);have aa:Hi (∀w1 w2 t,Qc Qb w w1→Jg w2 (Qn G w1 w2) (A.pt c.par) t→Qc G w1 w2→Qo A w2 (Qn F w w2) b (p.set {q with tree:=t})∧Qc F w w2):=O (fun w1 w2 t K h2 c2=>by
  have B:Qc G w w2:=K.none.aA c2;exact z w2 t (by rw[af];exact Jg.obj.more h2 (Ke K.size) ((Jg.obj.bd ht).ext B)) B)
 rcases Bool.eq_false_or_eq_true (p.aL i)with d|d
 ·rw[if_pos d];rw[d]at E;generalize p.v i=v at HV I⊢;generalize c.fit=ft at HF I⊢;unfold ptr at*;clear h u hc V ht z d ae k J ab;go_enter func141,ntmps141;go_wp2_with fail;refine Qj [(0,0),(0,1),(0,2),(0,3),(0,4),(0,5),(0,6),(0,7),(0,8),(0,9),(0,10),(0,11),(2,12)] Zq (by kernel_rfl) (fun _ _ _ _ _ h=>h) ?_;simp only[Jk,Zf,Ze,Zd];iterate 12 (refine Jq (by kernel_rfl) (by go_simp;try rfl) ?_)
  refine J7 ?_;go_wp2_with fail;refine Jo ?_;clear R U a0 ac c0 q6;go_wp2_with fail;refine Zy E ?_;intro w1 K;have Z:=O K.undrew;clear K;go_wp2_with fail;refine Zz (HV.o _ Z.o) ?_;intro w2 c2;have C2:=O (Z.o.aA c2);clear c2;go_wp2_with fail;refine Zz (HF.o _ C2.o) ?_;intro w3 c3;have C3:=O (C2.o.aA c3);clear c3;go_wp2_with fail;refine Zz (I.o _ C3.o) ?_;rintro w4⟨h4,c4⟩;have FF:=O (aa.o _ _ _ C3.o h4 c4);clear h4 c4;go_wp2;refine bodyPost_end (by simp[*,results,Tryz.results141,go_sem]) rfl ⟨rfl,FF.o⟩
 ·rw[if_neg (by rw[d];decide)];rw[d]at E;unfold ptr at*;clear h u hc V ht z d ae k J I HV HF;go_enter func141,ntmps141;go_wp2_with fail;refine Qj [(0,0),(0,1),(0,2),(0,3),(0,4),(0,5),(0,6),(0,7),(0,8),(0,9),(0,10),(0,11),(2,12)] Zq (by kernel_rfl) (fun _ _ _ _ _ h=>h) ?_;simp only[Jk,Zf,Ze,Zd];iterate 12 (refine Jq (by kernel_rfl) (by go_simp;try rfl) ?_)
  refine J7 ?_;go_wp2_with fail;refine Jo ?_;clear R U a0 ac c0 q6;go_wp2_with fail;refine Zy E ?_;intro w1 K;have Z:=O K.undrew;clear K;go_wp2_with fail;refine Zz (ab.o _ Z.o) ?_;rintro w4⟨h4,c4⟩;have FF:=O (aa.o _ _ _ Z.o h4 c4);clear h4 c4;go_wp2;refine bodyPost_end (by simp[*,results,Tryz.results141,go_sem]) rfl ⟨rfl,FF.o⟩
end
def Eu:List Int→Int
 |[]=>0
 |i::_=>i
section
variable{A:Dz}{w:World}{F:Fp}{b:Nat}{p:Qe}{N:Nat}
theorem Lo(g:FuncId)(R:Array Value)(eg:∀ac w,(callFunc g ac).run prog w=.ok (.enter g ac) w)(d:Qe→Int→Qe)(J:List Int→Qe→Prop)(mu:Int→Nat)
  (hJ:∀id rest p',J (id::rest) p'→0<id∧mu (Eu rest)<mu id∧J rest (d p' id)∧(∃c,p'.at id=some c)∧∃c',(d p' id).at id=some c'∧c'.par=Eu rest)
  (hS:∀id rest p' w',J (id::rest) p'→Qo A w' (Qn F w w') b p'→Qc F w w'→Cl g (#[.int .i64 id,ptr (A.ad id)]++R) w' fun e ai=>e=.returned (.tuple #[])∧Qo A ai (Qn (Qn F w w') w' ai) b (d p' id)∧Qc (Qn F w w') w' ai)
  (h:Qo A w F b p) (l:List Int) (hl:J l p) (i:Int) (hi:i=Eu l):
  Cl 136 #[ptr b,.int .i64 i,.func (.func g) #[] R] w fun e w'=>e=.returned (.tuple #[])∧Qo A w' (Qn F w w') b (l.foldl d p)∧Qc F w w':=by
 have I:Hi (∃rest p',i=Eu rest∧J rest p'∧rest.foldl d p'=l.foldl d p∧Qo A w (Qn F w w) b p'∧Qc F w w):=O ⟨l,p,hi,hl,rfl,(Qo.obj A).more h (fun k hk=>.inl hk) (((Qo.obj A).bd h).ext (Zg F w)),Zg _ _⟩;have HJ:=O hJ;have HS:=O hS;have aj:=O ((Qo.obj A).bd h);generalize ak:l.foldl d p=al at I⊢;unfold ptr at*;clear h hl hJ hS hi ak;go_enter func136,ntmps136;go_wp2;refine wp_scope_jumps 0 (fun a' wr=>∃rest p' u3 u4 u5 u6 u7 u8 u9 u10 u11 u12 u13 u14 u15 u16 u17 u18 u19 u20 u21 u22,a'={tmps:=#[.pointer (some ⟨b,0,none⟩),.int .i64 (Eu rest),.func (.func g) #[] R,u3,u4,u5,u6,u7,u8,u9,u10,u11,u12,u13,u14,u15,u16,u17,u18,u19,u20,u21,u22],defers:=[]}∧J rest p'∧rest.foldl d p'=al∧Qo A wr (Qn F w wr) b p'∧Qc F w wr)
  (fun a' _=>mu (intOf (a'.tmps.getD 1 undef))) rfl ?_ ?_
 ·obtain⟨rest,p',rfl,hj,hf,E,hc⟩:=I.o;cases rest with
  |nil=> dsimp only[List.foldl_nil]at hf;rw[show Eu []=0 from rfl];subst hf;have ae:=O (Zt E hc);clear hj E hc;go_wp2;go_step3;go_wp2;simp only[Exit.jump];refine bodyPost_end (results_none rfl _ _ _) rfl ⟨rfl,ae.o⟩
  |cons id rest=>
   dsimp only[List.foldl_cons]at hf;rw[show Eu (id::rest)=id from rfl];obtain⟨aa,Z,V,⟨c,U⟩,c',q,u⟩:=HJ.o id rest p' hj;have d1:decide (0<id)=true:=by simpa using aa
   have hL:=E.look1 id;rw[Xz U]at hL;have a0:=Jf E.blk;have HC:=O (HS.o id rest p' w hj E hc);have CC:=O hc;have af:=O hf;have ag:=O V;have ab:=O Z;have z:=O (Zt q u);obtain⟨nx,B⟩:=Zx (Eu rest);rw[←B]at ab z;have ah:=O B;clear B;unfold ptr at*;clear hj V E U q hc hf u Z;go_wp2;go_step3;go_wp2_with fail;refine Zy HC ?_;rintro w2⟨h2,c2⟩;obtain⟨k1,k2⟩:=(Qo.obj A).two h2 aj.o CC.o c2;obtain⟨d0,_,_,_,_,_,_,_⟩:=Ja (k1.cell z.o.1);rw[z.o.2]at d0;have K:=O (Zt k1 k2);clear h2 c2 k1 k2 hL a0;go_wp2;go_step3;exact⟨rfl,⟨rest,_,_,_,_,_,_,_,_,_,_,_,_,_,_,_,_,_,_,_,_,_,by rw[←ah.o],ag.o,af.o,K.o.1,K.o.2⟩⟩
 ·rintro a' wr⟨rest,p',u3,u4,u5,u6,u7,u8,u9,u10,u11,u12,u13,u14,u15,u16,u17,u18,u19,u20,u21,u22,rfl,hj,hf,E,hc⟩;cases rest with
  |nil=> dsimp only[List.foldl_nil]at hf;rw[show Eu []=0 from rfl];subst hf;have ae:=O (Zt E hc);clear hj E hc;go_wp2;simp only[Exit.jump];refine bodyPost_end (results_none rfl _ _ _) rfl ⟨rfl,ae.o⟩
  |cons id rest=>
   dsimp only[List.foldl_cons]at hf;rw[show Eu (id::rest)=id from rfl];obtain⟨aa,Z,V,⟨c,U⟩,c',q,u⟩:=HJ.o id rest p' hj;have d1:decide (0<id)=true:=by simpa using aa
   have hL:=E.look1 id;rw[Xz U]at hL;have a0:=Jf E.blk;have HC:=O (HS.o id rest p' wr hj E hc);have CC:=O hc;have af:=O hf;have ag:=O V;have ab:=O Z;have z:=O (Zt q u);obtain⟨nx,B⟩:=Zx (Eu rest);rw[←B]at ab z;have ah:=O B;clear B;unfold ptr at*;clear hj V E U q hc hf u Z;go_wp2_with fail;refine Zy HC ?_;rintro w2⟨h2,c2⟩;obtain⟨k1,k2⟩:=(Qo.obj A).two h2 aj.o CC.o c2;obtain⟨d0,_,_,_,_,_,_,_⟩:=Ja (k1.cell z.o.1);rw[z.o.2]at d0;have K:=O (Zt k1 k2);clear h2 c2 k1 k2 hL a0;go_wp2;go_step3;exact⟨rfl,⟨rest,_,_,_,_,_,_,_,_,_,_,_,_,_,_,_,_,_,_,_,_,_,by rw[←ah.o],ag.o,af.o,K.o.1,K.o.2⟩,ab.o⟩
end
end
end Go.Proofs.YtnnhmpehkbihnaaGreat
