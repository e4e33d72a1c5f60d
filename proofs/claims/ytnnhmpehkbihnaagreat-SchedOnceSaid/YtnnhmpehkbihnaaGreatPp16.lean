/- A part of the proof: no condition. -/
import Derived.Test.YtnnhmpehkbihnaaGreatPp15
namespace Go.Proofs.YtnnhmpehkbihnaaGreat
set_option linter.unusedVariables false
set_option maxRecDepth 100000
set_option maxHeartbeats 4000000
open Go.RowKit
open Go.Proofs.Tryz
section
attribute [local go_sem] Qq
theorem Qqj(m:Nat)(w:World):(binOp .eql 210 (.map (some m)) (.map none)).run prog w=.ok (.bool false) w:=by kernel_rfl
attribute [local go_sem] Qqj
theorem Xv.ne{m:Nat}{ad:Int→Nat}{w:World}{F:Fp}{b:Nat}{f:Q9}(h:Xv m ad w F b f):b≠m:=by obtain⟨l,z,u,G,H,h1,⟨_,q,_,c,_,_,d,_⟩,k,_⟩:=h;rintro rfl;exact k _ h1.2.1 (d _ c.at_)
theorem Qjs{w:World}{F:Fp}{b:Nat}{f:Q9}(h:Jb w F b f)(i:Int)(c:Z6)(hc:c.May):
  Cl 127 #[ptr b,.int .i64 i,cV c] w fun e w'=>(∃r,e=.returned (.bool r))∧Jb w' (Qn F w w') b (f.add i c)∧Qc F w w':=by
 obtain⟨W,hW⟩:=Zx (w.alloc (.cells #[.int .u64 (c.f:Int),.int .u64 (c.l:Int),.int .u64 (c.r:Int)] 38));have C0:Hid (Qc Qb w W):=O (by rw[hW];exact(Qc.refl _ _).alloc _);have B0:Hid (Qh W w.heap.size #[.int .u64 (c.f:Int),.int .u64 (c.l:Int),.int .u64 (c.r:Int)] 38):=O (by rw[hW];exact Qh.new _ _ _);obtain⟨m,ad,I⟩:=h.addr;obtain⟨V,ac⟩:=I.same C0.out;have ak:=O (Jb.obj.bd h);have K:=O (V.at_any i);have HM:=O (fun w=>Y0 c w);rw[decide_eq_true hc]at HM;unfold Q9.add;unfold Qqg at K;cases hx:f.at i with
 |some x=> have R:=O V;have q:=V.blk;rw[hW]at q;obtain⟨a0,a1⟩:=Qz q;clear q;rw[hx]at K;dsimp only[atP]at K⊢;unfold ptr cV at*;clear h V hx I ac;go_enter func127,ntmps127;go_wp2_with fail;rw[←hW]at a0 a1⊢;clear hW;refine K.out.mono ?_;rintro e w1⟨rfl,rfl⟩;go_wp2;go_ret;exact⟨⟨_,rfl⟩,R.out.is,C0.out.none⟩
 |none=>
  have HN:=O (fun w=>Qc3 c hc w);have al:=O V.ne;obtain⟨l,hp,hs⟩:=V;obtain⟨G0,hB,_⟩:=Z7 (J8 b m f.mark ad l) 0 rfl hs;obtain⟨G,U,hG,ab,E⟩:=Ju 1 (J8 b m f.mark ad l) rfl hs;have hB:=hB.1;have BB:=O hB;have am:=O U;have ae:Vp Zq.id i l=none:=by rw[←Q9.at_eq hp U.nodup];exact hx
  have q:=hB;rw[hW]at q;obtain⟨a0,a1⟩:=Qz q;clear q;have R:Hid (∀w3 p H,Yx w3 H p (.new c)→(∀k,H k→W.heap.size≤k)→Qc Qb W w3→∀w4,w4=w3.alloc (.cells #[.int .u64 0,.int .u64 0,ptr p,.bool false] 215)→∃d,(Instr.mapUpdate 210 (.map (some m)) (.int .i64 i) (ptr w3.heap.size)).run prog w4=.ok () d∧Jb d (Qn F w d) b ⟨f.all++[(⟨i,0,0,.new c,false⟩:Zq)],f.mark⟩∧Qc F w d∧Qc (fun k=>k=m) w4 d):=O (by
   rintro w3 p H hR hH Z w4 rfl;have aj:Qc Qb w3 (w3.alloc (.cells #[.int .u64 0,.int .u64 0,ptr p,.bool false] 215)):=(Qc.refl _ _).alloc _;have c4:=Z.trans' aj;obtain⟨d,af,B,c5⟩:=J9 (P:=prog) (U.map.keep c4 (fun h=>h)) underlying210 underlying3 i (ptr w3.heap.size);have Jl:W.heap.size≤w3.heap.size:=Z.size;have hX:Vh (w3.alloc (.cells #[.int .u64 0,.int .u64 0,ptr p,.bool false] 215)) (Qn Qb W (w3.alloc (.cells #[.int .u64 0,.int .u64 0,ptr p,.bool false] 215))) w3.heap.size (⟨i,0,0,.new c,false⟩:Zq):=
    Od.new (p:=p) (G:=H) (runP.keep hR aj (Je.none _)) hH runP (Qh.new _ _ _) Jl (fun u=>absurd (runP.bd hR _ u) (by omega))
   have an:=U.keep Vh.obj c4 (Je.none G);have J:=an.put Vh.obj hX (fun k a b=>by
    have:=ab k (hG k b);rcases(Qt k).1 a with⟨q,_⟩;omega) (key:=Zq.id) ae B c5
   have cG:Qc G W d:=(c4.none (F:=G)).trans' (c5.sub fun k u=>u▸U.at_);have h5:=E d (fun w G=>Xy Zq.id Vh w G m (fun j=>if j=i then w3.heap.size else ad j) (l++[(⟨i,0,0,.new c,false⟩:Zq)])) cG
    (J.more (fun k u=>u.elim .inl (fun u=>.inr ⟨((Qt k).1 u).1,Nat.lt_of_lt_of_le ((Qt k).1 u).2 c5.size⟩)) (U.bd.ext cG))
   have cF:Qc (Qn F w W) W d:=cG.sub hG;obtain⟨r1,r2⟩:=Jb.obj.two (F:=F) (w:=w) (w1:=W) (w2:=d) (b:=b) (z:=⟨f.all++[(⟨i,0,0,.new c,false⟩:Zq)],f.mark⟩) ⟨m,(fun j=>if j=i then w3.heap.size else ad j),l++[(⟨i,0,0,.new c,false⟩:Zq)],hp.append_right _,h5⟩ ak.out C0.out.none cF;exact⟨d,af,r1,r2,c5⟩)
  rw[hx]at K;dsimp only[atP]at K⊢;unfold ptr cV at*;clear h hx hs E hG ab U hp I ac ae hB am;go_enter func127,ntmps127;go_wp2_with fail;rw[←hW]at a0 a1⊢;clear hW;refine K.out.mono ?_;rintro e w1⟨rfl,rfl⟩;obtain⟨b0,b1,b2⟩:=Dy B0.out;go_wp2_with fail;refine(HM.out _).mono ?_;rintro e w2⟨rfl,c2⟩;have C2:=O c2;obtain⟨d0,d1,d2⟩:=Dy (c2.blk B0.out (fun h=>h)).drew;clear c2 a0 a1 b0 b1 b2;go_wp2_with fail;have B2:=O (C2.out.blk BB.out (fun h=>h));refine Z9 [(1,0),(1,1),(1,2),(1,3),(1,4),(0,5),(2,6),(0,7),(2,8),(3,9)] (fun wv=>Qc (fun k=>k=m) (w2) wv) (by kernel_rfl) (by kernel_rfl) ?_ (by(repeat' (first|(with_reducible first|exact Zg _ _|assumption|refine Zh ?_ _|refine Zi ?_ _|refine Zj ?_ |refine Zk ?_ _ ?_ |(apply Or.inl;rfl))|(apply Or.inl;simp;done)|(apply Or.inr;simp;first|done|omega)))) ?_;·exact fun _ _ _ _ _ h=>h
  simp only[Zs,Zf,Ze,Zd];iterate 5 (refine Q4 (by kernel_rfl) (fun wv hv=>by(have zz:=hv.blk B2.out al.out;obtain⟨y0,y1⟩:=Qz zz);go_simp;try with_reducible rfl) ?_;try simp only[Act.put,Za,Zc,Zb])
  refine Jr (by kernel_rfl) (by go_simp;try with_reducible rfl) ?_;clear d0 d1 d2;refine Yc ?_;go_wp2_with fail;refine(HN.out _).mono ?_;rintro e w3⟨p,rfl,hR,Z⟩;have aa:=O (Z.undrew.none (F:=fun k=>k=m));have C3:=O (C2.out.trans' Z.undrew);have HR:=O hR;have ao:=O (fun k(u:Qn Qb w2.drew w3 k)=>show W.heap.size≤k from Nat.le_trans C2.out.size ((Qt k).1 u).1);have ai:=O (R.out w3 p _ hR ao.out C3.out _ rfl);clear Z hR;go_wp2_with fail;refine⟨aa.out,?_⟩;refine Jr (by kernel_rfl) (by go_simp;try with_reducible rfl) ?_;refine Yc ?_;go_wp2_with fail;refine⟨aa.out.alloc _,?_⟩;obtain⟨d,ap,ah,ag,B⟩:=ai.out;have F5:=O ah;have C5:=O ag;have M5:=O B;clear ah ag B;refine V5 ?_;go_wp2_with fail;refine K8 ?_;go_wp2;go_ret;exact⟨⟨_,rfl⟩,F5.out,C5.out⟩
end
section
open Go.Shelf
attribute [local go_sem] Oper.semAt_some Qq
theorem Db.far{T S:Fp}{W w1 w2:World}(h:Db T W w1)(hc:Qc S w1 w2)(q:∀k,S k→W.heap.size≤k):Db T W w2:=fun b o c h1 d=>by have Jl:=(Array.getElem?_eq_some_iff.1 h1).1;exact hc.heap (h b o c h1 d) (fun hs=>by have:=q b hs;omega)
theorem Ka.kpt{T:Fp}{w w':World}{b r:Nat}{l left:List (Int×Value)}(h:Ka w b r l left)(k:Db T w w')(E:T b)(hr:T r):Ka w' b r l left:=by obtain⟨u,c,d,h1,B,I,J,z,K,q⟩:=h;exact⟨u,c,d,k b _ E h1 (.inr rfl),B,I,J,z,k r _ hr K (.inr rfl),q⟩
theorem G8{X:Type}{key:X→Int}{x:X}:∀{l:List X},(l.map key).Nodup→x∈l→l.Perm (x::Yw key (key x) l)
 |y::l,hn,c=>by
  simp only[List.map_cons,List.nodup_cons]at hn;rcases List.mem_cons.1 c with rfl|c
  ·have:Yw key (key x) (x::l)=l:=by unfold Yw;rw[List.filter_cons_of_neg (by simp)];refine List.filter_eq_self.2 fun z k=>?_;have:key z≠key x:=fun e=>hn.1 (List.mem_map.2 ⟨z,k,e⟩);simpa using this
   rw[this]
  ·have d:key y≠key x:=fun e=>hn.1 (List.mem_map.2 ⟨x,c,e.symm⟩);have:Yw key (key x) (y::l)=y::Yw key (key x) l:=by unfold Yw;rw[List.filter_cons_of_pos (by simpa using d)]
   rw[this];exact((G8 hn.2 c).cons y).trans (.swap x y _)
theorem La{X:Type}{key:X→Int}{ad:Int→Nat}(i:Int)(l:List X):Kx i (Ye key ad l)=Ye key ad (Yw key i l):=by simp only[Ye,Yw,Kx,List.filter_map];rfl
def Qyc(ad:Int→Nat){l:List Zq}(x:{x:Zq//x∈l}):Array Value:=#[.int .i64 x.1.id,ptr (ad x.1.id)]
structure Qgt(w:World)(b m:Nat)(ad:Int→Nat)(pr:Int→Nat)(l:List Zq)(mark:Nat):Prop where
 blk:Qh w b #[.map (some m),.int .u64 (mark:Int)] 212
 map:Xs w m (Ye Zq.id ad l)
 mem:∀x∈l,Qh w (ad x.id) (Qde x (pr x.id)) 215
theorem Qgt.kpt{T:Fp}{w w':World}{b m:Nat}{ad pr:Int→Nat}{l:List Zq}{mark:Nat}(h:Qgt w b m ad pr l mark)(d:Db T w w')(B:T b)(u:T m)(ha:∀x∈l,T (ad x.id)):Qgt w' b m ad pr l mark where
 blk:=d.blk h.blk B
 map:=by obtain⟨q,c,h1,z⟩:=h.map;exact⟨q,c,d m _ u h1 (.inr rfl),z⟩
 mem:=fun x k=>d.blk (h.mem x k) (ha x k)
theorem Qgt.keep{S:Fp}{w w':World}{b m:Nat}{ad pr:Int→Nat}{l:List Zq}{mark:Nat}(h:Qgt w b m ad pr l mark)(c:Qc S w w')(k:¬S b)(q:¬S m)(ha:∀x∈l,¬S (ad x.id)):Qgt w' b m ad pr l mark where
 blk:=c.blk h.blk k
 map:=h.map.keep c q
 mem:=fun x d=>c.blk (h.mem x d) (ha x d)
def Qat(w:World)(r:Nat):Nat:=match w.heap[r]? with
 |some (.mapIter (some b) _ seen _)=>(match w.heap[b]? with
  |some (.map es _)=>(leftOf es seen).size
  |_=>0)
 |_=>0
theorem Ka.left_eq{w:World}{b r:Nat}{l left:List (Int×Value)}(h:Ka w b r l left):Qat w r=left.length:=by
 obtain⟨k,d,c,h1,I,J,K,B,u,z,q,E⟩:=h;have:(leftOf k c).size=left.length:=by simpa using congrArg List.length q
 simp[Qat,u,h1,this]
theorem Qc.grownRow{w w':World}{r:Nat}(h:Qc (fun k=>k=r) w w'):w.grownBy w' (some r):=⟨h.os,h.tape,h.output,h.size,fun k d c=>h.block k d (fun e=>c (by rw[e]))⟩
theorem Qnm(w:World)(o:Obj):w.grownBy (w.alloc o) none:=⟨rfl,rfl,rfl,by simp,fun k c _=>Below.heap_alloc _ _ _ c⟩
theorem Ka.walk{w:World}{b r:Nat}{l left:List (Int×Value)}(h:Ka w b r l left):∃o:Obj,w.heap[r]? =some o∧o.isWalk=true:=by obtain⟨q,c,d,h1,z,B,E,u,k,_⟩:=h;exact⟨_,k,rfl⟩
theorem Qzl(n l' Bf b m mark:Nat)(hn:1≤n)(T:Fp)(ad pr:Int→Nat)(l:List Zq)(ak:(l.map Zq.id).Nodup)(J Jx:List {x:Zq//x∈l}→World→Prop)(W:World)
  (hJ:AbidesFrom W.heap.size J) (hB:Qh W Bf #[ptr b] 141) (hV:Qgt W b m ad pr l mark)
  (au:T Bf) (ap:T b) (ai:T m) (an:∀x∈l,T (ad x.id)) (al:∀k,W.heap.size≤k→T k)
  (hY:∀c x W1,J c W1→c.length<l.length→YieldAt Fence.wide (n-1) prog l' (Qyc ad x) W1 fun e W'=>
   (e=.returned (.bool true)∧J (c++[x]) W'∧Db T W1 W')∨(e=.returned (.bool false)∧Jx (c++[x]) W')) (h0:J [] W):
  CallsIn Fence.wide n prog 238 #[.func (.yield l') #[] #[],.pointer (some ⟨Bf,0,none⟩)] W fun e W'=>(∃v,e=.returned v)∧
   ((∃ys,(ys.map (·.1)).Perm (l.filter (·.awake))∧J ys W')∨(∃c,True∧Jx c W')):=by
 obtain⟨o,a0,E⟩:=Qix (P:=prog) hV.map underlying210;have c0:=Zv hB;obtain⟨c1,c2⟩:=Qz hV.blk;have ag:Hid (∃d c,Ka (W.alloc o) m W.heap.size (Ye Zq.id ad l) (Ye Zq.id ad d)∧d.Sublist l∧(c.map (·.1)++d.filter (·.awake)).Perm (l.filter (·.awake))∧c.length+d.length≤l.length∧J c (W.alloc o)∧Db T W (W.alloc o)):=
  O ⟨l,[],E,List.Sublist.refl _,List.Perm.refl _,by simp,hJ _ _ _ none h0 (Qnm W o) (fun r e=>by cases e),Db.far (fun b o _ h _=>h:Db T W W) ((Qc.refl Qb W).alloc o) (fun _ h=>h.elim)⟩
 have HV:=O hV;have HJ:=O hJ;have HY:=O hY;have ar:=O an;have HT:=O (And.intro ai al);unfold ptr at*;clear hB hV hJ hY E h0 au ap ai an al;refine callsIn_of_wp func238 rfl trivial ?_ rfl;simp only[ntmps238,List.size_toArray,List.length_cons,List.length_nil,Nat.reduceAdd,Nat.reduceSub,Array.replicate_succ,Array.replicate_zero,List.push_toArray,List.append_toArray,List.nil_append,List.cons_append];gi_wp2;gi_loopw [3,4] (fun _ _ wr=>∃d c,Ka wr m W.heap.size (Ye Zq.id ad l) (Ye Zq.id ad d)∧d.Sublist l∧(c.map (·.1)++d.filter (·.awake)).Perm (l.filter (·.awake))∧c.length+d.length≤l.length∧J c wr∧Db T W wr) (fun _ _ wr=>Qat wr W.heap.size);case atStart=>exact ag.out
 case round=>
  obtain⟨d,c,E,z,q,V,hj,hk⟩:=hrel;rcases Ql4 (P:=prog) E 0 with⟨h0,hr⟩|⟨p,hp,w2,hr,u,aa,am⟩
  ·have aw:d=[]:=by
    cases d with
    |nil=>rfl
    |cons a l=>cases h0
   subst aw;have aq:=O (show(c.map (·.1)).Perm (l.filter (·.awake)) by simpa using q);have ax:=O hj;clear E z q V hj hk;gi_wp2;go_end0;exact⟨⟨_,rfl⟩,.inl ⟨c,aq.out,ax.out⟩⟩
  ·obtain⟨x,hx,rfl⟩:=List.mem_map.1 hp;have I:=z.subset hx;have R:Db T W w2:=Db.far hk aa (fun k e=>by rw[e];exact Nat.le_refl _);have Z:J c w2:=HJ.out c wr w2 (some W.heap.size) hj aa.grownRow (fun r e=>by cases e;exact⟨Nat.le_refl _,E.walk⟩);have hM:Qh w2 (ad x.id) (Qde x (pr x.id)) 215:=R.blk (HV.out.mem x I) (ar.out x I);obtain⟨d0,d1,d2,d3⟩:=Xt hM;have Jl:Qat w2 W.heap.size<Qat wr W.heap.size:=by rw[u.left_eq,E.left_eq,La];have:=(G8 (key:=Zq.id) (ak.sublist (z.map _)) hx).length_eq;simp only[Ye,List.length_map,List.length_cons]at*;omega
   dsimp only at u;rw[La]at u;have K:=G8 (key:=Zq.id) (ak.sublist (z.map _)) hx;have B:(Yw Zq.id x.id d).Sublist l:=List.filter_sublist.trans z;dsimp only at hr am;unfold ptr at hr am;cases ab:x.awake with
   |false=>
    rw[ab]at d3;have af:Hid (∃d c,Ka w2 m W.heap.size (Ye Zq.id ad l) (Ye Zq.id ad d)∧d.Sublist l∧(c.map (·.1)++d.filter (·.awake)).Perm (l.filter (·.awake))∧c.length+d.length≤l.length∧J c w2∧Db T W w2):=O (by
     refine⟨Yw Zq.id x.id d,c,u,B,?_,?_,Z,R⟩;·refine(List.Perm.append_left (c.map (·.1)) ?_).trans q;have:=(K.filter (·.awake)).symm;rwa[List.filter_cons_of_neg (by rw[ab];decide)]at this
     ·have:=K.length_eq;simp at this;omega)
    have LT:=O Jl;clear E z q V hj hk u aa R Z hM Jl K B hx I hp;gi_wp2;refine⟨fun _ h=>(by cases h),?_⟩;gi_wp2;go_roundw;case rel=>exact af.out
    case measure=>exact LT.out
   |true=>
    rw[ab]at d3;have aj:c.length<l.length:=by have:=List.length_pos_of_mem hx;omega
    obtain⟨fn,ay,ao,az,hy,hR⟩:=HY.out c ⟨x,I⟩ w2 Z aj;have HR:=O hR;have af:Hid (∀W3,J (c++[⟨x,I⟩]) W3→Db T w2 W3→(∃d c,Ka W3 m W.heap.size (Ye Zq.id ad l) (Ye Zq.id ad d)∧d.Sublist l∧(c.map (·.1)++d.filter (·.awake)).Perm (l.filter (·.awake))∧c.length+d.length≤l.length∧J c W3∧Db T W W3)∧Qat W3 W.heap.size<Qat wr W.heap.size):=O (by
     intro W3 av U;have ac:=u.kpt U HT.out.1 (HT.out.2 _ (Nat.le_refl _));refine⟨⟨Yw Zq.id x.id d,c++[⟨x,I⟩],ac,B,?_,?_,av,R.trans U⟩,?_⟩
     ·have e:(c++[(⟨x,I⟩:{x:Zq//x∈l})]).map (·.1)++(Yw Zq.id x.id d).filter (·.awake)=c.map (·.1)++(x::(Yw Zq.id x.id d).filter (·.awake)):=by simp
      rw[e];refine(List.Perm.append_left (c.map (·.1)) ?_).trans q;have:=(K.filter (·.awake)).symm;rwa[List.filter_cons_of_pos (by rw[ab])]at this
     ·have:=K.length_eq;simp at this⊢;omega
     ·rw[ac.left_eq,←u.left_eq];exact Jl)
    unfold Qyc ptr at hy;clear E z q V hj hk u aa R Z hM Jl K B hx hp hR aj;gi_wp2;refine HR.out.mono ?_;clear hy;rintro e W3(⟨rfl,ah,U⟩|⟨rfl,ae⟩)
    ·have R3:=O (af.out W3 ah U);clear ah U;gi_wp2;go_roundw;case rel=>exact R3.out.1
     case measure=>exact R3.out.2
    ·have X3:=O ae;clear ae;gi_wp2;refine bodyPost_ret (results_none rfl _ _ _) rfl ?_;exact⟨⟨_,rfl⟩,.inr ⟨_,trivial,X3.out⟩⟩
theorem Qwo(n c b m mark:Nat)(hn:1≤n)(T:Fp)(ad pr:Int→Nat)(l:List Zq)(z:(l.map Zq.id).Nodup)(w:World)(Z:Qh w c #[ptr b] 141)(K:Qgt w b m ad pr l mark)
  (d:T c) (u:T b) (q:T m) (B:∀x∈l,T (ad x.id)) (E:∀k,w.heap.size≤k→T k):
  SeqStopsK Fence.wide n prog 238 #[.pointer (some ⟨c,0,none⟩)] (Qyc ad (l:=l)) (Db T) (fun R=>(R.map (·.1)).Perm (l.filter (·.awake))) (fun _=>True) l.length w:=fun l' J V W hW U _ I h0=>
 Qzl n l' c b m mark hn T ad pr l z J V W U ((Qc.ofBelow (S:=Qb) hW).blk Z (fun h=>h)) (K.keep (Qc.ofBelow (S:=Qb) hW) (fun h=>h) (fun h=>h) (fun _ _ h=>h)) d u q B (fun k hk=>E k (Nat.le_trans hW.size hk)) I h0
theorem Qwp(b:Nat)(w:World):Cl 225 #[ptr b] w fun e w'=>e=.returned (.func (.func 238) #[] #[.pointer (some ⟨w.heap.size,0,none⟩)])∧w'=w.alloc (.cells #[ptr b] 141):=by unfold ptr;go_enter func225,ntmps225;go_wp2;go_ret;exact⟨rfl,rfl⟩
end
section
variable{n rl:Nat}{P:Program}{ops:Array Oper}{Q:Exit→Act→World→Prop}{C:World→Prop}
abbrev rF(rl:Nat):Fence:=Fence.wide.inRound rl
def Oi(o:Oper):Bool:=match o.op with| .defer _=>false|_=>true
theorem Qk4{o:Oper}(h:Oi o=true):∀c,o.op≠ .defer c:=fun c e=>by unfold Oi at h;rw[e]at h;cases h
theorem Qgu{o:Oper}(h:Oi o=true)(ρ:Operand→Value):o.semAt (rF rl).round ρ=execOp ρ o:=Oper.semAt_eq _ ρ o (Qk4 h)
theorem Eb{i:Nat}{o:Oper}{v:Value}{a:Act}(hi:ops[i]? =some o)(c:Oi o=true)(u:YieldsIf P ops C o v a)
  {K:Act→World→Prop}{w:World}(q:C w)(h:K (a.put o.dst v) w):wpOpIn (rF rl) n P ops Q i K a w:=by
 unfold Go.wpOpIn;simp only[hi];rcases u with⟨d,k⟩|⟨d,rfl⟩;·simp only[d,if_true,Oper.wpIn];refine⟨fun f _=>trivial,?_⟩;rw[Qgu c,k w q];exact h
 ·simp only[d,Bool.false_eq_true,if_false];exact⟨fun f _=>trivial,h⟩
theorem Qnn{j:Nat}{k q:Oper}{v:Value}(hj:ops[j]? =some q)(R:Oi q=true)(V:k.apart ops q=true)
  (aa:∀cs b,k.op≠ .select cs b)(Z:∀cs b,q.op≠ .select cs b)
  (U:∀c a w,Q (.panic c) (a.put k.dst v) w→Q (.panic c) a w){K:Act→World→Prop}{a:Act}{w:World}
  (B:YieldsIf P ops C k v a) (h:wpOpIn (rF rl) n P ops Q j K (a.put k.dst v) w):
  wpOpIn (rF rl) n P ops Q j (fun a' w'=>YieldsIf P ops C k v a'∧K (a'.put k.dst v) w') a w:=by
 obtain⟨h1,E,h3⟩:=Oper.apart_spec V;have keep:∀(a:Act),YieldsIf P ops C k v a→∀u,YieldsIf P ops C k v (a.put q.dst u):=fun a B u=>
  B.of_same (execOp_put k aa a q.dst u h3) (wanted_put k a q.dst u h3)
 have I:∀d,YieldsIf P ops C k v {a with defers:=d::a.defers}:=fun d=>B.of_same rfl rfl;unfold wpOpIn at*;simp only[hj]at*;rw[wanted_put q a k.dst v h1]at h;split
 ·rename_i hw;simp only[hw,if_true]at h;unfold Oper.wpIn at*;refine⟨fun f _=>trivial,?_⟩;have h:=h.2;rw[Qgu R,execOp_put q Z a k.dst v h1]at h;rw[Qgu R];generalize(execOp a.eval q).run P w=r at*;cases r with
  |ok x w'=>
   cases x<;>simp only[Oper.uponIn]at h⊢;case value u=>exact⟨keep a B u,by rw[←Act.put_comm a v u E];exact h⟩
   case skip=>exact⟨keep a B _,by rw[←Act.put_comm a v undef E];exact h⟩
   case defer d=> refine⟨keep _ (I d) _,?_⟩;rw[←Act.put_comm _ v undef E,←Act.put_defers];exact h
   case enter f args=>
    refine⟨h.1,CallsIn.mono h.2 fun e J z=>?_⟩;cases e with
    |returned u=>exact⟨keep a B u,by rw[←Act.put_comm a v u E];exact z⟩
    |panicked c=>exact U _ _ _ z
    |outgrown=>exact z
   case row row args=>exact⟨h.1,RowsIn.mono h.2 fun u J z=>⟨keep a B u,by rw[←Act.put_comm a v u E];exact z⟩⟩
   case round l f tmps assign body=>
    refine⟨h.1,RoundIn.mono h.2 fun e J z=>?_⟩;cases e with
    |returned u=>exact⟨keep a B u,by rw[←Act.put_comm a v u E];exact z⟩
    |panicked c=>exact U _ _ _ z
    |outgrown=>exact z
  |halt x w'=> cases x<;>simp only[Oper.uponIn]at h⊢;case panic u=>exact U _ _ _ h
 ·rename_i hw;simp only[hw]at h;exact⟨fun f _=>trivial,keep a B _,by rw[←Act.put_comm a v undef E];exact h.2⟩
theorem Qif{i:Nat}{o:Oper}{K:Act→World→Prop}{a:Act}{w:World}(h0:ops[i]? =some o)(h:wpListIn (rF rl) n P ops (Exit.then K Q) [o] a w):wpOpIn (rF rl) n P ops Q i K a w:=by
 unfold wpOpIn;simp only[h0];simp only[wpListIn]at h;split
 ·rename_i c;simp only[c,if_true]at h;unfold Oper.wpIn at*;refine⟨h.1,?_⟩;have h:=h.2;generalize(o.semAt (rF rl).round a.eval).run P w=r at*;cases r with
  |ok x w'=>cases x<;>simp only[Oper.uponIn]at h⊢<;>exact h
  |halt x w'=>cases x<;>simp only[Oper.uponIn]at h⊢<;>exact h
 ·rename_i c;simp only[c]at h;exact h
def Qce(rl n:Nat)(P:Program)(ops:Array Oper)(Q:Exit→Act→World→Prop)(late:Nat→Bool):Nat→Array Bool→Act→World→Prop
 |0,listed,a,w=>Region.ready .any ops listed=[]∧Q .normal a w
 |f+1,listed,a,w=>(Region.ready .any ops listed=[]→Q .normal a w)∧
  ∀i∈Region.ready .any ops listed,wpOpIn (rF rl) n P ops Q i (fun c w'=>(late i=false→w'=w)∧Qce rl n P ops Q late f (listed.setIfInBounds i true) c w') a w
theorem Qau{late:Nat→Bool}:∀(f:Nat)(c:Array Bool)(a:Act)(w:World),Qce rl n P ops Q late f c a w→wpAnyIn (rF rl) n P .any ops Q f c a w
 |0,_,_,_,h=>h
 |f+1,_,_,_,h=>⟨h.1,fun i hi=>wpOpIn_mono (fun d w' h'=>Qau f _ d w' h'.2) (h.2 i hi)⟩
theorem Qav(I:∀(j:Nat)(o:Oper),ops[j]? =some o→Oi o=true){late:Nat→Bool}{D:World→Prop}{i F:Nat}{Z:Oper}{v:Value}(hi:ops[i]? =some Z)(K:∀(j:Nat)(o:Oper)cs b,ops[j]? =some o→o.op≠ .select cs b)
  (hQ:∀c a w,Q (.panic c) (a.put Z.dst v) w→Q (.panic c) a w):
  ∀(f:Nat)(d:Array Bool)(a:Act)(w:World),Ji ops d→
   ((∀w',D w')∨∀j B,ops[j]? =some B→late j=true→d.getD j true=false→Jy ops F j i=true)→
   (∀j B,ops[j]? =some B→j≠i→d.getD j true=false→(∀e∈B.after,Region.binds .any e=true→e.on≠i)→Z.apart ops B=true)→
   i∈Region.ready .any ops d→YieldsIf P ops D Z v a→D w→
   Qce rl n P ops Q late f (d.setIfInBounds i true) (a.put Z.dst v) w→Qce rl n P ops Q late (f+1) d a w:=by
 intro f;induction f with
 |zero=>
  intro d a w V _ _ hr hy hD H;refine⟨fun h=>(by rw[h]at hr;cases hr),fun j hj=>?_⟩;by_cases u:j=i;·subst u;exact Eb hi (I _ _ hi) hy hD ⟨fun _=>rfl,H⟩
  ·have:=ready_mono hj u;rw[H.1]at this;cases this
 |succ f ih=>
  intro d a w V q J hr hy hD H;have ab:=(mem_ready.1 hr).1;refine⟨fun h=>(by rw[h]at hr;cases hr),fun j hj=>?_⟩;by_cases u:j=i;·subst u;exact Eb hi (I _ _ hi) hy hD ⟨fun _=>rfl,H⟩
  ·have h1:=H.2 j (ready_mono hj u);obtain⟨E,B,z,R⟩:=mem_ready.1 hj;have ag:(∀w',D w')∨late j=false:=by
    rcases q with hD|q;·exact .inl hD
    ·refine .inr ?_;cases hl:late j with
     |false=>rfl
     |true=>
      have h1:=Xp V F j i (fun o ho e he hb=>by
       have:o=B:=Option.some.inj (ho.symm.trans z);subst this;exact R e he hb) (q j B z hl E)
      rw[getD_both ab]at h1;cases h1
   have aa:∀e∈B.after,Region.binds .any e=true→e.on≠i:=fun e he hb af=>by have h1:=R e he hb;rw[af,getD_both ab]at h1;cases h1
   have h2:=Qnn (C:=D) z (I _ _ z) (J j B z u E aa) (fun cs b=>K i Z cs b hi) (fun cs b=>K j B cs b z) hQ hy h1;have U:∀k,(d.setIfInBounds j true).getD k true=false→d.getD k true=false:=fun k h=>by
    by_cases ac:j=k;·subst ac;exact E
    ·rwa[getD_set_ne true ac]at h
   refine wpOpIn_mono (fun a' w' h3=>⟨h3.2.1,ih (d.setIfInBounds j true) a' w' (V.set hj) ?_ ?_ (ready_mono hr (Ne.symm u)) h3.1 ?_ ?_⟩) h2;·exact q.imp id fun h k ok hk hl hu=>h k ok hk hl (U k hu)
   ·exact fun k ok hk ah hu ae=>J k ok hk ah (U k hu) ae
   ·rcases ag with h|h;·exact h w'
    ·rw[h3.2.1 h];exact hD
   ·rw[Array.setIfInBounds_comm _ _ u];exact h3.2.2
def De(rl n:Nat)(P:Program)(ops:Array Oper)(Q:Exit→Act→World→Prop):List (Nat×Oper)→Act→World→Prop
 |[],a,w=>Q .normal a w
 |(0,o)::r,a,w=>if Region.wanted o (yielded ops a.tmps)then∃v,(execOp a.eval o).run P w=.ok (.value v) w∧De rl n P ops Q r (a.put o.dst v) w else De rl n P ops Q r (a.put o.dst undef) w
 |(1,o)::r,a,w=>if Region.wanted o (yielded ops a.tmps)then∃v,(∀w',(execOp a.eval o).run P w'=.ok (.value v) w')∧De rl n P ops Q r (a.put o.dst v) w else De rl n P ops Q r (a.put o.dst undef) w
 |(_+2,o)::r,a,w=>wpListIn (rF rl) n P ops (Exit.then (fun c w'=>De rl n P ops Q r c w') Q) [o] a w
theorem Qk5(B:∀(j:Nat)(o:Oper),ops[j]? =some o→Oi o=true){late:List Nat}(z:Region.noSelect ops=true)(Z:∀c(a:Act)(d:Tmp)v w,Q (.panic c) (a.put (some d) v) w→Q (.panic c) a w):
  ∀(r:List (Nat×Nat))(q:Array Bool)(a:Act)(w:World),Ji ops q→xB ops late r q=true→De rl n P ops Q (Zs ops r) a w→Qce rl n P ops Q (fun j=>late.contains j) r.length q a w
 |[],q,a,w,hcl,hB,h=>⟨by simpa[xB]using hB,h⟩
 |(0,k)::r,q,a,w,hcl,hB,h=>by
  simp only[xB,Bool.and_eq_true]at hB;obtain⟨⟨⟨⟨hr,hf⟩,E⟩,aa⟩,I⟩:=hB;have u:k∈Region.ready .any ops q:=by simpa using hr
  obtain⟨_,o,h0,_⟩:=mem_ready.1 u;rw[h0]at E;simp only[Option.map_some,Option.getD_some]at E;obtain⟨d,E⟩:=Option.isSome_iff_exists.1 E;rw[Yq h0]at h;simp only[De]at h;have K:∃v,YieldsIf P ops (fun w'=>w'=w) o v a∧De rl n P ops Q (Zs ops r) (a.put o.dst v) w:=by
   by_cases J:Region.wanted o (yielded ops a.tmps)=true;·simp only[J,if_true]at h;obtain⟨v,h1,R⟩:=h;exact⟨v,.inl ⟨J,fun w' e=>by rw[e];exact h1⟩,R⟩
   ·simp only[J]at h;exact⟨undef,.inr ⟨by simpa using J,rfl⟩,h⟩
  obtain⟨v,K,hK⟩:=K;exact Qav B (F:=ops.size) h0 (Region.noSelect_spec z) (fun c U w' V=>by rw[E]at V;exact Z c U d _ w' V) _ q a w hcl
   (.inr fun j oj hj hl hu=>by
    have:=List.all_eq_true.1 aa j (by simpa using hl);rw[hu]at this;simpa using this) (Region.free_spec h0 hf) u K rfl
   (Qk5 B z Z r _ _ w (hcl.set u) I hK)
 |(1,k)::r,q,a,w,hcl,hB,h=>by
  simp only[xB,Bool.and_eq_true]at hB;obtain⟨⟨⟨hr,hf⟩,E⟩,I⟩:=hB;have u:k∈Region.ready .any ops q:=by simpa using hr
  obtain⟨_,o,h0,_⟩:=mem_ready.1 u;rw[h0]at E;simp only[Option.map_some,Option.getD_some]at E;obtain⟨d,E⟩:=Option.isSome_iff_exists.1 E;rw[Yq h0]at h;simp only[De]at h;have K:∃v,YieldsIf P ops (fun _=>True) o v a∧De rl n P ops Q (Zs ops r) (a.put o.dst v) w:=by
   by_cases J:Region.wanted o (yielded ops a.tmps)=true;·simp only[J,if_true]at h;obtain⟨v,h1,R⟩:=h;exact⟨v,.inl ⟨J,fun w' _=>h1 w'⟩,R⟩
   ·simp only[J]at h;exact⟨undef,.inr ⟨by simpa using J,rfl⟩,h⟩
  obtain⟨v,K,hK⟩:=K;exact Qav B (F:=ops.size) h0 (Region.noSelect_spec z) (fun c U w' V=>by rw[E]at V;exact Z c U d _ w' V) _ q a w hcl
   (.inl fun _=>trivial) (Region.free_spec h0 hf) u K trivial
   (Qk5 B z Z r _ _ w (hcl.set u) I hK)
 |(m+2,k)::r,q,a,w,hcl,hB,h=>by
  simp only[xB,Bool.and_eq_true,decide_eq_true_eq]at hB;obtain⟨⟨h1,hl⟩,I⟩:=hB;have u:k∈Region.ready .any ops q:=by rw[h1];simp
  obtain⟨_,o,h0,_⟩:=mem_ready.1 u;rw[Yq h0]at h;simp only[De]at h;refine⟨fun R=>(by rw[h1]at R;cases R),fun i hi=>?_⟩;rw[h1]at hi;have ab:i=k:=by simpa using hi
  subst ab;refine wpOpIn_mono (fun U w' h'=>⟨fun h=>?_,?_⟩) (Qif h0 h);·exact absurd (show late.contains i=false from h) (by rw[hl];decide)
  ·exact Qk5 B z Z r _ U w' (hcl.set u) I h'
theorem Qk6{id:Nat}{a:Act}{w:World}{l:List Oper}(k:List (Nat×Nat))(J:P.follows .mixedOrders=true)
  (B:(l.all Oi&&(Region.noSelect l.toArray&&(decide (k.length=l.toArray.size)&&xB l.toArray (Ea k) k (Array.replicate l.toArray.size false))))=true)
  (K:∀c(a:Act)(d:Tmp)v w,Q (.panic c) (a.put (some d) v) w→Q (.panic c) a w) (h:De rl n P l.toArray Q (Zs l.toArray k) a w.drew):
  (Code.region id l.toArray true).wpIn (rF rl) n P Q a w:=by
 simp only[Bool.and_eq_true,decide_eq_true_eq]at B;obtain⟨I,q,u,B⟩:=B;refine wpIn_region_any J ?_;have z:∀(j:Nat)(o:Oper),l.toArray[j]? =some o→Oi o=true:=fun j o h=>List.all_eq_true.1 I o (List.mem_of_getElem? (by simpa using h));have E:Ji l.toArray (Array.replicate l.toArray.size false):=fun j R _ hl=>by rw[getD_replicate_false]at hl;cases hl
 have:=Qk5 (rl:=rl) (n:=n) (P:=P) (Q:=Q) z q K k _ a _ E B h;rw[u]at this;exact Qau _ _ _ _ this
variable{r:List (Nat×Oper)}{a:Act}{o:Oper}{w:World}
theorem Qzm(h:Q .normal a w):De rl n P ops Q [] a w:=h
theorem Qzy{v:Value}(c:Region.wanted o (yielded ops a.tmps)=true)(d:(execOp a.eval o).run P w=.ok (.value v) w)(h:De rl n P ops Q r (a.put o.dst v) w):De rl n P ops Q ((0,o)::r) a w:=by simp only[De,c,if_true];exact⟨v,d,h⟩
theorem Qzn{v:Value}(c:Region.wanted o (yielded ops a.tmps)=true)(d:∀w',(execOp a.eval o).run P w'=.ok (.value v) w')(h:De rl n P ops Q r (a.put o.dst v) w):De rl n P ops Q ((1,o)::r) a w:=by simp only[De,c,if_true];exact⟨v,d,h⟩
theorem Qzz{m:Nat}(h:wpListIn (rF rl) n P ops (Exit.then (fun c w'=>De rl n P ops Q r c w') Q) [o] a w):De rl n P ops Q ((m+2,o)::r) a w:=h
end
section
def Qse(Q:Exit→Act→World→Prop):Exit→Act→World→Prop
 | .panic _,_,_=>False
 |e,a,w=>Q e a w
variable{n:Nat}{P:Program}{ops:Array Oper}{Q:Exit→Act→World→Prop}
theorem Ec{id:Nat}{a:Act}{w:World}{l:List Oper}(c:List (Nat×Nat))(d:P.follows .mixedOrders=true)
  (k:(Region.noSelect l.toArray&&(decide (c.length=l.toArray.size)&&xB l.toArray (Ea c) c (Array.replicate l.toArray.size false)))=true)
  (h:V1 n P l.toArray (Qse Q) (Zs l.toArray c) a w.drew):(Code.region id l.toArray true).wpIn Fence.wide n P Q a w:=
 Code.wpIn_mono (fun e a w h=>by cases e<;>first|exact h.elim|exact h) (Dp c d k (fun _ _ _ _ _ h=>h) h)
theorem Qsf{a:Act}{w:World}(h:Q .normal a w):V1 n P ops (Qse Q) [] a w:=h
end
section
open Go.Shelf
attribute [local go_sem] Oper.semAt_some Qq
attribute [local go_sem ↓] Xe Xn
attribute [local irreducible] V1 De
theorem Xv.view{m:Nat}{ad:Int→Nat}{w:World}{F:Fp}{b:Nat}{f:Q9}(h:Xv m ad w F b f):∃pr l,l.Perm f.all∧(l.map Zq.id).Nodup∧Qgt w b m ad pr l f.mark:=by
 obtain⟨l,z,E,G,d⟩:=h.coll;have H:∀i:Int,∃p,∀x∈l,x.id=i→Qh w (ad x.id) (Qde x p) 215:=fun i=>by
  by_cases hi:∃x∈l,x.id=i;·obtain⟨x,c,hi⟩:=hi;obtain⟨p,_,B,_⟩:=h.memB (z.mem_iff.1 c);refine⟨p,fun y I k=>?_⟩;have e1:=Gs d.nodup c hi;have u:=Gs d.nodup I k;rw[e1]at u;obtain rfl:=Option.some.inj u;exact B
  ·exact⟨0,fun x c e=>(hi ⟨x,c,e⟩).elim⟩
 obtain⟨pr,q⟩:=Classical.axiomOfChoice H;exact⟨pr,l,z,d.nodup,E,d.map,fun x c=>q _ x c rfl⟩
def Uf(l:List Zq):Nat:=l.foldl (fun n m=>min n m.v) Qx
def Dh(l:List Zq):Nat:=l.foldl (fun n m=>max n m.v) 0
theorem Qno(l:List Zq)(x:Zq):Uf (l++[x])=min (Uf l) x.v:=by simp[Uf]
theorem Qqk(l:List Zq)(x:Zq):Dh (l++[x])=max (Dh l) x.v:=by simp[Dh]
theorem Qee{l l':List Zq}(h:l.Perm l'):Uf l=Uf l':=by unfold Uf;exact h.foldl_eq' (fun x _ y _ z=>by omega) _
theorem Qgv{l l':List Zq}(h:l.Perm l'):Dh l=Dh l':=by unfold Dh;exact h.foldl_eq' (fun x _ y _ z=>by omega) _
theorem Qdg:∀l:List Zq,Uf l≤Qx:=by
 have:∀(l:List Zq)(a:Nat),a≤Qx→l.foldl (fun n m=>min n m.v) a≤Qx:=by
  intro l;induction l with
  |nil=>exact fun a h=>h
  |cons x l c=>exact fun a h=>c _ (Nat.le_trans (Nat.min_le_left _ _) h)
 exact fun l=>this l _ (Nat.le_refl _)
theorem Qgw:∀l:List Zq,(∀x∈l,x.v≤Qx)→Dh l≤Qx:=by
 have:∀(l:List Zq)(a:Nat),a≤Qx→(∀x∈l,x.v≤Qx)→l.foldl (fun n m=>max n m.v) a≤Qx:=by
  intro l;induction l with
  |nil=>exact fun a h _=>h
  |cons x l d=>exact fun a h hl=>d _ (Nat.max_le.2 ⟨h,hl x (by simp)⟩) (fun y c=>hl y (by simp[c]))
 exact fun l h=>this l 0 (Nat.zero_le _) h
def Ed(l:List Zq)(mark v:Nat):Nat:=if Dh l<Uf l then max v mark else max v (Uf l+(Dh l-Uf l)/2)
theorem Qwq{f:Q9}{l:List Zq}(c:l.Perm (f.all.filter (·.awake)))(x:Zq):f.start x=Ed l f.mark x.v:=by unfold Q9.start Ed;have e1:f.least=Uf l:=Qee c.symm;have d:f.most=Dh l:=Qgv c.symm;rw[e1,d]
theorem Qt2{w:World}{s t:Nat}{a z v:Nat}(h1:Qh w s #[.int .u64 (a:Int)] 29)(I:Qh w t #[.int .u64 (z:Int)] 29)(c:s≠t):
  Cl 224 #[.int .u64 (v:Int),.pointer (some ⟨s,0,none⟩),.pointer (some ⟨t,0,none⟩)] w fun e w'=>e=.returned (.tuple #[])∧Qh w' s #[.int .u64 ((min a v:Nat):Int)] 29∧Qh w' t #[.int .u64 ((max z v:Nat):Int)] 29∧Qc (fun k=>k=s∨k=t) w w':=by
 have K:=O h1;have u:=O I;have e1:min (a:Int) (v:Int)=((min a v:Nat):Int):=by omega
 have Z:max (z:Int) (v:Int)=((max z v:Nat):Int):=by omega
 have V:=Zv h1.drew;have z1:=h1.drew.frozen 0;have d:=O c;clear h1 I c;go_enter func224,ntmps224;go_wp2_with fail;refine Z9 [(0,0),(0,1),(0,2),(1,3),(1,4),(1,5),(2,6),(3,7)] (fun E=>Qc (fun k=>k=s) (w) E) (by kernel_rfl) (by kernel_rfl) ?_ (by(repeat' (first|(with_reducible first|exact Zg _ _|assumption|refine Zh ?_ _|refine Zi ?_ _|refine Zj ?_ |refine Zk ?_ _ ?_ |(apply Or.inl;rfl))|(apply Or.inl;simp;done)|(apply Or.inr;simp;first|done|omega)))) ?_;·exact fun _ _ _ _ _ h=>h
 simp only[Zs,Zf,Ze,Zd];iterate 3 (refine Jr (by kernel_rfl) (by go_simp;try with_reducible rfl) ?_)
 iterate 3 (refine Q4 (by kernel_rfl) (fun E J=>by(have U:=J.blk u.out d.out.symm;have y0:=Zv U);go_simp;try with_reducible rfl) ?_;try simp only[Act.put,Za,Zc,Zb])
 refine Yc ?_;go_wp2_with fail;refine⟨by(repeat' (first|(with_reducible first|exact Zg _ _|assumption|refine Zh ?_ _|refine Zi ?_ _|refine Zj ?_ |refine Zk ?_ _ ?_ |(apply Or.inl;rfl))|(apply Or.inl;simp;done)|(apply Or.inr;simp;first|done|omega))),?_⟩;have b2:=((u.out).other (a:=⟨s,0,none⟩) (.int .u64 ((min a v:Nat):Int)) d.out).drew;have b1:=(K.out.set' 0 (.int .u64 ((min a v:Nat):Int)) rfl).drew;have y3:=(u.out.other (a:=⟨s,0,none⟩) (.int .u64 ((min a v:Nat):Int)) d.out).frozen 0;have y4:=Zv (u.out.other (a:=⟨s,0,none⟩) (.int .u64 ((min a v:Nat):Int)) d.out);have B:=O (b2.set' 0 (.int .u64 ((max z v:Nat):Int)) rfl);have q:=O (b1.other (a:=⟨t,0,none⟩) (.int .u64 ((max z v:Nat):Int)) d.out.symm);have R:Hid (Qc (fun k=>k=s∨k=t) w ((w.setCell ⟨s,0,none⟩ (.int .u64 ((min a v:Nat):Int))).drew.setCell ⟨t,0,none⟩ (.int .u64 ((max z v:Nat):Int)))):=O (((Qc.refl _ w).setCell (a:=⟨s,0,none⟩) _ (.inl (.inl rfl))).drew.setCell (a:=⟨t,0,none⟩) _ (.inl (.inr rfl)));clear b1 b2;refine V5 ?_;go_wp2_with fail;refine K8 ?_;go_wp2_with fail;refine bodyPost_end (by simp[*,results,Tryz.results224,go_sem]) rfl ⟨rfl,?_,?_,?_⟩;·exact q.out
 ·exact B.out
 ·exact R.out
theorem Qnp{w:World}{b m mark:Nat}{ad pr:Int→Nat}{l:List Zq}(hV:Qgt w b m ad pr l mark)(ai:(l.map Zq.id).Nodup)(hb:∀y∈l,y.v≤Qx)(al:mark≤Qx){x:Zq}(hx:x∈l):
  Cl 201 #[ptr b,ptr (ad x.id)] w fun e w'=>e=.returned (.int .u64 ((Ed (l.filter (·.awake)) mark x.v:Nat):Int))∧Qc Qb w w':=by
 have HU:=O (Qwp b);refine callsIn_wide (n:=9).1 ?_;unfold ptr at HU⊢;refine callsIn_of_wp_marks func201 rfl trivial ?_;simp only[ntmps201,List.size_toArray,List.length_cons,List.length_nil,Nat.reduceAdd,Nat.reduceSub,Array.replicate_succ,Array.replicate_zero,List.push_toArray,List.append_toArray,List.nil_append,List.cons_append];gi_wp2_with (refine⟨trivial,?_⟩;gi_at_call 225;refine(callsIn_wide.2 (HU.out _)).mono ?_;rintro e w1⟨rfl,rfl⟩);obtain⟨s,hs⟩:=Zx (w.heap.size);obtain⟨u,d⟩:=Zx (((((w.alloc (.cells #[.int .u64 9223372036854775808] 29)).alloc (.cells #[.int .u64 0] 29)).alloc (.cells #[.func (.func 224) #[] #[.pointer (some ⟨w.heap.size,0,none⟩),.pointer (some ⟨w.heap.size+1,0,none⟩)]] 279)).alloc (.cells #[.pointer (some ⟨b,0,none⟩)] 141)));have C0:Hid (Qc Qb w u):=O (by rw[d];exact((((Qc.refl _ _).alloc _).alloc _).alloc _).alloc _);have aq:u.heap.size=s+4:=by rw[d,hs];simp
 have B5:Hid (Qh u s #[.int .u64 ((Uf []:Nat):Int)] 29):=O (by rw[d,hs];exact(((Qh.new' _ _ (by simp)).alloc _).alloc _).alloc _);have B6:Hid (Qh u (s+1) #[.int .u64 ((Dh []:Nat):Int)] 29):=O (by rw[d,hs];exact((Qh.new' _ _ (by simp)).alloc _).alloc _);have B7:Hid (Qh u (s+1+1) #[.func (.func 224) #[] #[.pointer (some ⟨s,0,none⟩),.pointer (some ⟨s+1,0,none⟩)]] 279):=O (by rw[d,hs];exact(Qh.new' _ _ (by simp)).alloc _);have B8:Hid (Qh u (s+1+1+1) #[ptr b] 141):=O (by rw[d,hs];exact Qh.new' _ _ (by simp));have ag:Hid (Qgt u b m ad pr l mark):=O (hV.keep C0.out (fun h=>h) (fun h=>h) (fun _ _ h=>h));have ar:b<s:=hs▸hV.blk.lt;have am:m<s:=hs▸hV.map.lt;have has:∀y∈l,ad y.id<s:=fun y hy=>hs▸(hV.mem y hy).lt;rw[←hs]at d⊢;rw[←d];have aa:=O hs;have HB:=O hb;have ae:=O hV;clear d hs hb hV;refine wpIn_rangeFunc_ownH rfl (by decide) (gf:=238) (lb:=#[.pointer (some ⟨s+1+1+1,0,none⟩)]) rfl trivial (enters_of func238 (by kernel_rfl) rfl)
  (Qwo 8 (s+1+1+1) b m mark (by decide) (fun k=>k≠s∧k≠s+1) ad pr l ai u B8.out ag.out ⟨by omega,by omega⟩ ⟨by omega,by omega⟩ ⟨by omega,by omega⟩ (fun y hy=>by have:=has y hy;exact⟨by omega,by omega⟩) (fun k hk=>⟨by omega,by omega⟩))
  (fun h k=>h.trans k) (fun W l o o' h1 h2 h3 h4=>Db.put (w:=u) W l o o' h1 h2 h3 h4) (Below.refl _ _) (fun _=>rfl)
  (fun R W=>((Qh W s #[.int .u64 ((Uf (R.map (·.1)):Nat):Int)] 29∧Qh W (s+1) #[.int .u64 ((Dh (R.map (·.1)):Nat):Int)] 29)∧Qc (fun k=>k=s∨k=s+1) u W))
  (fun _ _ _=>False)
  (OwnFrom.and (OwnFrom.and (Xr _ _ _ _) (Xr _ _ _ _)) (U4 (Nat.le_refl _)))
  (fun c=>fun _ _ _ _ h _ _=>h.elim)
  ⟨⟨B5.out,B6.out⟩,Qc.refl _ _⟩
  (fun y a' W=>a'={tmps:=#[.pointer (some ⟨b,0,none⟩),.pointer (some ⟨ad x.id,0,none⟩),undef,undef,.int .u64 0,.pointer (some ⟨s,0,none⟩),.pointer (some ⟨s+1,0,none⟩),.pointer (some ⟨s+1+1,0,none⟩),undef,ptr (ad y.1.id),.func (.func 224) #[] #[.pointer (some ⟨s,0,none⟩),.pointer (some ⟨s+1,0,none⟩)],.pointer (some ⟨b,0,none⟩),.func (.func 238) #[] #[.pointer (some ⟨s+1+1+1,0,none⟩)],.int .i64 y.1.id,ptr (ad y.1.id),undef,undef,undef,undef,undef,undef,undef,undef,undef,undef,undef,undef,undef,undef,undef,undef,undef,undef,undef,undef,undef,undef,undef,undef,undef,undef,undef,undef,undef],defers:=[]})
  (fun y a' _ X Y row hs hg hr=>hs)
  ?assign ?body ?done (fun _ _ _ _ _ _ h _=>h.elim)
 case assign=> rintro l' R y W K hI hK;dsimp only[Qyc];gi_wp2;exact hK _ _ ⟨Nat.le_refl _,fun k o _ h1 _=>h1⟩ (fun _ _ _ h _=>h) hI rfl
 case body=>
  rintro l' R y a' W hl ao⟨⟨I,E⟩,q⟩rfl Jl;obtain⟨y,hy⟩:=y;dsimp only;have HM:=O (Qt2 (v:=y.v) I.drew E.drew (by omega));have Z:Qc (fun k=>k=s∨k=s+1) u W.drew:=q.drew;have aj:=has y hy;have f0:=Zv (Z.blk B7.out (by omega));obtain⟨d0,d1,d2,d3⟩:=Xt (Z.blk (ag.out.mem y hy) (by omega));have HC:=O q;have ap:=O I;have ak:=O E;unfold ptr at*;clear I E q Z aj;gi_wp2;refine Qk6 [(0,0),(0,1),(0,2),(0,3),(0,4),(2,5)] (by kernel_rfl) (by kernel_rfl) ?_ ?_;·exact fun _ _ _ _ _ h=>h
  simp only[Zs,Zf,Ze,Zd];iterate 5 (refine Qzy (by kernel_rfl) (by go_simp;try with_reducible rfl) ?_)
  refine Qzz ?_;gi_wp2;refine⟨trivial,?_⟩;refine(CallsIn.inRound l' (callsIn_wide.2 HM.out)).mono ?_;rintro e w2⟨rfl,n5,n6,c2⟩;have C2:=O c2.undrew;have N5:=O n5;have N6:=O n6;clear f0 d0 d1 d2 d3 c2 n5 n6;gi_wp2;refine Qzm ?_;gi_wp2;refine⟨Y7 C2.out (fun k hk=>by rcases hk with h|h<;>omega),Db.chg C2.out (fun k h1 h2=>by rcases h2 with h|h<;>omega),⟨?_,?_⟩,HC.out.trans' C2.out⟩;·rw[List.map_append,List.map_cons,List.map_nil,Qno];exact N5.out
  ·rw[List.map_append,List.map_cons,List.map_nil,Qqk];exact N6.out
 case done=>
  rintro D ys W hD hp⟨⟨I,E⟩,q⟩hK;have cw:Qc Qb w W:=C0.out.trans q (fun k hk=>.inr (by rw[←aa.out];rcases hk with h|h<;>omega));have J:Ed (l.filter (·.awake)) mark x.v=Ed (ys.map (·.1)) mark x.v:=by unfold Ed;rw[Qee hp,Qgv hp]
  obtain⟨an,B⟩:=Zx (Ed (l.filter (·.awake)) mark x.v);rw[←B]at J;have U:=O B;clear B;have V:Dh (ys.map (·.1))≤Qx:=Qgw _ fun z hz=>HB.out z ((List.mem_filter.1 (hp.mem_iff.1 hz)).1);have af:=HB.out x hx;have HX:=O (cw.blk (ae.out.mem x hx) (fun h=>h));have ah:=O (cw.blk ae.out.blk (fun h=>h));have ac:=Qdg (ys.map (·.1));unfold Ed at J;generalize Uf (ys.map (·.1))=lo at I J ac;generalize Dh (ys.map (·.1))=hi at E J V;have hN:Qx=9223372036854775808:=rfl;by_cases Jl:hi<lo
  ·rw[if_pos Jl]at J;have E0:=O J;have d1:decide (hi<lo)=true:=by simpa using Jl
   have d2:(hi:Int)<(lo:Int):=by omega
   have em:max (x.v:Int) (mark:Int)=((max x.v mark:Nat):Int):=by omega
   have a0:=Zv I;have a1:=Zv E;obtain⟨x0,x1,x2,x3⟩:=Xt HX.out.drew;obtain⟨m0,m1⟩:=Qz ah.out.drew;have HK:=O hK;have CW:=O cw;have ab:w.heap.size≤D:=by have:=aa.out;omega
   clear J I E q hp hK cw ac V af hN Jl;gi_wp2;refine Ec [(0,0),(0,1),(0,2),(0,3),(0,4),(0,5),(0,6),(0,7),(0,8),(2,9)] (by kernel_rfl) (by kernel_rfl) ?_;simp only[Zs,Zf,Ze,Zd];iterate 9 (refine Ge (by kernel_rfl) (by go_simp;try with_reducible rfl) ?_)
   refine Qcd ?_;gi_wp2;refine Qsf ?_;gi_wp2;refine⟨by simp,.inl ⟨_,_,rfl,run_takeDeferred (show W.drew.heap[D]? =_ from HK.out),?_⟩⟩;refine⟨.int .u64 ((max x.v mark:Nat):Int),?_,by rw[←U.out,E0.out],Vq CW.out.drew ab (Array.getElem?_eq_some_iff.1 HK.out).1⟩;simp[results,Tryz.results201,go_sem]
  ·rw[if_neg Jl]at J;have E0:=O J;have d1:decide (hi<lo)=false:=by simpa using Jl
   have d2:¬(hi:Int)<(lo:Int):=by omega
   have e1:IntKind.u64.wrap ((hi:Int)-(lo:Int))=((hi-lo:Nat):Int):=by rw[IntWalk.u64_in _ (by omega)];omega
   have e3:IntKind.u64.wrap (((hi-lo:Nat):Int)/2)=(((hi-lo)/2:Nat):Int):=by rw[IntWalk.u64_in _ (by omega)];omega
   have e2:IntKind.u64.wrap ((lo:Int)+(((hi-lo)/2:Nat):Int))=((lo+(hi-lo)/2:Nat):Int):=by rw[IntWalk.u64_in _ (by omega)];omega
   have em:max (x.v:Int) ((lo+(hi-lo)/2:Nat):Int)=((max x.v (lo+(hi-lo)/2):Nat):Int):=by omega
   have a0:=Zv I;have a1:=Zv E;have av:=Zv I.drew;have au:=Zv E.drew;obtain⟨x0,x1,x2,x3⟩:=Xt HX.out.drew;have HK:=O hK;have CW:=O cw;have ab:w.heap.size≤D:=by have:=aa.out;omega
   clear J I E q hp hK cw ac V af hN Jl;gi_wp2;refine Ec [(0,0),(0,1),(0,2),(0,3),(0,4),(0,5),(0,6),(0,7),(0,8),(0,9),(0,10),(2,11)] (by kernel_rfl) (by kernel_rfl) ?_;simp only[Zs,Zf,Ze,Zd];generalize(hi-lo)/2=hf at e2 e3 em E0;generalize lo+hf=lh at e2 em E0;iterate 11 (refine Ge (by kernel_rfl) (by go_simp;try with_reducible rfl) ?_)
   refine Qcd ?_;gi_wp2;refine Qsf ?_;gi_wp2;refine⟨by simp,.inl ⟨_,_,rfl,run_takeDeferred (show W.drew.heap[D]? =_ from HK.out),?_⟩⟩;refine⟨.int .u64 ((max x.v lh:Nat):Int),?_,by rw[←U.out,E0.out],Vq CW.out.drew ab (Array.getElem?_eq_some_iff.1 HK.out).1⟩;simp[results,Tryz.results201,go_sem]
theorem Qnq{m:Nat}{ad:Int→Nat}{w:World}{F:Fp}{b:Nat}{f:Q9}(h:Xv m ad w F b f)(u:∀y∈f.all,y.v≤Qx)(k:f.mark≤Qx){x:Zq}(z:x∈f.all):
  Cl 201 #[ptr b,ptr (ad x.id)] w fun e w'=>e=.returned (.int .u64 ((f.start x:Nat):Int))∧Qc Qb w w':=by
 obtain⟨pr,l,d,c,q⟩:=h.view;rw[Qwq (d.filter _) x];exact Qnp q c (fun y B=>u y (d.mem_iff.1 B)) k (d.mem_iff.2 z)
end
section
attribute [local go_sem] Qq
theorem Q9.made_wake(f:Q9)(x:Zq)(v:Nat)(r:Jo):((f.made x v).set {{x with v:=v}with run:=r}).set {{{x with v:=v}with run:=r}with awake:=true}=f.made {x with run:=r,awake:=true} v:=by refine(Q9.set_set (f.made x v) (a:={{x with v:=v}with run:=r}) (b:={{{x with v:=v}with run:=r}with awake:=true}) rfl).trans ?_;have e:=f.set_set (a:={x with v:=v}) (b:={{{x with v:=v}with run:=r}with awake:=true}) rfl;unfold Q9.made;show(⟨((f.set {x with v:=v}).set {{{x with v:=v}with run:=r}with awake:=true}).all,max f.mark v⟩:Q9)=_;rw[e]
theorem Qql{w:World}{F:Fp}{b:Nat}{f:Q9}(h:Jb w F b f)(hN:∀x∈f.all,x.total≤Jz∧x.run.l.length<549755813888∧x.v≤Qx)(K:f.mark≤Qx)(i:Int):
  Cl 138 #[ptr b,.int .i64 i] w fun e w'=>e=.returned (.tuple #[])∧Jb w' (Qn F w w') b (f.wake i)∧Qc F w w':=by
 obtain⟨m,ad,I⟩:=h.addr;have R:=O (I.at_any i);unfold Q9.wake;unfold Qqg at R;cases hx:f.at i with
 |none=> have c:=O (I.same (Qc.refl Qb w));rw[hx]at R;dsimp only[atP]at R⊢;unfold ptr at*;clear h I hx hN K;go_enter func138,ntmps138;go_wp2_with fail;refine R.out.mono ?_;rintro e w1⟨rfl,rfl⟩;go_wp2;refine bodyPost_ret (results_none rfl _ _ _) rfl ⟨rfl,c.out.1.is,c.out.2⟩
 |some x=>
  obtain⟨hm,rfl⟩:=Q9.at_mem hx;obtain⟨V,B,aj⟩:=hN x hm;obtain⟨p,H,hM,_,ah⟩:=I.memB hm;obtain⟨a0,a1,a2,a3⟩:=Xt hM;rw[hx]at R;dsimp only[atP]at R⊢;rcases Bool.eq_false_or_eq_true x.awake with d|d;·rw[if_pos d];rw[d]at a3;have c:=O (I.same (Qc.refl Qb w));unfold ptr at*;clear h I hx hN K hM hm V B aj ah d;go_enter func138,ntmps138;go_wp2_with fail;refine R.out.mono ?_;rintro e w1⟨rfl,rfl⟩;go_wp2;refine bodyPost_ret (results_none rfl _ _ _) rfl ⟨rfl,c.out.1.is,c.out.2⟩
  ·rw[if_neg (by rw[d];decide)];rw[d]at a3;have HS:=O (Qnq I (fun y hy=>(hN y hy).2.2) K hm);have ai:f.start x≤Qx:=by unfold Q9.start;have h1:f.most≤Qx:=Qgw _ fun z hz=>(hN z (List.mem_filter.1 hz).1).2.2;have h2:f.least≤Qx:=Qdg _;split<;>omega
   generalize f.start x=v at HS ai⊢;have al:Qx=9223372036854775808:=rfl;have hC:=Xu;have aa:=O ((Xv.obj m ad).bd I);have S1:Hid (∀w1,Qc Qb w w1→Xv m ad w1 (Qn F w w1) b f∧Qc F w w1):=O (fun w1 c1=>I.same c1);have M2:=O (Q9.mem_set (a:={x with v:=v}) hm rfl);have an:({x with v:=v}:Zq)∈(f.made x v).all:=M2.out;have am:=O (fun(w:World)(F:Fp)(p:Nat)(h:Yx w F p x.run)=>Lv h B v x.total (by omega) (by omega));have HM:=O hm;have FE:=O (f.made_wake x v (x.run.start v x.total));unfold ptr at*;clear h I hx hN K hM hm V B aj ah d ai al hC;go_enter func138,ntmps138;go_wp2_with fail;refine R.out.mono ?_;rintro e w1⟨rfl,rfl⟩;go_wp2_with fail;refine HS.out.mono ?_;rintro e w1⟨rfl,c1⟩;obtain⟨h1,ae⟩:=S1.out _ c1;have B1:=O ((Xv.obj m ad).bd h1);have C1:=O ae;clear c1 ae a0 a1 a2 a3;go_wp2_with fail;refine(Qgr h1 HM.out v).mono ?_;rintro e w2⟨rfl,h2,c2⟩;have C2:=O (C1.out.ext c2);have ac:Xv m ad w2 (Qn F w w2) b (f.made x v):=((Xv.obj m ad).two h2 aa.out C1.out c2).1;obtain⟨q,G,ag,u,U⟩:=ac.memR an;obtain⟨a0,a1,a2,a3⟩:=Xt ag.drew;have HR:=O (am.out _ _ _ ((runP.keep u (Qc.refl Qb w2).drew (Je.none G))));have HP:=O U;have BG:=O (runP.bd u);have B2:=O ((Xv.obj m ad).bd ac);clear h1 h2 c2 ac ag u U;unfold ptr at*;go_wp2_with fail;refine Qi [(0,0),(0,1),(0,2),(0,3),(0,4),(0,5),(0,6),(0,7),(0,8),(0,9),(0,10),(0,11),(2,12)] (by kernel_rfl) (by kernel_rfl) ?_ ?_;·exact fun _ _ _ _ _ h=>h
   simp only[Zs,Zf,Ze,Zd];iterate 12 (refine Zz (by kernel_rfl) (by go_simp;try with_reducible rfl) ?_)
   clear a0 a1 a2 a3;refine Jj ?_;go_wp2_with fail;refine HR.out.mono ?_;rintro e w3⟨rfl,ak,c3⟩;have Z:=c3.undrew;obtain⟨h3,af⟩:=HP.out w3 _ (runP.more ak (fun k hk=>hk.elim .inl (fun hk=>.inr hk)) (BG.out.ext Z)) Z;have J:=((Xv.obj m ad).two h3 aa.out C2.out af);have ab:({{x with v:=v}with run:=x.run.start v x.total}:Zq)∈((f.made x v).set {{x with v:=v}with run:=x.run.start v x.total}).all:=Q9.mem_set (x:={x with v:=v}) M2.out rfl;obtain⟨q3,H3,E,_,_⟩:=J.1.memB ab;obtain⟨a0,a1,a2,a3⟩:=Xt E;have z3:=E.frozen 3;have c:Hid (∀w4,w4=w3.setCell ⟨ad x.id,3,none⟩ (.bool true)→Jb w4 (Qn F w w4) b (f.made {x with run:=x.run.start v x.total,awake:=true} v)∧Qc F w w4):=O (by
    rintro w4 rfl;obtain⟨k1,k2⟩:=J.1.memC' (x':={{{x with v:=v}with run:=x.run.start v x.total}with awake:=true}) ab rfl rfl E ((Qc.refl (fun k=>k=ad x.id) w3).setCell (a:=⟨ad x.id,3,none⟩) (.bool true) (.inl rfl)) (E.set' 3 _ rfl);obtain⟨l1,l2⟩:=(Xv.obj m ad).two k1 aa.out J.2 k2;rw[FE.out]at l1;exact⟨l1.is,l2⟩)
   clear ak c3 Z h3 af J ab E;go_wp2_with fail;refine Zu ?_;go_wp2_with fail;refine bodyPost_end (by simp[*,results,Tryz.results138,go_sem]) rfl ⟨rfl,c.out _ rfl⟩
end
section
open Go.Shelf
attribute [local go_sem] Oper.semAt_some Qq
attribute [local irreducible] V1
theorem Qgx{T:Fp}(W:World):Db T W W.drew:=fun b o _ h _=>h
theorem Db.refl{T:Fp}(W:World):Db T W W:=fun b o _ h _=>h
theorem Jk.kpt{T:Fp}{w w':World}(d:Db T w w'):∀(t:Tr),Jk w t→(∀a∈t.addrs,T a)→Jk w' t
 | .nil,_,_=>trivial
 | .node x c l r,⟨h1,h2,h3⟩,hT=>⟨d.blk h1 (hT x.a (by simp[Tr.addrs])),Jk.kpt d l h2 (fun a ha=>hT a (by simp[Tr.addrs,ha])),Jk.kpt d r h3 (fun a ha=>hT a (by simp[Tr.addrs,ha]))⟩
def Qt3(x:J6):Array Value:=#[Xi x.1 x.2.1,.int .u64 (x.2.2:Int)]
def Ug(T:Fp)(J k:List J6→World→Prop)(c l:List J6)(W:World)(e:Ending)(d:World):Prop:=
 ∃b:Bool,e=.returned (.bool b)∧(b=true→J (c++l) d∧Db T W d)∧(b=false→∃p,p<+:l∧k (c++p) d)
theorem Qwr{n l:Nat}{T:Fp}{J q:List J6→World→Prop}(k:∀c W,J c W→J c W.drew)(c:List J6)(W:World)(h0:J c W):
  CallsIn Fence.wide n prog 228 #[.pointer none,.func (.yield l) #[] #[]] W (Ug T J q c [] W):=by
 have d:Hid (Ug T J q c [] W (.returned (.bool true)) W.drew):=O ⟨true,rfl,fun _=>⟨by rw[List.append_nil];exact k _ _ h0,Qgx W⟩,nofun⟩;clear h0 k;refine callsIn_of_wp func228 rfl trivial ?_ rfl;simp only[ntmps228,List.size_toArray,List.length_cons,List.length_nil,Nat.reduceAdd,Nat.reduceSub,Array.replicate_succ,Array.replicate_zero,List.push_toArray,List.append_toArray,List.nil_append,List.cons_append];gi_wp2;refine Dp [(0,0),(0,1),(0,2),(0,3),(0,4),(0,5),(0,6),(0,7),(2,8),(0,9),(0,10),(0,11),(0,12),(0,13),(0,14),(0,15),(0,16),(0,17),(0,18),(2,19),(0,20),(0,21),(0,22),(0,23),(0,24),(0,25),(0,26),(2,27),(0,28),(0,29),(2,30)] (by kernel_rfl) (by kernel_rfl) ?_ ?_;·exact fun _ _ _ _ _ h=>h
 simp only[Zs,Zf,Ze,Zd];iterate 3 (refine Ge (by kernel_rfl) (by go_simp;try with_reducible rfl) ?_)
 iterate 26 (first|(refine Qk2 (by kernel_rfl) ?_)|(refine Qez (by kernel_rfl) ?_)|(refine Qk3 (by kernel_rfl) ?_);try simp only[Act.put,Za,Zc,Zb])
 refine Ge (by kernel_rfl) (by go_simp;try with_reducible rfl) ?_;refine Qcd ?_;gi_wp2;refine Qk1 ?_;gi_wp2;refine bodyPost_ret (v:=.bool true) (by simp[results,Tryz.results228,go_sem]) rfl d.out
theorem Qt4{n l N:Nat}{T:Fp}{J B:List J6→World→Prop}(hJ:∀d W,J d W→J d W.drew)
  (hY:∀m d x W1,J d W1→d.length<N→YieldAt Fence.wide m prog l (Qt3 x) W1 fun e W'=>(e=.returned (.bool true)∧J (d++[x]) W'∧Db T W1 W')∨(e=.returned (.bool false)∧B (d++[x]) W'))
  {x:Nd} {c:Bool} {L R:Tr} (d:List J6) (W:World) (hA:Jk W (.node x c L R)) (hT:∀a∈(Tr.node x c L R).addrs,T a) (h0:J d W) (u:d.length+(Tr.node x c L R).flat.length≤N)
  (il:∀m d W,Jk W L→J d W→d.length+L.flat.length≤N→CallsIn Fence.wide m prog 228 #[L.ptrV,.func (.yield l) #[] #[]] W (Ug T J B d L.flat W))
  (ir:∀m d W,Jk W R→J d W→d.length+R.flat.length≤N→CallsIn Fence.wide m prog 228 #[R.ptrV,.func (.yield l) #[] #[]] W (Ug T J B d R.flat W)):
  CallsIn Fence.wide n prog 228 #[.pointer (some ⟨x.a,0,none⟩),.func (.yield l) #[] #[]] W (Ug T J B d (Tr.node x c L R).flat W):=by
 have HB:=O hA.1;have HA:=O hA;have HJ:=O hJ;have HY:=O hY;have H0:=O h0;have HL:=O u;have IL:=O il;have IR:=O ir;have HT:=O hT;obtain⟨pl,ae⟩:=L.ptrV_any;obtain⟨pr,Z⟩:=R.ptrV_any;rw[ae]at HB IL;rw[Z]at HB IR;clear hA hJ hY h0 u il ir hT ae Z;refine callsIn_of_wp func228 rfl trivial ?_ rfl;simp only[ntmps228,List.size_toArray,List.length_cons,List.length_nil,Nat.reduceAdd,Nat.reduceSub,Array.replicate_succ,Array.replicate_zero,List.push_toArray,List.append_toArray,List.nil_append,List.cons_append];gi_wp2;obtain⟨U,a1,V,a3,a4,a5,I,a7⟩:=Q7 HB.out.drew;refine Dp [(0,0),(0,1),(0,2),(0,3),(0,4),(0,5),(0,6),(0,7),(2,8),(0,9),(0,10),(0,11),(0,12),(0,13),(0,14),(0,15),(0,16),(0,17),(0,18),(2,19),(0,20),(0,21),(0,22),(0,23),(0,24),(0,25),(0,26),(2,27),(0,28),(0,29),(2,30)] (by kernel_rfl) (by kernel_rfl) ?_ ?_;·exact fun _ _ _ _ _ h=>h
 simp only[Zs,Zf,Ze,Zd];iterate 8 (refine Ge (by kernel_rfl) (by go_simp;try with_reducible rfl) ?_)
 clear U a1 V a3 a4 a5 I a7;refine Qcd ?_;gi_wp2;refine⟨trivial,(fun h=>by cases h),?_⟩;refine(IL.out _ d W.drew (Jk.keep ((Qc.refl Qb W).drew) _ HA.out.2.1 (fun a _ h=>h)) (HJ.out _ _ H0.out) (by have:=HL.out;simp[Tr.flat]at this;omega)).mono ?_;rintro e w1⟨b1,rfl,k1,k2⟩;cases b1
 ·obtain⟨p,hp,hx⟩:=k2 rfl;have k:Hid (Ug T J B d (Tr.node x c L R).flat W (.returned (.bool false)) w1):=O ⟨false,rfl,nofun,fun _=>⟨p,hp.trans (by simp[Tr.flat]),hx⟩⟩;clear k1 k2 hp hx;gi_wp2;iterate 1 (first|(refine Ge (by kernel_rfl) (by go_simp;try with_reducible rfl) ?_)|(refine Uu (by kernel_rfl) (fun z=>by go_simp;try with_reducible rfl) ?_);try simp only[Act.put,Za,Zc,Zb])
  iterate 10 (first|(refine Qk2 (by kernel_rfl) ?_)|(refine Qez (by kernel_rfl) ?_)|(refine Qk3 (by kernel_rfl) ?_);try simp only[Act.put,Za,Zc,Zb])
  iterate 2 (first|(refine Ge (by kernel_rfl) (by go_simp;try with_reducible rfl) ?_)|(refine Uu (by kernel_rfl) (fun z=>by go_simp;try with_reducible rfl) ?_);try simp only[Act.put,Za,Zc,Zb])
  iterate 6 (first|(refine Qk2 (by kernel_rfl) ?_)|(refine Qez (by kernel_rfl) ?_)|(refine Qk3 (by kernel_rfl) ?_);try simp only[Act.put,Za,Zc,Zb])
  iterate 2 (first|(refine Ge (by kernel_rfl) (by go_simp;try with_reducible rfl) ?_)|(refine Uu (by kernel_rfl) (fun z=>by go_simp;try with_reducible rfl) ?_);try simp only[Act.put,Za,Zc,Zb])
  refine Qcd ?_;gi_wp2;refine Qk1 ?_;gi_wp2;refine bodyPost_ret (v:=.bool false) (by simp[results,Tryz.results228,go_sem]) rfl k.out
 ·obtain⟨K,E⟩:=k1 rfl;have B1:=O (E.blk HB.out.drew (HT.out _ (by simp[Tr.addrs])));obtain⟨U,a1,V,a3,a4,a5,I,a7⟩:=Q7 B1.out;obtain⟨fn,ah,af,ai,hy,hR⟩:=HY.out 0 _ (x.n,x.i,x.v) w1 K (by have:=HL.out;simp[Tr.flat]at this⊢;omega);have ab:=O E;have HR:=O hR;clear k1 k2 K E hR;dsimp only[Qt3,Xi]at hy;gi_wp2;iterate 10 (first|(refine Ge (by kernel_rfl) (by go_simp;try with_reducible rfl) ?_)|(refine Uu (by kernel_rfl) (fun z=>by go_simp;try with_reducible rfl) ?_);try simp only[Act.put,Za,Zc,Zb])
  clear U a1 V a3 a4 a5 I a7;refine Qcd ?_;gi_wp2;refine⟨(fun h=>by cases h),?_⟩;refine(Qca HR.out).mono ?_;clear hy;rintro e W3(⟨rfl,aa,q⟩|⟨rfl,ac⟩)
  ·have B3:=O (q.blk B1.out (HT.out _ (by simp[Tr.addrs])));obtain⟨U,a1,V,a3,a4,a5,I,a7⟩:=Q7 B3.out;have AR:=O (Jk.kpt (ab.out.trans q) R (Jk.keep ((Qc.refl Qb W).drew) _ HA.out.2.2 (fun a _ h=>h)) (fun a ha=>HT.out a (by simp[Tr.addrs,ha])));have ag:=O ((Db.trans (Qgx W) ab.out).trans q);have J3:=O aa;clear aa q;gi_wp2;iterate 7 (first|(refine Ge (by kernel_rfl) (by go_simp;try with_reducible rfl) ?_)|(refine Uu (by kernel_rfl) (fun z=>by go_simp;try with_reducible rfl) ?_);try simp only[Act.put,Za,Zc,Zb])
   clear U a1 V a3 a4 a5 I a7;refine Qcd ?_;gi_wp2;refine⟨trivial,(fun h=>by cases h),?_⟩;refine(IR.out _ _ W3 AR.out J3.out (by have:=HL.out;simp[Tr.flat]at this⊢;omega)).mono ?_;rintro e W4⟨b4,rfl,k1,k2⟩;have k:Hid (Ug T J B d (Tr.node x c L R).flat W (.returned (.bool b4)) W4):=O (by
    refine⟨b4,rfl,fun h=>⟨?_,ag.out.trans (k1 h).2⟩,fun h=>?_⟩;·have:=(k1 h).1;simpa[Tr.flat]using this
    ·obtain⟨p,hp,hx⟩:=k2 h;refine⟨L.flat++(x.n,x.i,x.v)::p,?_,by simpa using hx⟩;simp[Tr.flat,hp])
   clear k1 k2;gi_wp2;iterate 2 (first|(refine Ge (by kernel_rfl) (by go_simp;try with_reducible rfl) ?_)|(refine Uu (by kernel_rfl) (fun z=>by go_simp;try with_reducible rfl) ?_);try simp only[Act.put,Za,Zc,Zb])
   refine Qcd ?_;gi_wp2;refine Qk1 ?_;gi_wp2;refine bodyPost_ret (v:=.bool b4) (by simp[results,Tryz.results228,go_sem]) rfl k.out
  ·have k:Hid (Ug T J B d (Tr.node x c L R).flat W (.returned (.bool false)) W3):=O ⟨false,rfl,nofun,fun _=>⟨L.flat++[(x.n,x.i,x.v)],by simp[Tr.flat],by simpa using ac⟩⟩;clear ac;gi_wp2;iterate 2 (first|(refine Ge (by kernel_rfl) (by go_simp;try with_reducible rfl) ?_)|(refine Uu (by kernel_rfl) (fun z=>by go_simp;try with_reducible rfl) ?_);try simp only[Act.put,Za,Zc,Zb])
   iterate 6 (first|(refine Qk2 (by kernel_rfl) ?_)|(refine Qez (by kernel_rfl) ?_)|(refine Qk3 (by kernel_rfl) ?_);try simp only[Act.put,Za,Zc,Zb])
   iterate 2 (first|(refine Ge (by kernel_rfl) (by go_simp;try with_reducible rfl) ?_)|(refine Uu (by kernel_rfl) (fun z=>by go_simp;try with_reducible rfl) ?_);try simp only[Act.put,Za,Zc,Zb])
   refine Qcd ?_;gi_wp2;refine Qk1 ?_;gi_wp2;refine bodyPost_ret (v:=.bool false) (by simp[results,Tryz.results228,go_sem]) rfl k.out
theorem Qgy{l N:Nat}{T:Fp}{J B:List J6→World→Prop}(k:∀d W,J d W→J d W.drew)
  (q:∀m d x u,J d u→d.length<N→YieldAt Fence.wide m prog l (Qt3 x) u fun e z=>(e=.returned (.bool true)∧J (d++[x]) z∧Db T u z)∨(e=.returned (.bool false)∧B (d++[x]) z)):
  ∀(t:Tr)(n:Nat)(d:List J6)(W:World),Jk W t→(∀a∈t.addrs,T a)→J d W→d.length+t.flat.length≤N→
   CallsIn Fence.wide n prog 228 #[t.ptrV,.func (.yield l) #[] #[]] W (Ug T J B d t.flat W)
 | .nil,n,d,W,_,_,h0,_=>Qwr k d W h0
 | .node x c L R,n,d,W,hA,hT,h0,hlen=>Qt4 k q d W hA hT h0 hlen
   (fun m d W ha h0 hl=>Qgy k q L m d W ha (fun a h=>hT a (by simp[Tr.addrs,h])) h0 hl)
   (fun m d W ha h0 hl=>Qgy k q R m d W ha (fun a h=>hT a (by simp[Tr.addrs,h])) h0 hl)
end
end Go.Proofs.YtnnhmpehkbihnaaGreat
