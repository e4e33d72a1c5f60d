/- A part of the proof: no condition. -/
import Derived.Test.YtnnhmpehkbihnaaGreatPs09
namespace Go.Proofs.YtnnhmpehkbihnaaGreat
set_option linter.unusedVariables false
set_option maxRecDepth 100000
set_option maxHeartbeats 4000000
open Go.RowKit
open Go.Proofs.Tryz
section
attribute [local go_sem] Qp
attribute [local go_sem ↓] Vw Vx
attribute [local go_sem] Ds Oy
theorem Mx.even{w}{F:Fp}{T:Nat}{t:Tr}{l:List Xu}(h:Mx w F T t l):t.even:=by obtain⟨m,c⟩:=h.fine;exact c.2.1
theorem Qp1(w):Cl 176 #[Dd,Vv] w fun e w'=>e=.returned (ptr w.heap.size)∧Vz w' (Qn Qb w w') w.heap.size []∧Qc Qb w w':=by
 have c:=O (fun w'(u:w'=w.alloc (.cells #[Dd,Vv,.pointer none,.int .i64 0] 254))=>show Vz w' (Qn Qb w w') w.heap.size []∧Qc Qb w w' from by
  subst u;have d:=Qh.new w #[Dd,Vv,.pointer none,.int .i64 0] 254;exact⟨⟨.nil,d,⟨⟨_,_,d⟩,by simp[Tr.aC],trivial⟩,⟨0,trivial,trivial,rfl⟩,rfl,rfl,List.Pairwise.nil,fun a ha=>by simp[Tr.aC]at ha;exact .inr ⟨by omega,by subst ha;simp⟩,fun k q=>q.elim (fun h=>h.elim) (fun h=>h.2)⟩,(Zg _ _).alloc _⟩)
 unfold ptr Dd Vv at*;go_enter func176,ntmps176;go_wp2;go_ret;exact⟨rfl,c.o _ rfl⟩
theorem Qp0{w}{F:Fp}{T:Nat}{l:List Xu}(h:Vz w F T l):Cl 211 #[ptr T] w fun e w'=>e=.returned (.int .i64 l.length)∧w=w':=by obtain⟨t,h⟩:=h;have c:=O (Od ⟨_,_,h.top⟩);obtain⟨d,a1,k,q⟩:=X9 h.top;unfold ptr at*;clear h;go_enter func211,ntmps211;go_wp2_with fail;refine Zy c ?_;rintro w1 rfl;go_wp2;go_ret;exact⟨rfl,rfl⟩
theorem aE{n:Nat}{i:Int}{v:Nat}{t:Tr}(hr:Xd t.flat)(B:(n,i,v)∈t.flat):∃y c a b,t.at n i=.aD y c a b∧y.v=v:=by
 cases E:t.at n i with
 |nil=>exact absurd ⟨rfl,rfl⟩ ((Ap hr).1 E _ B)
 |aD y c a b=>
  obtain⟨h1,J,I⟩:=Qer E;refine⟨y,c,a,b,rfl,?_⟩;rcases Nat.lt_trichotomy 0 1 with _|h|h
  ·by_cases e:(n,i,y.v)=(n,i,v);·simpa using e
   ·exfalso;have:Mv (n,i,y.v) (n,i,v)∨Mv (n,i,v) (n,i,y.v):=by
     obtain⟨j,q⟩:=List.mem_iff_getElem.1 B;obtain⟨k,u⟩:=List.mem_iff_getElem.1 I;obtain⟨q,z⟩:=q;obtain⟨u,d⟩:=u;rcases Nat.lt_trichotomy j k with h'|h'|h';·have:=List.pairwise_iff_getElem.1 hr j k q u h';rw[z,d]at this;exact .inr this
     ·subst h';rw[z]at d;exact absurd d.symm e
     ·have:=List.pairwise_iff_getElem.1 hr k j u q h';rw[z,d]at this;exact .inl this
    unfold Mv at this;dsimp only at this;omega
  ·cases h
  ·omega
theorem Qfy{w}{n:Nat}{i:Int}:∀{t:Tr},Jw w t→Jw w (t.at n i)
 | .nil,_=>trivial
 | .aD x c l r,h=>by
  rw[Tr.at];split;·exact h
  ·split;·exact Qfy h.2.1
   ·exact Qfy h.2.2
theorem Qpz{w}{F:Fp}{T:Nat}{l:List Xu}(h:Vz w F T l)(n:Nat)(i:Int)(v:Nat)(R:(n,i,v)∈l):
  Cl 171 #[ptr T,Yo n i] w fun e w'=>e=.returned (.tuple #[.int .u64 v,.bool true])∧Qc Qb w w':=by
 obtain⟨t,h⟩:=h;obtain⟨y,c,a,b,d,rfl⟩:=aE (t:=t) (by rw[h.flat];exact h.ris) (by rw[h.flat];exact R);have J:=O (show Jw w (.aD y c a b)from d▸Qfy (n:=n) (i:=i) h.sub.at');have H:=O h;obtain⟨k,B⟩:=Zx (w.heap.size);have z:=O (Qh.new w #[.int .u64 n,.int .i64 i] 204);have u:=O ((Zg Qb w).alloc (.cells #[.int .u64 n,.int .i64 i] 204));simp only[←B]at z;have q:=O (fun w F(h:Mx w F T t l)=>Qfd h n i);simp only[d,Tr.aH]at q;unfold ptr Yo at*;clear h d R;go_enter func171,ntmps171;go_wp2_with fail;rw[←B];obtain⟨W,hW⟩:=Zx (w.alloc (.cells #[.int .u64 n,.int .i64 i] 204));rw[←hW]at z u⊢;clear hW B;have I:=q.o _ _ (H.o.aB u.o (Jl.none F));obtain⟨k0,k1⟩:=Q4 z.o;refine Zz I ?_;intro w2 K;have E:=O (u.o.aA K);obtain⟨U,b1,b2,V,Z,b5,b6,b7⟩:=Ja (E.o.blk J.o.1 (fun h=>h));clear k0 k1 I J K;go_wp2;go_ret2;exact⟨rfl,E.o⟩
def Ur(s:Nat×Int):Value:=.agg #[.int .u64 s.1,.int .i64 s.2]
theorem Qpy{w}{F:Fp}{T:Nat}{l:List Xu}(h:Vz w F T l):
  Cl 172 #[ptr T] w fun e w'=>e=.returned (.tuple #[Ur ((low l).getD (0,0)),.bool (low l).isSome])∧Qc Qb w w':=by
 obtain⟨t,h⟩:=h;have q:=Bb t h.even;rw[h.flat]at q;rw[←q];obtain⟨k,E⟩:=Zx (w.heap.size);have z:=O ((Zg Qb w).alloc (.cells #[.int .u64 0,.int .i64 0] 201));have J:=O (Qh.new w #[.int .u64 0,.int .i64 0] 201);simp only[←E]at J;have u:=O (h.aB z.o (Jl.none F));have I:=O (Od ⟨_,_,u.o.top⟩);have f0:=J.o.frozen;unfold ptr at*;clear h q;cases t with
 |nil=>
  obtain⟨K,a1,B,R⟩:=X9 u.o.top;have d:Tr.nil.aH=.pointer none:=rfl;rw[d]at B;clear d;go_enter func172,ntmps172;go_wp2_with fail;rw[←E];refine Zy I ?_;rintro w1 rfl;go_wp2;refine bodyPost_ret (v:=.tuple #[Ur (0,0),.bool false]) ?_ rfl ⟨rfl,?_⟩;·simp[*,results,Tryz.results172,go_sem,Ur]
  ·have:=z.o;exact Zh this _
 |aD x c a b=>
  obtain⟨K,a1,B,R⟩:=X9 u.o.top;have d:(Tr.aD x c a b).aH=.pointer (some ⟨x.a,0,none⟩):=rfl;rw[d]at B;obtain⟨U,b1,b2,V,Z,b5,b6,b7⟩:=Ja u.o.sub.at'.1;clear d;go_enter func172,ntmps172;go_wp2_with fail;rw[←E];refine Zy I ?_;rintro w1 rfl;go_wp2;refine bodyPost_ret (v:=.tuple #[Ur (x.sv,x.si),.bool true]) ?_ rfl ⟨rfl,?_⟩;·simp[*,results,Tryz.results172,go_sem,Ur]
  ·have hc:=z.o;exact Zh (Zg _ _) _
theorem Qtw(s a:Nat×Int):jn (some s) (some a)=some (Xn s a):=rfl
theorem Ff{W}{q0 q1 q2 T:Nat}(o:Option (Nat×Int))(a:Nat×Int)(h0:Qh W q0 #[.pointer (some ⟨T,0,none⟩)] 195)(h1:Qh W q1 (Y4 (o.getD (0,0))) 201)
  (h2:Qh W q2 #[.bool o.isSome] 4) (hT:Qgc W T) (Z:q1≠q2):
  Cl 210 #[Ur a,ptr q2,ptr q0,ptr q1] W fun e w'=>e=.returned (.tuple #[])∧Qh w' q1 (Y4 ((jn o (some a)).getD (0,0))) 201∧Qh w' q2 #[.bool (jn o (some a)).isSome] 4∧Qc (fun k=>k=q1∨k=q2) W w':=by
 obtain⟨k,hk⟩:=Zx (W.heap.size);have J:=O (Qh.new W (Y4 a) 201);have c:=O ((Zg Qb W).alloc (.cells (Y4 a) 201));simp only[←hk]at J;have l1:=h1.lt;have l2:=h2.lt;have m1:q1≠k:=by omega
 have m2:q2≠k:=by omega
 have HK:Hi (W.heap.size≤k):=O (by omega);have q:=O Z;have M1:=O m1;have M2:=O m2;have af:=Ne.symm Z;have ac:=Ne.symm m1;have ae:=Ne.symm m2;have H0:=O h0;have H1:=O h1;have H2:=O h2;have HT:=O hT;clear h0 h1 h2 hT l1 l2;have E:Hi (∀(w3 w')(s:Nat×Int),Qc Qb W w3→w'=((w3.setCell ⟨q1,0,none⟩ (.int .u64 s.1)).setCell ⟨q1,1,none⟩ (.int .i64 s.2)).setCell ⟨q2,0,none⟩ (.bool true)→
   Qh w' q1 (Y4 s) 201∧Qh w' q2 #[.bool true] 4∧Qc (fun k=>k=q1∨k=q2) W w'):=O fun w3 w' s hc hw=>by
  subst hw;exact⟨(((hc.blk H1.o (fun h=>h)).set' 0 _ rfl).set' 1 _ rfl).other _ (Ne.symm q.o),(((hc.blk H2.o (fun h=>h)).other _ q.o).other _ q.o).set' 0 _ rfl,((hc.none.setCell (a:=⟨q1,0,none⟩) _ (.inl (.inl rfl))).setCell (a:=⟨q1,1,none⟩) _ (.inl (.inl rfl))).setCell (a:=⟨q2,0,none⟩) _ (.inl (.inr rfl))⟩
 cases o with
 |none=> rw[show jn none (some a)=some a from rfl];have d:=c.o.blk H1.o (fun h=>h);have u:=c.o.blk H2.o (fun h=>h);dsimp only[Y4,Ur,Option.getD,Option.isSome]at*;have f1:=d.frozen;have f2:=u.frozen;obtain⟨a0,a1⟩:=Q4 d;have b0:=Jf u;obtain⟨k0,k1⟩:=Q4 J.o;unfold ptr at*;clear d u;go_enter func210,ntmps210;go_wp2_with fail;rw[←hk];go_wp2;refine bodyPost_end (by simp[*,results,Tryz.results210,go_sem]) rfl ⟨rfl,?_⟩;exact E.o _ _ a c.o rfl
 |some s=>
  have HL:=O (fun w=>Qag s a w);rw[Qtw];have b0:=Jf (c.o.blk H2.o (fun h=>h));obtain⟨W1,hW1⟩:=Zx (W.alloc (.cells (Y4 a) 201));rw[←hW1]at J c;have ab:=O hW1;have B0:=O (c.o.blk H0.o (fun h=>h));have d:=O (c.o.blk H1.o (fun h=>h));have u:=O (c.o.blk H2.o (fun h=>h));have BT:=O (HT.o.aB c.o (fun h=>h));dsimp only[Y4,Ur,Option.getD,Option.isSome]at*;obtain⟨pT,nT,U⟩:=BT.o;have I:=O U;unfold ptr Dd Vv at*;clear U;go_enter func210,ntmps210;go_wp2_with fail;rw[←hk,←hW1];have E0:=fun x=>Jf (Qk (S:=Qb) B0.o (fun h=>h) x);have E1:=fun x=>Q4 (Qk (S:=Qb) d.o (fun h=>h) x);have E2:=fun x=>Q4 (Qk (S:=Qb) J.o (fun h=>h) x);have E3:=fun x=>X9 (Qk (S:=Qb) I.o (fun h=>h) x);clear hk hW1;refine Qu [] [0,1,2,3,4,5] [6] [7] (Qz (Qb) (W1)) Zq (by kernel_rfl) (fun _ _ _ _ _ h=>h) (Qd (Zj (Zg _ _))) ?_;simp only[pick,Zf,Ze,Zd];refine Qg ?_;iterate 6 (refine Ql (fun K hK=>?_);go_simp;refine hK _ ?_;clear hK K)
  refine Qg ?_;intro _ aa;obtain⟨xo,V⟩:=aa;subst V;simp only[Jd];have c3:=O (Qv Qb W1 xo);generalize Qz Qb W1 xo=w3 at c3⊢;clear E0 E1 E2 E3 b0;go_wp2_with fail;with_reducible refine Zz (HL.o _) ?_
  intro w4 d4;have R:=O (c3.o.aA d4);clear d4;go_wp2;refine⟨Qd R.o,?_⟩;have z:=O (R.o.blk d.o (fun h=>h));have B:=O (R.o.blk u.o (fun h=>h));have K4:=O (R.o.blk J.o (fun h=>h));have f1:=z.o.frozen;have f2:=B.o.frozen;have f3:=K4.o.frozen;obtain⟨a0,a1⟩:=Q4 z.o;have b0:=Jf B.o;obtain⟨k0,k1⟩:=Q4 K4.o;have F2:=O (fun w' hw=>E.o ((w4.setCell ⟨k,0,none⟩ (.int .u64 ((Xn s a).1:Int))).setCell ⟨k,1,none⟩ (.int .i64 (Xn s a).2)) w' (Xn s a) (((c.o.aA R.o).setCell (a:=⟨k,0,none⟩) _ (.inr HK.o)).setCell (a:=⟨k,1,none⟩) _ (.inr HK.o)) hw);clear B0 d u BT I c3;go_wp2;refine bodyPost_end (by simp[*,results,Tryz.results210,go_sem]) rfl ⟨rfl,?_⟩;exact F2.o _ rfl
theorem Qqo{n:Nat}{x:Nd}{c:Bool}{l r:Tr}(o:Option (Nat×Int))(h:n<x.n):(Tr.aD x c l r).upto n o=l.upto n o:=by rw[Tr.upto,if_pos h]
theorem Qms{n:Nat}{x:Nd}{c:Bool}{l r:Tr}(o:Option (Nat×Int))(h:¬n<x.n):(Tr.aD x c l r).upto n o=r.upto n (jn (jn o l.sum) (some (x.v,x.i))):=by rw[Tr.upto,if_neg h]
theorem Qh.same{w w'}{S:Fp}{b:Nat}{cs:Array Value}{t:TypeId}(hc:Qc S w w')(h:Qh w' b cs t)(i:Nat)(v:Value)(B:cs[i]? =some v):Qc S w (w'.setCell ⟨b,i,none⟩ v)∧Qh (w'.setCell ⟨b,i,none⟩ v) b cs t:=by
 have d:cs.setIfInBounds i v=cs:=by
  apply Array.ext_getElem?;intro j;rw[Array.getElem?_setIfInBounds];split
  ·rename_i e;subst e;split;·exact B.symm
   ·rename_i E;rw[Array.getElem?_eq_none (by omega)]
  ·rfl
 have z:Qh (w'.setCell ⟨b,i,none⟩ v) b cs t:=h.set' i v d;have c:Qc (fun k=>k=b) w' (w'.setCell ⟨b,i,none⟩ v):=(Zg _ _).setCell (a:=⟨b,i,none⟩) _ (.inl rfl);refine⟨⟨c.os.trans hc.os,c.tape.trans hc.tape,c.output.trans hc.output,Zp hc.size c.size,fun k q u=>?_⟩,z⟩;by_cases e:k=b;·subst e;have h1:=hc.block k q u;rw[←h1];exact z.trans (Eq.symm h)
 ·exact(c.block k (Nat.lt_of_lt_of_le q hc.size) e).trans (hc.block k q u)
structure Qju(W:World)(q1 q2:Nat)(o:Option (Nat×Int))(wr:World):Prop where
 b1:Qh wr q1 (Y4 (o.getD (0,0))) 201
 b2:Qh wr q2 #[.bool o.isSome] 4
 c:Qc (fun k=>k=q1∨k=q2) W wr
theorem Qju.later{W wr w'}{q1 q2:Nat}{o:Option (Nat×Int)}(h:Qju W q1 q2 o wr)(hc:Qc Qb wr w'):Qju W q1 q2 o w':=⟨hc.blk h.b1 (fun h=>h),hc.blk h.b2 (fun h=>h),h.c.aA hc.none⟩
theorem Ql0{w}{F:Fp}{T:Nat}{l:List Xu}(h:Vz w F T l)(n:Nat):
  Cl 158 #[ptr T,.int .u64 n] w fun e w'=>e=.returned (.tuple #[Ur ((low (l.filter fun e=>decide (e.1≤n))).getD (0,0)),.bool (low (l.filter fun e=>decide (e.1≤n))).isSome])∧Qc Qb w w':=by
 obtain⟨t,h⟩:=h;have aj:=Qb1 n t none h.even (by rw[h.flat];exact h.ris);rw[h.flat]at aj;rw[show jn none (low (l.filter fun e=>decide (e.1≤n)))=low (l.filter fun e=>decide (e.1≤n)) by cases low (l.filter fun e=>decide (e.1≤n))<;>rfl]at aj;rw[←aj];obtain⟨R,hR⟩:=Zx (t.upto n none);rw[←hR];have HR:=O hR;obtain⟨d,B⟩:=Zx (w.heap.size);obtain⟨W,hW⟩:=Zx (((w.alloc (.cells #[.pointer (some ⟨T,0,none⟩)] 195)).alloc (.cells #[.int .u64 0,.int .i64 0] 201)).alloc (.cells #[.bool false] 4));have C0:Hi (Qc Qb w W):=O (by rw[hW];exact(((Zg _ _).alloc _).alloc _).alloc _);have B0:Hi (Qh W d #[.pointer (some ⟨T,0,none⟩)] 195):=O (by rw[hW,B];exact((Qh.new _ _ _).alloc _).alloc _);have B1:Hi (Qh W (d+1) #[.int .u64 0,.int .i64 0] 201):=O (by rw[hW,B];exact(Qh.new' _ _ (by simp)).alloc _);have B2:Hi (Qh W (d+1+1) #[.bool false] 4):=O (by rw[hW,B];exact Qh.new' _ _ (by simp));have HQ:=O B;have H:=O (h.aB C0.o (Jl.none F));have aa:=O (fun a(ha:a∈T::t.aC)=>show a<d from B▸h.bd a (h.fp a ha));unfold ptr at*;clear h aj hR;go_enter func158,ntmps158;go_wp2_with fail;rw[←B,←hW];clear B hW;have HN:=Od ⟨_,_,H.o.top⟩;unfold ptr at HN;have b0:=Jf B0.o;obtain⟨a0,a1,a2,a3⟩:=X9 H.o.top;obtain⟨pt,aq⟩:=t.ptrV_any;have a4:=O aq;rw[aq]at a2;clear aq;go_wp2_with fail;refine Zz HN ?_;rintro w1 rfl;go_wp2_with fail;clear a0 a1 a2 a3 HN b0;go_loopg [7] t.size (fun g v wr=>∃(s:Tr)(o:Option (Nat×Int)),v=s.aH∧s.size=g∧Jw W s∧(∀a∈s.aC,a∈t.aC)∧s.upto n o=R∧Qju W (d+1) (d+1+1) o wr);case atStart=>exact⟨t,none,a4.o.symm,rfl,H.o.sub.at',fun _ h=>h,HR.o.symm,B1.o,B2.o,Zg _ _⟩
 case round=>
  obtain⟨s,o,rfl,ai,V,Z,ag,ah⟩:=hrel;have HF:=O ag;have z:=O ah;cases s with
  |nil=>
   have ho:o=R:=ag;rw[ho]at z;dsimp only[Tr.aH];clear ai V Z ag ah ho HF;have E1:=fun x=>Q4 (Qk (S:=Qb) z.o.b1 (fun h=>h) x);have E2:=fun x=>Jf (Qk (S:=Qb) z.o.b2 (fun h=>h) x);go_wp2_with fail;refine Qu [] [0,1] [2,3] [] (Qz (Qb) (wr)) Zq (by kernel_rfl) (fun _ _ _ _ _ h=>h) (Qd (Zj (Zg _ _))) ?_;simp only[pick,Zf,Ze,Zd];refine Qg ?_;iterate 2 (refine Ql (fun K E=>?_);go_simp;refine E _ ?_;clear E K)
   refine Qg ?_;intro _ ab;obtain⟨xo,q⟩:=ab;subst q;simp only[Jd];have c5:=O (Qv Qb wr xo);generalize Qz Qb wr xo=w5 at c5⊢;clear E1 E2;have ae:=O (z.o.later c5.o);have f1:=ae.o.b1.frozen;have X1:=O (Qh.same c5.o ae.o.b1 0 (.int .u64 ((R.getD (0,0)).1:Int)) rfl);have X2:=O (Qh.same X1.o.1 X1.o.2 1 (.int .i64 (R.getD (0,0)).2) rfl);obtain⟨w6,ar⟩:=Zx ((w5.setCell ⟨d+1,0,none⟩ (.int .u64 ((R.getD (0,0)).1:Int))).setCell ⟨d+1,1,none⟩ (.int .i64 (R.getD (0,0)).2));rw[←ar]at X2;clear X1;obtain⟨e0,e1⟩:=Q4 ae.o.b1;go_wp2_with fail;rw[←ar];refine⟨Qd X2.o.1,?_⟩;have af:=O (z.o.later X2.o.1);have X3:=O (Qh.same X2.o.1 af.o.b2 0 (.bool R.isSome) rfl);have f2:=af.o.b2.frozen;clear f1 ar ae c5 e0 e1;have e0:=Jf af.o.b2;obtain⟨w7,au⟩:=Zx (w6.setCell ⟨d+1+1,0,none⟩ (.bool R.isSome));rw[←au]at X3;go_wp2;rw[←au];refine⟨Qd X3.o.1,?_⟩;clear e0;have am:=O (z.o.later X3.o.1);obtain⟨e0,e1⟩:=Q4 am.o.b1;have e2:=Jf am.o.b2;have ay:=O (show Qc Qb w w7 from C0.o.trans am.o.c fun k hk=>.inr (by have:=HQ.o;omega));clear z X2 X3 af f2 au;go_wp2;refine bodyPost_ret (v:=.tuple #[Ur (R.getD (0,0)),.bool R.isSome]) ?_ rfl ⟨rfl,?_⟩;·simp[*,results,Tryz.results158,go_sem,Ur]
   ·exact ay.o
  |aD u cu ul ur=>
   have HA:=O (Jw.aB ah.c _ V (fun a ha h=>by have:=aa.o a (Zr _ (Z a ha));omega));have HU:=O (show Qh W u.a (It u cu ul.aH ur.aH) 258∧u.a<d from⟨V.1,aa.o u.a (Zr _ (Z u.a (by simp[Tr.aC])))⟩);have a5:=O V.2.1;have aw:=O V.2.2;have az:=O (fun a(ha:a∈ul.aC)=>Z a (by simp[Tr.aC,ha]));have av:=O (fun a(ha:a∈ur.aC)=>Z a (by simp[Tr.aC,ha]));obtain⟨b0,b1,b2,b3,b4,b5,b6,b7⟩:=Ja HA.o.1;dsimp only[Tr.aH];have gl:ul.size<gk:=by rw[←ai];simp[Tr.size];omega
   have gr:ur.size<gk:=by rw[←ai];simp[Tr.size];omega
   obtain⟨pl,an⟩:=ul.ptrV_any;obtain⟨pr,ap⟩:=ur.ptrV_any;have al:=O an;have I:=O ap;rw[an]at b6;rw[ap]at b7;clear ai V Z ag ah an ap;by_cases hx:n<u.n
   ·have hd:decide ((n:Int)<(u.n:Int))=true:=by simp;omega
    have a6:decide (n<u.n)=true:=by simp;omega
    have HX:=O (Qqo (c:=cu) (l:=ul) (r:=ur) o hx);clear hx;go_wp2_with fail;go_roundg ul.size;case rel=>exact⟨ul,o,al.o.symm,rfl,a5.o,az.o,by rw[←HX.o];exact HF.o,z.o⟩
    case measure=>exact gl
   ·have hd:decide ((n:Int)<(u.n:Int))=false:=by simp;omega
    have a6:decide (n<u.n)=false:=by simp;omega
    have HX:=O (Qms (c:=cu) (l:=ul) (r:=ur) o hx);clear hx;cases ul with
    |nil=>
     have ao:pl=none:=by have:=al.o;simpa[Tr.aH]using this.symm
     subst ao;have ac:jn (jn o Tr.nil.sum) (some (u.v,u.i))=jn o (some (u.v,u.i)):=by rw[show Tr.nil.sum=none from rfl,Qna]
     rw[ac]at HX;have J:=O z.o;clear ac z;obtain⟨w3,ax⟩:=Zx wr;rw[←ax]at J HA b0 b1 b2 b3 b4 b5 b6 b7⊢;clear ax;obtain⟨o1,U⟩:=Zx o;rw[←U]at HX J HF;clear U;go_wp2_with fail;have A3:=O (show Qh w3 u.a (It u cu Tr.nil.aH ur.aH) 258 from J.o.c.blk HU.o.1 (fun h=>by have:=HU.o.2;omega));have T3:=O (J.o.c.blk H.o.top (fun h=>by have:=aa.o T (by simp);omega));have Q3:=O (J.o.c.blk B0.o (fun h=>by omega));have E1:=fun x=>Jf (Qk (S:=Qb) Q3.o (fun h=>h) x);have E2:=fun x=>X9 (Qk (S:=Qb) T3.o (fun h=>h) x);have E3:=fun x=>Ja (Qk (S:=Qb) A3.o (fun h=>h) x);unfold Dd Vv at E2;rw[I.o]at E3;clear b0 b1 b2 b3 b4 b5 b6 b7 HA;refine Qu [0] [1,2,3,4,5,6,7,8,9,10,11,12] [13] [14] (Qz (Qb) (w3)) Zq (by kernel_rfl) (fun _ _ _ _ _ h=>h) (Qd (Zj (Zg _ _))) ?_;simp only[pick,Zf,Ze,Zd];iterate 1 (refine Ql (fun K E=>?_);go_simp;refine E _ ?_;clear E K)
     refine Qg ?_;iterate 12 (refine Ql (fun K E=>?_);go_simp;refine E _ ?_;clear E K)
     refine Qg ?_;intro _ ab;obtain⟨xo,q⟩:=ab;subst q;simp only[Jd];have c5:=O (Qv Qb w3 xo);generalize Qz Qb w3 xo=w5 at c5⊢;clear E1 E2 E3;have HO:=O (fun w=>Su u.n u.i u.v w);unfold Yo at HO;go_wp2_with fail;refine Zz (HO.o _) ?_;intro w6 d6;have c6:=O (c5.o.aA d6);clear d6;go_wp2;refine⟨Qd c6.o,?_⟩;have S6:=O (J.o.later c6.o);have HC:=O (Ff (q1:=d+1) (q2:=d+1+1) o1 (u.v,u.i) (c6.o.blk Q3.o (fun h=>h)) S6.o.b1 S6.o.b2 ⟨_,_,c6.o.blk T3.o (fun h=>h)⟩ (by omega));unfold ptr Ur at HC;have A6:=c6.o.blk A3.o (fun h=>h);have ak:=O A6;clear A3 T3 Q3 J c5 A6;go_wp2_with fail;refine Zy HC ?_;rintro w7⟨k1,k2,k3⟩;have S7:Hi (Qju W (d+1) (d+1+1) (jn o1 (some (u.v,u.i))) w7):=O ⟨k1,k2,S6.o.c.aA k3⟩;have A7:=k3.blk ak.o (fun h=>by have:=HU.o.2;omega);rw[I.o]at A7;obtain⟨b0,b1,b2,b3,b4,b5,b6,b7⟩:=Ja A7;clear k1 k2 k3 A7;go_wp2_with fail;go_roundg ur.size;case rel=>exact⟨ur,_,I.o.symm,rfl,aw.o,av.o,by rw[←HX.o];exact HF.o,S7.o⟩
     case measure=>exact gr
    |aD y cy yl yr=>
     have ao:pl=some ⟨y.a,0,none⟩:=by have:=al.o;simpa[Tr.aH]using this.symm
     subst ao;obtain⟨d0,d1,d2,d3,d4,d5,d6,d7⟩:=Ja HA.o.2.1.1;have HC:=O (Ff (q1:=d+1) (q2:=d+1+1) o (y.sv,y.si) (z.o.c.blk B0.o (fun h=>by omega)) z.o.b1 z.o.b2 ⟨_,_,z.o.c.blk H.o.top (fun h=>by have:=aa.o T (by simp);omega)⟩ (by omega));unfold ptr Ur at HC;obtain⟨o1,U⟩:=Zx (jn o (some (y.sv,y.si)));have ac:jn (jn o (Tr.aD y cy yl yr).sum) (some (u.v,u.i))=jn o1 (some (u.v,u.i)):=by rw[U];rfl
     rw[ac]at HX;rw[←U]at HC;clear ac U;go_wp2_with fail;refine Zy HC ?_;rintro w3⟨k1,k2,k3⟩;have J:Hi (Qju W (d+1) (d+1+1) o1 w3):=O ⟨k1,k2,z.o.c.aA k3⟩;clear k1 k2 k3 d0 d1 d2 d3 d4 d5 d6 d7 z HC;have A3:=O (show Qh w3 u.a (It u cu (Tr.aD y cy yl yr).aH ur.aH) 258 from J.o.c.blk HU.o.1 (fun h=>by have:=HU.o.2;omega));have T3:=O (J.o.c.blk H.o.top (fun h=>by have:=aa.o T (by simp);omega));have Q3:=O (J.o.c.blk B0.o (fun h=>by omega));have E1:=fun x=>Jf (Qk (S:=Qb) Q3.o (fun h=>h) x);have E2:=fun x=>X9 (Qk (S:=Qb) T3.o (fun h=>h) x);have E3:=fun x=>Ja (Qk (S:=Qb) A3.o (fun h=>h) x);unfold Dd Vv at E2;rw[I.o]at E3;clear b0 b1 b2 b3 b4 b5 b6 b7 HA;go_wp2_with fail;refine Qu [0] [1,2,3,4,5,6,7,8,9,10,11,12] [13] [14] (Qz (Qb) (w3)) Zq (by kernel_rfl) (fun _ _ _ _ _ h=>h) (Qd (Zj (Zg _ _))) ?_;simp only[pick,Zf,Ze,Zd];iterate 1 (refine Ql (fun K E=>?_);go_simp;refine E _ ?_;clear E K)
     refine Qg ?_;iterate 12 (refine Ql (fun K E=>?_);go_simp;refine E _ ?_;clear E K)
     refine Qg ?_;intro _ ab;obtain⟨xo,q⟩:=ab;subst q;simp only[Jd];have c5:=O (Qv Qb w3 xo);generalize Qz Qb w3 xo=w5 at c5⊢;clear E1 E2 E3;have HO:=O (fun w=>Su u.n u.i u.v w);unfold Yo at HO;go_wp2_with fail;refine Zz (HO.o _) ?_;intro w6 d6;have c6:=O (c5.o.aA d6);clear d6;go_wp2;refine⟨Qd c6.o,?_⟩;have S6:=O (J.o.later c6.o);have HC:=O (Ff (q1:=d+1) (q2:=d+1+1) o1 (u.v,u.i) (c6.o.blk Q3.o (fun h=>h)) S6.o.b1 S6.o.b2 ⟨_,_,c6.o.blk T3.o (fun h=>h)⟩ (by omega));unfold ptr Ur at HC;have A6:=c6.o.blk A3.o (fun h=>h);have ak:=O A6;clear A3 T3 Q3 J c5 A6;go_wp2_with fail;refine Zy HC ?_;rintro w7⟨k1,k2,k3⟩;have S7:Hi (Qju W (d+1) (d+1+1) (jn o1 (some (u.v,u.i))) w7):=O ⟨k1,k2,S6.o.c.aA k3⟩;have A7:=k3.blk ak.o (fun h=>by have:=HU.o.2;omega);rw[I.o]at A7;obtain⟨b0,b1,b2,b3,b4,b5,b6,b7⟩:=Ja A7;clear k1 k2 k3 A7;go_wp2_with fail;go_roundg ur.size;case rel=>exact⟨ur,_,I.o.symm,rfl,aw.o,av.o,by rw[←HX.o];exact HF.o,S7.o⟩
     case measure=>exact gr
end
section
attribute [local go_sem] Qp
attribute [local go_sem ↓] Vw Vx
attribute [local go_sem] Ds Oy
theorem Qbh(k:Fn)(c d:Array Value)(w):(binOp .eql 225 (.func k c d) .nilFunc).run prog w=.ok (.bool false) w:=Pf w _ _ _ _ underlying225 k c d
attribute [local go_sem] Qbh
theorem R8{W}{q:Nat}(a:Nat×Int)(v:Nat)(h:Qh W q #[.int .u64 v] 29):
  Cl 160 #[Ur a,ptr q] W fun e w'=>e=.returned (.bool (decide (a.1≤v)))∧Qc Qb W w':=by
 have c:=O ((Zg Qb W).alloc (.cells (Y4 a) 201));have d:=Jf (c.o.blk h (fun h=>h));obtain⟨k0,k1⟩:=Q4 (Qh.new W (Y4 a) 201);dsimp only[Y4,Ur]at*;unfold ptr;clear h;go_enter func160,ntmps160;go_wp2;go_ret;refine⟨?_,c.o⟩;congr 2
theorem Qjm{v:Nat}{x:Nd}{c:Bool}{r:Tr}:(Tr.aD x c .nil r).within v=if x.v≤v then some (x.n,x.i,x.v)else r.within v:=rfl
theorem Qjn{v:Nat}{x y:Nd}{c cy:Bool}{yl yr r:Tr}:(Tr.aD x c (.aD y cy yl yr) r).within v=if y.sv≤v then(Tr.aD y cy yl yr).within v else if x.v≤v then some (x.n,x.i,x.v)else r.within v:=rfl
def Qrc(o:Option Xu):Value:=match o with
 |none=>Yo 0 0
 |some e=>Yo e.1 e.2.1
theorem Qlz{w}{F:Fp}{T q:Nat}{l:List Xu}(h:Vz w F T l)(v:Nat)(hq:Qh w q #[.int .u64 v] 29):
  Cl 159 #[ptr T,.func (.func 160) #[] #[ptr q]] w fun e w'=>e=.returned (.tuple #[Qrc (Xf v l),.bool (Xf v l).isSome])∧Qc Qb w w':=by
 obtain⟨t,h⟩:=h;have ao:=Sa v t h.even;rw[h.flat]at ao;obtain⟨R,hR⟩:=Zx (Xf v l);rw[←hR];have HR:Hi (t.within v=R):=O (ao.trans hR.symm);obtain⟨Z,ae⟩:=Zx (w.heap.size);obtain⟨W,hW⟩:=Zx (w.alloc (.cells #[.int .u64 0,.int .i64 0] 204));have C0:Hi (Qc Qb w W):=O (by rw[hW];exact(Zg _ _).alloc _);have B0:Hi (Qh W Z #[.int .u64 0,.int .i64 0] 204):=O (by rw[hW,ae];exact Qh.new _ _ _);have BQ:=O (C0.o.blk hq (fun h=>h));have HQ:=O ae;have H:=O (h.aB C0.o (Jl.none F));unfold ptr at*;clear h ao hR hq;go_enter func159,ntmps159;go_wp2_with fail;rw[←ae,←hW];clear ae hW;have HN:=Od ⟨_,_,H.o.top⟩;unfold ptr at HN;obtain⟨a0,a1,a2,a3⟩:=X9 H.o.top;obtain⟨pt,an⟩:=t.ptrV_any;have av:=O an;rw[an]at a2;clear an;refine Zz HN ?_;rintro w1 rfl;go_wp2_with fail;clear a0 a1 a2 a3 HN;go_loopg [6] t.size (fun g vv wr=>∃s:Tr,vv=s.aH∧s.size=g∧Jw W s∧s.within v=R∧Qc Qb W wr);case atStart=>exact⟨t,av.o.symm,rfl,H.o.sub.at',HR.o,Zg _ _⟩
 case round=>
  obtain⟨s,rfl,ah,af,ag,J⟩:=hrel;have HF:=O ag;have CR:=O J;cases s with
  |nil=>
   have ho:R=none:=ag.symm;subst ho;have BR:=CR.o.blk B0.o (fun h=>h);obtain⟨e0,e1⟩:=Q4 BR;have f1:=BR.frozen;have aa:=O (show Qc Qb w ((wr.setCell ⟨Z,0,none⟩ (.int .u64 0)).setCell ⟨Z,1,none⟩ (.int .i64 0))from((C0.o.aA CR.o).setCell (a:=⟨Z,0,none⟩) _ (.inr (by have:=HQ.o;simp;omega))).setCell (a:=⟨Z,1,none⟩) _ (.inr (by have:=HQ.o;simp;omega)));dsimp only[Tr.aH];clear ah af ag J BR;go_wp2;refine bodyPost_ret (v:=.tuple #[.agg #[.int .u64 0,.int .i64 0],.bool false]) ?_ rfl ⟨rfl,?_⟩;·simp[*,results,Tryz.results159,go_sem]
   ·exact aa.o
  |aD u cu ul ur=>
   have HA:=O (Jw.aB J _ af (fun a ha h=>h));have ai:=O af;have T3:=O (J.blk H.o.top (fun h=>h));have Q3:=O (J.blk BQ.o (fun h=>h));obtain⟨b0,b1,b2,b3,b4,b5,I,b7⟩:=Ja HA.o.1;dsimp only[Tr.aH];have gl:ul.size<gk:=by rw[←ah];simp[Tr.size];omega
   have gr:ur.size<gk:=by rw[←ah];simp[Tr.size];omega
   obtain⟨pr,am⟩:=ur.ptrV_any;have E:=O am;rw[am]at b7;clear ah af ag J am;cases ul with
   |nil=>
    have U:Tr.nil.aH=.pointer none:=rfl;rw[U]at I;clear U;have HX:=O (Qjm (v:=v) (x:=u) (c:=cu) (r:=ur));obtain⟨w3,au⟩:=Zx wr;rw[←au]at CR HA T3 Q3 b0 b1 b2 b3 b4 b5 I b7⊢;clear au;go_wp2_with fail;have E2:=fun x=>X9 (Qk (S:=Qb) T3.o (fun h=>h) x);have E3:=fun x=>Ja (Qk (S:=Qb) HA.o.1 (fun h=>h) x);unfold Dd Vv at E2;rw[E.o]at E3;clear b0 b1 b2 b3 b4 b5 I b7;refine Qu [0] [1,2,3,4,5,6,7,8,9,10,11,12] [13,14,15] [] (Qz (Qb) (w3)) Zq (by kernel_rfl) (fun _ _ _ _ _ h=>h) (Qd (Zj (Zg _ _))) ?_;simp only[pick,Zf,Ze,Zd];iterate 1 (refine Ql (fun K hK=>?_);go_simp;refine hK _ ?_;clear hK K)
    refine Qg ?_;iterate 12 (refine Ql (fun K hK=>?_);go_simp;refine hK _ ?_;clear hK K)
    refine Qg ?_;intro _ ap;obtain⟨xo,ab⟩:=ap;subst ab;simp only[Jd];have c5:=O (Qv Qb w3 xo);generalize Qz Qb w3 xo=w5 at c5⊢;clear E2 E3;have HO:=O (fun w=>Su u.n u.i u.v w);unfold Yo at HO;go_wp2_with fail;refine Zz (HO.o _) ?_;intro w6 d6;have c6:=O (c5.o.aA d6);clear d6;go_wp2;refine⟨Qd c6.o,?_⟩;have d:=O (R8 (u.v,u.i) v (c6.o.blk Q3.o (fun h=>h)));unfold ptr Ur at d;by_cases V:u.v≤v
    ·rw[decide_eq_true V]at d;have al:R=some (u.n,u.i,u.v):=by have:=HF.o;rw[HX.o,if_pos V]at this;exact this.symm
     subst al;clear V;go_wp2_with fail;refine Zy d ?_;intro w7 z;have k:=O (c6.o.aA z);clear z;go_wp2;refine⟨Qd k.o,?_⟩;go_wp2;refine⟨Qd k.o,?_⟩;have B:=k.o.blk HA.o.1 (fun h=>h);have C7:=O (CR.o.aA k.o);have B7:=C7.o.blk B0.o (fun h=>h);obtain⟨b0,b1,b2,b3,b4,b5,I,b7⟩:=Ja B;obtain⟨e0,e1⟩:=Q4 B7;have f1:=B7.frozen;have aa:=O (show Qc Qb w ((w7.setCell ⟨Z,0,none⟩ (.int .u64 u.n)).setCell ⟨Z,1,none⟩ (.int .i64 u.i))from((C0.o.aA C7.o).setCell (a:=⟨Z,0,none⟩) _ (.inr (by have:=HQ.o;simp;omega))).setCell (a:=⟨Z,1,none⟩) _ (.inr (by have:=HQ.o;simp;omega)));clear B B7;go_wp2;refine bodyPost_ret (v:=.tuple #[.agg #[.int .u64 u.n,.int .i64 u.i],.bool true]) ?_ rfl ⟨rfl,?_⟩;·simp[*,results,Tryz.results159,go_sem]
     ·exact aa.o
    ·rw[decide_eq_false V]at d;have aj:Hi (ur.within v=R):=O (by have:=HF.o;rw[HX.o,if_neg V]at this;exact this);clear V;go_wp2_with fail;refine Zy d ?_;intro w7 z;have k:=O (c6.o.aA z);clear z;go_wp2;refine⟨Qd k.o,?_⟩;go_wp2;refine⟨Qd k.o,?_⟩;have B:=k.o.blk HA.o.1 (fun h=>h);rw[E.o]at B;obtain⟨b0,b1,b2,b3,b4,b5,I,b7⟩:=Ja B;have C7:=O (CR.o.aA k.o);clear B;go_wp2_with fail;go_roundg ur.size;case rel=>exact⟨ur,E.o.symm,rfl,ai.o.2.2,aj.o,C7.o⟩
     case measure=>exact gr
   |aD y cy yl yr=>
    have U:(Tr.aD y cy yl yr).aH=.pointer (some ⟨y.a,0,none⟩):=rfl;have ar:=O U;rw[U]at I;clear U;have ak:=O (Qjn (v:=v) (x:=u) (y:=y) (c:=cu) (cy:=cy) (yl:=yl) (yr:=yr) (r:=ur));obtain⟨d0,d1,d2,d3,d4,d5,d6,z⟩:=Ja HA.o.2.1.1;have HW:=O (R8 (y.sv,y.si) v Q3.o);unfold ptr Ur at HW;by_cases hy:y.sv≤v
    ·rw[decide_eq_true hy]at HW;have HY:=O hy;clear hy;go_wp2_with fail;refine Zy HW ?_;intro w3 c3;have A3:=c3.blk HA.o.1 (fun h=>h);rw[ar.o]at A3;clear b0 b1 b2 b3 b4 b5 I b7 d0 d1 d2 d3 d4 d5 d6 z;obtain⟨b0,b1,b2,b3,b4,b5,I,b7⟩:=Ja A3;have C3:=O (CR.o.aA c3);clear c3 A3;go_wp2_with fail;go_roundg (Tr.aD y cy yl yr).size;case rel=>exact⟨_,ar.o.symm,rfl,ai.o.2.1,by have:=HF.o;rw[ak.o,if_pos HY.o]at this;exact this,C3.o⟩
     case measure=>exact gl
    ·rw[decide_eq_false hy]at HW;have HX:Hi ((Tr.aD u cu (.aD y cy yl yr) ur).within v=if u.v≤v then some (u.n,u.i,u.v)else ur.within v):=O (by rw[ak.o,if_neg hy]);clear hy;go_wp2_with fail;refine Zy HW ?_;intro w3 c3;have ac:=O (Jw.aB c3 _ HA.o (fun a ha h=>h));have ax:=O (c3.blk T3.o (fun h=>h));have aw:=O (c3.blk Q3.o (fun h=>h));have aq:=O (CR.o.aA c3);clear b0 b1 b2 b3 b4 b5 I b7 d0 d1 d2 d3 d4 d5 d6 z HA T3 Q3 CR c3 ak;obtain⟨b0,b1,b2,b3,b4,b5,I,b7⟩:=Ja ac.o.1;go_wp2_with fail;have E2:=fun x=>X9 (Qk (S:=Qb) ax.o (fun h=>h) x);have E3:=fun x=>Ja (Qk (S:=Qb) ac.o.1 (fun h=>h) x);unfold Dd Vv at E2;rw[E.o]at E3;clear b0 b1 b2 b3 b4 b5 I b7;refine Qu [0] [1,2,3,4,5,6,7,8,9,10,11,12] [13,14,15] [] (Qz (Qb) (w3)) Zq (by kernel_rfl) (fun _ _ _ _ _ h=>h) (Qd (Zj (Zg _ _))) ?_;simp only[pick,Zf,Ze,Zd];iterate 1 (refine Ql (fun K hK=>?_);go_simp;refine hK _ ?_;clear hK K)
     refine Qg ?_;iterate 12 (refine Ql (fun K hK=>?_);go_simp;refine hK _ ?_;clear hK K)
     refine Qg ?_;intro _ ap;obtain⟨xo,ab⟩:=ap;subst ab;simp only[Jd];have c5:=O (Qv Qb w3 xo);generalize Qz Qb w3 xo=w5 at c5⊢;clear E2 E3;have HO:=O (fun w=>Su u.n u.i u.v w);unfold Yo at HO;go_wp2_with fail;refine Zz (HO.o _) ?_;intro w6 d6;have c6:=O (c5.o.aA d6);clear d6;go_wp2;refine⟨Qd c6.o,?_⟩;have d:=O (R8 (u.v,u.i) v (c6.o.blk aw.o (fun h=>h)));unfold ptr Ur at d;by_cases V:u.v≤v
     ·rw[decide_eq_true V]at d;have al:R=some (u.n,u.i,u.v):=by have:=HF.o;rw[HX.o,if_pos V]at this;exact this.symm
      subst al;clear V;go_wp2_with fail;refine Zy d ?_;intro w7 z;have k:=O (c6.o.aA z);clear z;go_wp2;refine⟨Qd k.o,?_⟩;go_wp2;refine⟨Qd k.o,?_⟩;have B:=k.o.blk ac.o.1 (fun h=>h);have C7:=O (aq.o.aA k.o);have B7:=C7.o.blk B0.o (fun h=>h);obtain⟨b0,b1,b2,b3,b4,b5,I,b7⟩:=Ja B;obtain⟨e0,e1⟩:=Q4 B7;have f1:=B7.frozen;have aa:=O (show Qc Qb w ((w7.setCell ⟨Z,0,none⟩ (.int .u64 u.n)).setCell ⟨Z,1,none⟩ (.int .i64 u.i))from((C0.o.aA C7.o).setCell (a:=⟨Z,0,none⟩) _ (.inr (by have:=HQ.o;simp;omega))).setCell (a:=⟨Z,1,none⟩) _ (.inr (by have:=HQ.o;simp;omega)));clear B B7;go_wp2;refine bodyPost_ret (v:=.tuple #[.agg #[.int .u64 u.n,.int .i64 u.i],.bool true]) ?_ rfl ⟨rfl,?_⟩;·simp[*,results,Tryz.results159,go_sem]
      ·exact aa.o
     ·rw[decide_eq_false V]at d;have aj:Hi (ur.within v=R):=O (by have:=HF.o;rw[HX.o,if_neg V]at this;exact this);clear V;go_wp2_with fail;refine Zy d ?_;intro w7 z;have k:=O (c6.o.aA z);clear z;go_wp2;refine⟨Qd k.o,?_⟩;go_wp2;refine⟨Qd k.o,?_⟩;have B:=k.o.blk ac.o.1 (fun h=>h);rw[E.o]at B;obtain⟨b0,b1,b2,b3,b4,b5,I,b7⟩:=Ja B;have C7:=O (aq.o.aA k.o);clear B;go_wp2_with fail;go_roundg ur.size;case rel=>exact⟨ur,E.o.symm,rfl,ai.o.2.2,aj.o,C7.o⟩
      case measure=>exact gr
end
section
attribute [local go_sem] Qp
def Tr.like:Tr→Tr→Prop
 | .nil,.nil=>True
 | .aD x c l r,.aD y d l' r'=>(y.n=x.n∧y.i=x.i∧y.v=x.v∧y.sv=x.sv∧y.si=x.si∧d=c)∧l.like l'∧r.like r'
 |_,_=>False
theorem Ck:∀{t k:Tr},t.like k→k.flat=t.flat
 | .nil,.nil,_=>rfl
 | .aD x c l r,.aD y d l' r',⟨⟨h1,h2,h3,_⟩,hl,hr⟩=>by rw[Jb,Jb,Ck hl,Ck hr,h1,h2,h3]
theorem Qah{t c:Tr}(h:t.like c):c.red=t.red:=by cases t<;>cases c<;>first|rfl|exact h.elim|exact h.1.2.2.2.2.2
theorem I9:∀{t k:Tr},t.like k→k.bh=t.bh
 | .nil,.nil,_=>rfl
 | .aD x c l r,.aD y d l' r',⟨⟨_,_,_,_,_,h6⟩,hl,hr⟩=>by simp only[Tr.bh,I9 hl,h6]
theorem Qe8:∀{t k:Tr},t.like k→t.ok→k.ok
 | .nil,.nil,_,_=>trivial
 | .aD x c l r,.aD y d l' r',⟨⟨_,_,_,_,_,h6⟩,hl,hr⟩,⟨o1,o2,o3,o4⟩=>⟨Qe8 hl o1,Qe8 hr o2,by rw[Qah hr];exact o3,fun q=>by rw[Qah hl];exact o4 (h6▸q)⟩
theorem Qhq:∀{t k:Tr},t.like k→k.sum=t.sum
 | .nil,.nil,_=>rfl
 | .aD x c l r,.aD y d l' r',⟨⟨_,_,_,h4,h5,_⟩,hl,hr⟩=>by simp only[Tr.sum,h4,h5]
theorem Cj:∀{t k:Tr},t.like k→t.even→k.even
 | .nil,.nil,_,_=>trivial
 | .aD x c l r,.aD y d l' r',⟨⟨h1,h2,h3,h4,h5,h6⟩,hl,hr⟩,⟨o1,o2,o3,o4⟩=>by
  refine⟨Cj hl o1,Cj hr o2,by rw[I9 hl,I9 hr];exact o3,?_⟩;have e:some (Pr y l' r')=some (Pr x l r):=by rw[Qmo,Qmo,Qhq hl,Qhq hr,h2,h3]
  rw[h4,h5,o4];exact(Zs e).symm
theorem Qo3{t c:Tr}(h:t.like c){m:Nat}(hf:Yp t m):Yp c m:=⟨Qe8 h hf.1,Cj h hf.2.1,by rw[I9 h];exact hf.2.2⟩
theorem Qfe{w}{x:Nd}{c:Bool}{l r:Tr}(hA:Jw w (.aD x c l r))
  (il:∀w,Jw w l→Cl 208 #[l.aH] w fun e w'=>∃q,e=.returned q.aH∧l.like q∧Jw w' q∧q.aC.Nodup∧(∀a∈q.aC,w.heap.size≤a∧a<w'.heap.size)∧Qc Qb w w')
  (ir:∀w,Jw w r→Cl 208 #[r.aH] w fun e w'=>∃q,e=.returned q.aH∧r.like q∧Jw w' q∧q.aC.Nodup∧(∀a∈q.aC,w.heap.size≤a∧a<w'.heap.size)∧Qc Qb w w'):
  Cl 208 #[ptr x.a] w fun e w'=>∃q,e=.returned q.aH∧(Tr.aD x c l r).like q∧Jw w' q∧q.aC.Nodup∧(∀a∈q.aC,w.heap.size≤a∧a<w'.heap.size)∧Qc Qb w w':=by
 obtain⟨k,hk⟩:=Zx (w.heap.size);obtain⟨W,hW⟩:=Zx (w.alloc (.cells (It x c l.aH r.aH) 258));have C0:Hi (Qc Qb w W):=O (by rw[hW];exact(Zg _ _).alloc _);have B0:Hi (Qh W k (It x c l.aH r.aH) 258):=O (by rw[hW,hk];exact Qh.new _ _ _);have HA:=O hA;have HK:=O hk;have IL:=O il;have IR:=O ir;obtain⟨pl,V⟩:=l.ptrV_any;obtain⟨pr,Z⟩:=r.ptrV_any;obtain⟨a0,a1,a2,a3,a4,a5,a6,a7⟩:=Ja hA.1;have af:=O V;have ag:=O Z;dsimp only[It]at*;rw[V]at a6 hW B0 IL;rw[Z]at a7 hW B0 IR;unfold ptr at*;clear hA il ir V Z;go_enter func208,ntmps208;go_wp2_with fail;rw[←hk,←hW];clear hk hW a0 a1 a2 a3 a4 a5 a6 a7;have AW:=O (Jw.aB C0.o _ HA.o (fun a _ h=>h));have E1:=fun x=>Ja (Qk (S:=Qb) AW.o.1 (fun h=>h) x);rw[af.o,ag.o]at E1;go_wp2_with fail;refine Qu [] [0,1,2,3,5,6,7,8] [4,9] [10,11,12,13] (Qz (Qb) (W)) Zq (by kernel_rfl) (fun _ _ _ _ _ h=>h) (Qd (Zj (Zg _ _))) ?_;simp only[pick,Zf,Ze,Zd];refine Qg ?_;iterate 8 (refine Ql (fun K hK=>?_);go_simp;refine hK _ ?_;clear hK K)
 refine Qg ?_;intro _ ah;obtain⟨xo,ac⟩:=ah;subst ac;simp only[Jd];have c1:=O (Qv Qb W xo);generalize Qz Qb W xo=w1 at c1⊢;clear E1;go_wp2_with fail;refine(IL.o w1 (Jw.aB c1.o _ AW.o.2.1 (fun a _ h=>h))).mono ?_;rintro e w2⟨tl,rfl,u,I,R,B,d2⟩;have c2:=O (c1.o.aA d2);have HL:=O (Zt u (Zt I (Zt R (Zt B c1.o.size))));clear u I R B d2;go_wp2;refine⟨Qd c2.o,?_⟩;go_wp2_with fail;refine(IR.o w2 (Jw.aB c2.o _ AW.o.2.2 (fun a _ h=>h))).mono ?_;rintro e w3⟨tr,rfl,z,J,U,E,d3⟩;have c3:=O (c2.o.aA d3);have HR:=O (Zt z (Zt J (Zt U E)));have D3:=O d3;clear z J U E d3;go_wp2;refine⟨Qd c3.o,?_⟩;have B3:=O (c3.o.blk B0.o (fun h=>h));have f3:=B3.o.frozen;obtain⟨ql,aa⟩:=tl.ptrV_any;obtain⟨qr,ab⟩:=tr.ptrV_any;have ae:Hi (∀w',w'=(w3.setCell ⟨k,6,none⟩ (.pointer ql)).setCell ⟨k,7,none⟩ (.pointer qr)→∃q:Tr,.returned (.pointer (some ⟨k,0,none⟩))=Ending.returned q.aH∧(Tr.aD x c l r).like q∧Jw w' q∧q.aC.Nodup∧(∀a∈q.aC,w.heap.size≤a∧a<w'.heap.size)∧Qc Qb w w'):=O (by
  rintro w' rfl;obtain⟨u,I,R,B,s1⟩:=HL.o;obtain⟨z,J,U,E⟩:=HR.o;have aj:=HK.o;have s0:=C0.o.size;have s2:=c2.o.size;have s3:=D3.o.size;have ai:=B0.o.lt;have hc:Qc (fun j=>j=k) w3 ((w3.setCell ⟨k,6,none⟩ (.pointer ql)).setCell ⟨k,7,none⟩ (.pointer qr)):=((Zg (fun j=>j=k) w3).setCell (a:=⟨k,6,none⟩) _ (.inl rfl)).setCell (a:=⟨k,7,none⟩) _ (.inl rfl);have n1:∀a∈tl.aC,¬a=k:=fun a ha=>by have:=B a ha;omega
  have n2:∀a∈tr.aC,¬a=k:=fun a ha=>by have:=E a ha;omega
  refine⟨.aD {x with a:=k} c tl tr,rfl,⟨⟨rfl,rfl,rfl,rfl,rfl,rfl⟩,u,z⟩,⟨?_,Jw.aB hc _ (Jw.aB D3.o _ I (fun a _ h=>h)) n1,Jw.aB hc _ J n2⟩,?_,?_,?_⟩;·have:=(B3.o.set' 6 (.pointer ql) rfl).set' 7 (.pointer qr) rfl;rw[aa,ab];exact this
  ·simp only[Tr.aC,List.nodup_append,List.nodup_cons,Zu];refine⟨R,⟨fun h=>n2 _ h rfl,U⟩,fun a ha d hd e=>?_⟩;subst e;rcases hd with rfl|hd;·exact n1 _ ha rfl
   ·have q1:=B _ ha;have q2:=E _ hd;omega
  ·intro a ha;have:=hc.size;simp only[Tr.aC,Zl,Zu]at ha;rcases ha with ha|rfl|ha;·have:=B _ ha;omega
   ·omega
   ·have:=E _ ha;omega
  ·exact((C0.o.aA c3.o).setCell (a:=⟨k,6,none⟩) _ (.inr (by show w.heap.size≤k;omega))).setCell (a:=⟨k,7,none⟩) _ (.inr (by show w.heap.size≤k;omega)))
 rw[aa,ab];obtain⟨a0,a1,a2,a3,a4,a5,a6,a7⟩:=Ja B3.o;clear aa ab c1 c2 HL HR D3;go_wp2;go_ret;exact ae.o _ rfl
theorem Rj:∀(t:Tr)(w),Jw w t→Cl 208 #[t.aH] w fun e w'=>∃d,e=.returned d.aH∧t.like d∧Jw w' d∧d.aC.Nodup∧(∀a∈d.aC,w.heap.size≤a∧a<w'.heap.size)∧Qc Qb w w'
 | .nil,w,_=>by
  have h:Cl 208 #[.pointer none] w fun e w'=>e=.returned (.pointer none)∧w=w':=by go_enter func208,ntmps208;go_wp2;go_ret;exact⟨rfl,rfl⟩
  refine Zz h ?_;rintro w' rfl;exact⟨.nil,rfl,trivial,trivial,List.nodup_nil,nofun,Zg _ _⟩
 | .aD x c l r,w,h=>Qfe h (fun w hl=>Rj l w hl) (fun w hr=>Rj r w hr)
theorem Qlx{w}{F:Fp}{T:Nat}{l:List Xu}(h:Vz w F T l):
  Cl 154 #[ptr T] w fun e w'=>∃b,e=.returned (ptr b)∧Vz w' (Qn Qb w w') b l∧Qc Qb w w':=by
 obtain⟨t,h⟩:=h;obtain⟨k,R⟩:=Zx (w.heap.size);obtain⟨pt,u⟩:=t.ptrV_any;obtain⟨W,hW⟩:=Zx (w.alloc (.cells #[Dd,Vv,.pointer pt,.int .i64 l.length] 254));have J:Hi (Qc Qb w W):=O (by rw[hW];exact(Zg _ _).alloc _);have I:Hi (Qh W k #[Dd,Vv,.pointer pt,.int .i64 l.length] 254):=O (by rw[hW,R];exact Qh.new _ _ _);have H:=O h;have HK:=O R;have HC:=O (Rj t W (Jw.aB J.o _ h.sub.at' (fun a _ h=>h)));rw[u]at HC;have K:=h.top;rw[u]at K;have HT:=O (J.o.blk K (fun h=>h));obtain⟨a0,a1,a2,a3⟩:=X9 K;unfold ptr Dd Vv at*;obtain⟨e0,e1,e2,e3⟩:=X9 (show Qh (w.alloc (.cells #[.func (.func 177) #[] #[],.func (.func 178) #[] #[],.pointer pt,.int .i64 l.length] 254)) T _ _ from hW▸HT.o);clear h u K;go_enter func154,ntmps154;go_wp2_with fail;rw[←R,←hW];clear R hW a0 a1 a2 a3;go_wp2_with fail;refine Zo HC ?_;rintro e w2⟨U,rfl,c,B,E,d,z⟩;obtain⟨q,hq⟩:=U.ptrV_any;have V:Hi (∀w',w'=w2.setCell ⟨k,2,none⟩ (.pointer q)→Vz w' (Qn Qb w w') k l∧Qc Qb w w'):=O (by
  rintro w' rfl;have hc:Qc (fun j=>j=k) w2 (w2.setCell ⟨k,2,none⟩ (.pointer q)):=(Zg (fun j=>j=k) w2).setCell (a:=⟨k,2,none⟩) _ (.inl rfl);have ab:=HK.o;have aa:=I.o.lt;have s2:=z.size;have s0:=J.o.size;have Z:Qc Qb w (w2.setCell ⟨k,2,none⟩ (.pointer q)):=(J.o.aA z).setCell (a:=⟨k,2,none⟩) _ (.inr (by show w.heap.size≤k;omega));have hB:=(z.blk I.o (fun h=>h)).set' 2 (.pointer q) (cs':=#[Dd,Vv,U.aH,.int .i64 l.length]) (by rw[hq];rfl);have n1:∀a∈U.aC,¬a=k:=fun a ha=>by have:=d a ha;omega
  obtain⟨m,hm⟩:=H.o.fine;refine⟨⟨U,hB,⟨⟨_,_,hB⟩,List.nodup_cons.2 ⟨fun h=>n1 _ h rfl,E⟩,Jw.aB hc _ B n1⟩,⟨m,Qo3 c hm⟩,(Qah c).trans H.o.blk,(Ck c).trans H.o.flat,H.o.ris,?_,fun j hj=>hj.elim (fun h=>h.elim) (fun h=>h.2)⟩,Z⟩;intro a ha;have sz:=hc.size;rcases Zu.1 ha with rfl|ha;·exact .inr ⟨by omega,by omega⟩
  ·have:=d a ha;exact .inr ⟨by omega,by omega⟩)
 have f2:∀j,w2.frozen? ⟨k,j,none⟩=false:=(z.blk I.o (fun h=>h)).frozen;obtain⟨d0,d1,d2,d3⟩:=X9 (z.blk I.o (fun h=>h));rw[hq];clear hq B E d c z e0 e1 e2 e3;go_wp2;go_ret;exact⟨_,rfl,V.o _ rfl⟩
end
abbrev Ya:=World→Fp→Prop
structure Uy(P:Ya):Prop where
 bd:∀{w F},P w F→Bd F w
 aB:∀{w w' F S},P w F→Qc S w w'→Jl F S→P w' F
 more:∀{w F F'},P w F→(∀k,F k→F' k)→Bd F' w→P w F'
def sep(P Q:Ya):Ya:=fun w F=>Bd F w∧∃G H,P w G∧Q w H∧Jl G H∧(∀k,G k→F k)∧∀k,H k→F k
def Oh:List Ya→Ya
 |[]=>fun w F=>Bd F w
 |P::L=>sep P (Oh L)
def Tv(b:Nat)(cs:Array Value)(t:TypeId):Ya:=fun w F=>Qh w b cs t∧F b∧Bd F w
def Qo8(m:Nat)(L:List (Int×Value)):Ya:=fun w F=>Xq w m L∧F m∧Bd F w
def Qvn(p:Prop):Ya:=fun w F=>p∧Bd F w
theorem Ks(b:Nat)(cs:Array Value)(t:TypeId):Uy (Tv b cs t) where
 bd:=fun h=>h.2.2
 aB:=fun h hc d=>⟨hc.blk h.1 (d b h.2.1),h.2.1,h.2.2.later hc⟩
 more:=fun h hs c=>⟨h.1,hs b h.2.1,c⟩
theorem Qhd(m:Nat)(L:List (Int×Value)):Uy (Qo8 m L) where
 bd:=fun h=>h.2.2
 aB:=fun h hc d=>⟨h.1.aB hc (d m h.2.1),h.2.1,h.2.2.later hc⟩
 more:=fun h hs c=>⟨h.1,hs m h.2.1,c⟩
theorem Qop(p:Prop):Uy (Qvn p) where
 bd:=fun h=>h.2
 aB:=fun h hc _=>⟨h.1,h.2.later hc⟩
 more:=fun h _ c=>⟨h.1,c⟩
theorem Qrl{P Q:Ya}(J:Uy P)(K:Uy Q):Uy (sep P Q) where
 bd:=fun h=>h.1
 aB:=fun⟨E,G,H,h1,q,u,c,d⟩hc I=>⟨E.later hc,G,H,J.aB h1 hc (I.subL c),K.aB q hc (I.subL d),u,c,d⟩
 more:=fun⟨E,G,H,h1,q,u,c,d⟩hs z=>⟨z,G,H,h1,q,u,fun k B=>hs k (c k B),fun k B=>hs k (d k B)⟩
theorem Qrk:Uy (Oh []) where
 bd:=fun h=>h
 aB:=fun h hc _=>Bd.later h hc
 more:=fun _ _ c=>c
theorem Je:∀{L:List Ya},(∀P∈L,Uy P)→Uy (Oh L)
 |[],_=>Qrk
 |P::L,h=>Qrl (h P (by simp)) (Je fun Q c=>h Q (by simp[c]))
theorem Qtk{X:Type}{P:X→Ya}(h:∀x,Uy (P x)):Uy (fun w F=>∃x,P x w F) where
 bd:=fun⟨x,c⟩=>(h x).bd c
 aB:=fun⟨x,c⟩hc k=>⟨x,(h x).aB c hc k⟩
 more:=fun⟨x,c⟩hs d=>⟨x,(h x).more c hs d⟩
theorem Hf.good{X:Type}{Is:World→Fp→Nat→X→Prop}(c:Hf Is)(b:Nat)(x:X):Uy (fun w F=>Is w F b x) where
 bd:=fun h=>c.bd h
 aB:=fun h hc k=>c.aB h hc k
 more:=fun h hs d=>c.more h hs d
section
variable{w w' w1 w2:World}{F:Fp}
def Qga(P:Ya)(W:Ya→Ya)(w:World)(F:Fp):Prop:=
 ∃G:Fp,P w G∧(∀k,G k→F k)∧Bd F w∧∀w' Q,Qc G w w'→Q w' (Qn G w w')→W Q w' (Qn F w w')
theorem Qsn{P Q:Ya}(I:Uy Q)(h:sep P Q w F):Qga P (fun q=>sep q Q) w F:=by obtain⟨c,G,H,h1,E,u,z,B⟩:=h;refine⟨G,h1,z,c,fun w' q hc J=>⟨c.ext hc,Qn G w w',H,J,I.aB E hc u.symm,Jl.extL u (c.sub B),fun k d=>Qn.mono z k d,fun k d=>.inl (B k d)⟩⟩
theorem Qp7{P Q R:Ya}{W:Ya→Ya}(I:Uy P)(h:sep P Q w F)(J:∀{H:Fp},Q w H→Qga R W w H):Qga R (fun d=>sep P (W d)) w F:=by obtain⟨q,G,H,h1,E,u,z,B⟩:=h;obtain⟨K,k1,k2,Z,V⟩:=J E;refine⟨K,k1,fun k c=>B k (k2 k c),q,fun w' d hc U=>⟨q.ext hc,G,Qn H w w',I.aB h1 hc (u.subR k2),V w' d hc U,Jl.extR u (q.sub z),fun k c=>.inl (z k c),fun k c=>Qn.mono B k c⟩⟩
theorem Xv:∀(i:Nat){L:List Ya}{P:Ya}{F:Fp},(∀Q∈L,Uy Q)→L[i]? =some P→Oh L w F→Qga P (fun c=>Oh (L.set i c)) w F
 |0,Q::L,P,F,hg,hi,h=>by
  obtain rfl:Q=P:=by simpa using hi
  exact Qsn (Je fun R d=>hg R (by simp[d])) h
 |i+1,Q::L,P,F,hg,hi,h=>Qp7 (W:=fun c=>Oh (L.set i c)) (hg Q (by simp)) h fun k=>Xv i (fun R d=>hg R (by simp[d])) (by simpa using hi) k
theorem Qga.get{P:Ya}{W:Ya→Ya}(h:Qga P W w F):∃G:Fp,P w G∧∀k,G k→F k:=by obtain⟨G,h1,c,_⟩:=h;exact⟨G,h1,c⟩
theorem J6{L:List Ya}{P:Ya}(c:∀Q∈L,Uy Q)(i:Nat)(hi:L[i]? =some P)(h:Oh L w F):∃G:Fp,P w G∧∀k,G k→F k:=(Xv i c hi h).get
theorem Qga.cells{b:Nat}{cs cs':Array Value}{t:TypeId}{W:Ya→Ya}(h:Qga (Tv b cs t) W w F)(hc:Qc (fun k=>k=b) w w')(B:Qh w' b cs' t):W (Tv b cs' t) w' (Qn F w w')∧Qc F w w':=by obtain⟨G,⟨h1,d,q⟩,u,I,z⟩:=h;have c:Qc G w w':=hc.sub fun k E=>E▸d;exact⟨z w' _ c ⟨B,.inl d,q.ext c⟩,c.sub u⟩
theorem Y6{P:Ya}(h:P w F)(d:Bd F w):Oh [P] w F:=⟨d,F,fun _=>False,h,fun k c=>c.elim,fun k _ c=>c,fun k c=>c,fun k c=>c.elim⟩
theorem Q7{P:Ya}{L:List Ya}{G H:Fp}(h1:P w G)(c:Oh L w H)(z:Jl G H)(d:∀k,G k→F k)(q:∀k,H k→F k)(u:Bd F w):Oh (P::L) w F:=⟨u,G,H,h1,c,z,d,q⟩
theorem Qr(k:Nat):Qn Qb w w1 k↔w.heap.size≤k∧k<w1.heap.size:=⟨fun h=>h.elim (fun h=>h.elim) id,.inr⟩
end
section
attribute [local go_sem] Qp
def Qet(b T m:Nat)(l:List Xu)(L:List (Int×Value)):List Ya:=
 [Tv b #[ptr T,.map (some m)] 198,fun w G=>Vz w G T l,Qo8 m L]
theorem Yl(b T m:Nat)(l:List Xu)(L:List (Int×Value)):∀P∈Qet b T m l L,Uy P:=by
 intro P c;simp only[Qet,Zu,List.not_mem_nil,or_false]at c;rcases c with rfl|rfl|rfl;·exact Ks _ _ _
 ·exact Vz.obj.good T l
 ·exact Qhd _ _
def Jg(w:World)(F:Fp)(b:Nat)(l:List Xu):Prop:=Ol l∧∃T m L,L.Perm (atV l)∧Oh (Qet b T m l L) w F
theorem Jg.obj:Hf Jg where
 bd:=fun⟨_,T,m,L,_,h⟩=>(Je (Yl _ T m _ L)).bd h
 own:=fun⟨_,T,m,L,_,h⟩=>by obtain⟨G,h1,d⟩:=J6 (Yl _ T m _ L) 0 rfl h;exact d _ h1.2.1
 aB:=fun⟨h0,T,m,L,c,h⟩hc q=>⟨h0,T,m,L,c,(Je (Yl _ T m _ L)).aB h hc q⟩
 more:=fun⟨h0,T,m,L,c,h⟩hs k=>⟨h0,T,m,L,c,(Je (Yl _ T m _ L)).more h hs k⟩
theorem Jg.opn{w}{F:Fp}{b:Nat}{l:List Xu}(h:Jg w F b l):
  ∃T m L,L.Perm (atV l)∧Qh w b #[ptr T,.map (some m)] 198∧(∃G,Vz w G T l)∧Xq w m L:=by
 obtain⟨_,T,m,L,k,h⟩:=h;obtain⟨q,h0,_⟩:=J6 (Yl _ T m _ L) 0 rfl h;obtain⟨c,h1,_⟩:=J6 (Yl _ T m _ L) 1 rfl h;obtain⟨u,d,_⟩:=J6 (Yl _ T m _ L) 2 rfl h;exact⟨T,m,L,k,h0.1,⟨c,h1⟩,d.1⟩
theorem Dp{w}{b T:Nat}{v:Value}(h:Qh w b #[ptr T,v] 198):Cl 157 #[ptr b] w fun e w'=>e=.returned (ptr T)∧w=w':=by obtain⟨c,a1⟩:=Q4 h;unfold ptr at*;clear h;go_enter func157,ntmps157;go_wp2;go_ret;exact⟨rfl,rfl⟩
theorem Qn1{w}{F:Fp}{b:Nat}{l:List Xu}(h:Jg w F b l):Cl 165 #[ptr b] w fun e w'=>e=.returned (.int .i64 l.length)∧w=w':=by obtain⟨T,m,L,q,h0,⟨G,h1⟩,k⟩:=h.opn;have d:=O (Dp h0);have c:=O (Qp0 h1);unfold ptr at*;clear h q h0 h1 k;go_enter func165,ntmps165;go_wp2_with fail;refine Zy d ?_;rintro w1 rfl;go_wp2_with fail;refine Zy c ?_;rintro w1 rfl;go_wp2;go_ret;exact⟨rfl,rfl⟩
theorem My{w}{F:Fp}{b:Nat}{l:List Xu}(h:Jg w F b l):Cl 106 #[ptr b] w fun e w'=>e=.returned (.tuple #[.int .u64 (((low l).getD (0,0)).1:Int),.bool (low l).isSome])∧Qc Qb w w':=by obtain⟨T,m,L,q,h0,⟨G,h1⟩,k⟩:=h.opn;have d:=O (Dp h0);have c:=O (Qpy h1);generalize low l=o at c⊢;unfold ptr Ur at*;clear h q h0 h1 k;go_enter func106,ntmps106;go_wp2_with fail;refine Zy d ?_;rintro w1 rfl;go_wp2_with fail;refine Zy c ?_;intro w1 u;go_wp2;go_ret2;refine⟨rfl,?_⟩;exact Zh u _
theorem Qge{w}{F:Fp}{b:Nat}{l:List Xu}(h:Jg w F b l)(k:Nat):Cl 92 #[ptr b,.int .u64 k] w fun e w'=>e=.returned (.tuple #[.int .i64 ((Jt k l).getD (0,0)).2,.bool (Jt k l).isSome])∧Qc Qb w w':=by obtain⟨T,m,L,u,h0,⟨G,h1⟩,q⟩:=h.opn;have d:=O (Dp h0);have c:=O (Ql0 h1 k);unfold Jt;generalize low (l.filter fun e=>decide (e.1≤k))=o at c⊢;unfold ptr Ur at*;clear h u h0 h1 q;go_enter func92,ntmps92;go_wp2_with fail;refine Zy d ?_;rintro w1 rfl;go_wp2_with fail;refine Zy c ?_;intro w1 z;go_wp2;go_ret2;refine⟨rfl,?_⟩;exact Zh z _
theorem Qen{w}{F:Fp}{b:Nat}{l:List Xu}(h:Jg w F b l)(v:Nat):Cl 94 #[ptr b,.int .u64 v] w fun e w'=>e=.returned (.tuple #[.int .i64 (((Xf v l).map (·.2.1)).getD 0),.bool (Xf v l).isSome])∧Qc Qb w w':=by
 obtain⟨T,m,L,I,h0,⟨G,h1⟩,E⟩:=h.opn;obtain⟨q,J⟩:=Zx (w.heap.size);have d:=O ((Zg Qb w).alloc (.cells #[.int .u64 v] 29));have B:=O (Dp (d.o.blk h0 (fun h=>h)));have c:=O (Qlz (Vz.obj.aB h1 d.o (Jl.none G)) v (Qh.new w #[.int .u64 v] 29));have u:Qrc (Xf v l)=.agg #[.int .u64 ((((Xf v l).map (·.1)).getD 0:Nat):Int),.int .i64 (((Xf v l).map (·.2.1)).getD 0)]:=by cases Xf v l<;>rfl
 rw[u]at c;generalize((Xf v l).map (·.1)).getD 0=K at c;generalize((Xf v l).map (·.2.1)).getD 0=R at c⊢;generalize(Xf v l).isSome=U at c⊢;unfold ptr at*;clear h I h0 h1 E u;go_enter func94,ntmps94;go_wp2_with fail;refine Zy B ?_;rintro w1 rfl;go_wp2_with fail;refine Zy c ?_;intro w1 k;have z:=O (d.o.aA k);clear k;go_wp2;go_ret2;refine⟨rfl,?_⟩;have:=z.o;exact Zh this _
end
section
variable{P:Program}{ops:Array Oper}{Q:Exit→Act→World→Prop}{C:World→Prop}
def Lr(P:Program)(ops:Array Oper)(Q:Exit→Act→World→Prop)(C:World→Prop):List (Bool×Oper)→Act→Prop
 |[],a=>∀w,C w→Q .normal a w
 |(true,o)::r,a=>if Region.wanted o (yielded ops a.tmps)then Qp P o a C (Lr P ops Q C r)else Lr P ops Q C r (a.put o.dst undef)
 |(false,o)::r,a=>∀w,C w→wpList P ops (Exit.then (fun c w'=>C w'∧Lr P ops Q C r c) Q) [o] a w
def E8(ops:Array Oper):List (Bool×Nat)→List (Bool×Oper)
 |[]=>[]
 |(b,k)::r=>match ops[k]? with
  |some o=>(b,o)::E8 ops r
  |none=>E8 ops r
theorem Id{b:Bool}{k:Nat}{r:List (Bool×Nat)}{o:Oper}(h:ops[k]? =some o):E8 ops ((b,k)::r)=(b,o)::E8 ops r:=by simp[E8,h]
def Qk6(ops:Array Oper):List (Bool×Nat)→Array Bool→Bool
 |[],listed=>(Region.ready .any ops listed).isEmpty
 |(true,k)::r,listed=>(Region.ready .any ops listed).contains k&&Region.free .any ops listed k&&((ops[k]?).map (·.dst.isSome)).getD false&&Qk6 ops r (listed.setIfInBounds k true)
 |(false,k)::r,listed=>decide (Region.ready .any ops listed=[k])&&Qk6 ops r (listed.setIfInBounds k true)
theorem Qfc(z:Region.noSelect ops=true)(R:∀c(a:Act)(d:Tmp)v w,Q (.panic c) (a.put (some d) v) w→Q (.panic c) a w):
  ∀(r:List (Bool×Nat))(q:Array Bool)(a:Act)(w),Xj ops q→C w→Qk6 ops r q=true→Lr P ops Q C (E8 ops r) a→Ld P ops Q C (fun _=>false) r.length q a w
 |[],q,a,w,hcl,hC,hB,h=>⟨by simpa[Qk6]using hB,h w hC⟩
 |(true,k)::r,q,a,w,hcl,hC,hB,h=>by
  simp only[Qk6,Zw]at hB;obtain⟨⟨⟨hr,hf⟩,E⟩,B⟩:=hB;have u:k∈Region.ready .any ops q:=by simpa using hr
  obtain⟨_,o,h0,_⟩:=mem_ready.1 u;rw[h0]at E;simp only[Zn,Option.getD_some]at E;obtain⟨d,E⟩:=Option.isSome_iff_exists.1 E;rw[Id h0]at h;simp only[Lr]at h;have V:∃v,YieldsIf P ops C o v a∧Lr P ops Q C (E8 ops r) (a.put o.dst v):=by
   by_cases J:Region.wanted o (yielded ops a.tmps)=true;·simp only[J,if_true]at h;obtain⟨v,h1,I⟩:=h;exact⟨v,.inl ⟨J,h1⟩,I⟩
   ·simp only[J]at h;exact⟨undef,.inr ⟨by simpa using J,rfl⟩,h⟩
  obtain⟨v,V,hK⟩:=V;exact Pi (F:=ops.size) h0 (Region.noSelect_spec z) (fun c K w' Z=>by rw[E]at Z;exact R c K d _ w' Z) (fun j oj hj hT=>by cases hT) _ q a w hcl (Region.free_spec h0 hf) u V hC
   (Qfc z R r _ _ w (hcl.set u) hC B hK)
 |(false,k)::r,q,a,w,hcl,hC,hB,h=>by
  simp only[Qk6,Zw,decide_eq_true_eq]at hB;obtain⟨h1,B⟩:=hB;have u:k∈Region.ready .any ops q:=by rw[h1];simp
  obtain⟨_,o,h0,_⟩:=mem_ready.1 u;rw[Id h0]at h;simp only[Lr]at h;refine⟨fun I=>(by rw[h1]at I;cases I),fun i hi=>?_⟩;rw[h1]at hi;have U:i=k:=by simpa using hi
  subst U;refine wpOp_mono (fun K w' h'=>⟨fun _=>h'.1,?_⟩) (Ko h0 (h w hC));exact Qfc z R r _ K w' (hcl.set u) h'.1 B h'.2
theorem Qcp{id:Nat}{a:Act}{w}{l:List Oper}(k:List (Bool×Nat))(C:World→Prop)(J:P.follows .mixedOrders=true)
  (z:(Region.noSelect l.toArray&&(decide (k.length=l.toArray.size)&&Qk6 l.toArray k (Array.replicate l.toArray.size false)))=true)
  (I:∀c(a:Act)(d:Tmp)v w,Q (.panic c) (a.put (some d) v) w→Q (.panic c) a w) (E:C w.drew) (h:Lr P l.toArray Q C (E8 l.toArray k) a):
  (Code.region id l.toArray true).wp P Q a w:=by
 simp only[Zw,decide_eq_true_eq]at z;obtain⟨u,q,z⟩:=z;refine wp_region_any J ?_;have B:Xj l.toArray (Array.replicate l.toArray.size false):=fun j K _ hl=>by rw[getD_replicate_false]at hl;cases hl
 have:=Qfc (P:=P) u I k _ a _ B E z h;rw[q]at this;exact Pj _ _ _ _ this
variable{r:List (Bool×Oper)}{a:Act}{o:Oper}
theorem Qt2(h:∀w,C w→Q .normal a w):Lr P ops Q C [] a:=h
theorem Qr1{v:Value}(d:Region.wanted o (yielded ops a.tmps)=true)(c:∀w,C w→(execOp a.eval o).run P w=.ok (.value v) w)(h:Lr P ops Q C r (a.put o.dst v)):Lr P ops Q C ((true,o)::r) a:=by simp only[Lr,d,if_true];exact⟨v,c,h⟩
theorem Qr0(h:∀w,C w→wpList P ops (Exit.then (fun c w'=>C w'∧Lr P ops Q C r c) Q) [o] a w):Lr P ops Q C ((false,o)::r) a:=h
end
end Go.Proofs.YtnnhmpehkbihnaaGreat
