/- A part of the proof: no condition. -/
import Derived.Test.YtnnhmpehkbihnaaGreatPk04
import Derived.Test.YtnnhmpehkbihnaaGreatPk06
import Derived.WalkSpells
import Derived.Deep.DeepCutAuto
namespace Go.Proofs.YtnnhmpehkbihnaaGreat
set_option linter.unusedVariables false
set_option maxRecDepth 100000
set_option maxHeartbeats 4000000
open Go.RowKit
open Go.Proofs.Tryz
section
theorem Qvz:Qce prog Jy.cells 3 289 38 24 Jy.zero where
 ht:=underlying289
 hi:=Ee (by kernel_rfl)
 pos:=by decide
 hc:=Jy.aF
 one:=by intro p u c;simp only[Jy.cells,Zu,List.not_mem_nil,or_false]at c;rcases c with rfl|rfl|rfl<;>rfl
theorem Qle{w}{g:Nat}(h:Qh w g #[] 38):Own Jy.cells 3 38 w (.slice (some ⟨g,0,none⟩) 0 0) ([]:List Jy):=
 ⟨by simp[Jm],.inr ⟨g,0,#[],rfl,Nat.zero_le _,h,Zv _,Nat.zero_le _,by simp,by simp[Jm]⟩⟩
theorem Wh:prog.eqGuardType prog.depth 289=false:=by kernel_rfl
theorem Qfx:prog.stoodInHeld 289=false:=by kernel_rfl
attribute [local go_sem] Wh Qfx
theorem Qi7(l:List Jy)(ad:Addr)(cap:Nat)(w)(d:Kb Jy.cells 3 w (some ad) l)(hl:l.length≤1000)(h0:l≠[]):
  Cl 251 #[.slice (some ad) l.length cap] w fun e w'=>∃v,e=.returned v∧Own Jy.cells 3 38 w' v l∧Qc Qb w w'∧∀k,v.ownBlock=some k→w.heap.size≤k:=by
 have K:=O (Zt d h0);clear d h0;go_enter func251,ntmps251;have J:=fun(W)=>Lib.run_eql_slice_nil (P:=prog) W 289 38 (some ad) l.length cap 0 0 underlying289;go_wp2_with (at_builtin;refine Jj Qvz rfl (.tmp 5) (.tmp 6) rfl _ ([]:List Jy) rfl (Qle (Qh.new' _ _ (by simp))) _ _ l rfl ?a2 ?a3 ?a4 ?a5 ?a6);case a2=>intro h;cases h
 case a3=>exact K.o.1.aB ((Zg Qb w).alloc _) (fun _ _ h=>h)
 case a4=>simp[maxLen];omega
 case a5=>simp;omega
 case a6=>
  intro v' w1 c q u;have E:Qc Qb w w1:=((Zg Qb w).alloc (.cells #[] 38)).trans q fun j R=>.inr (by simp[Value.ownBlock]at R;omega);have I:∀k,v'.ownBlock=some k→w.heap.size≤k:=by
   intro k z;rcases u with h|h;·rw[h]at z;simp[Value.ownBlock]at z;omega
   ·rw[h]at z;have:=Zs z;have U:(w.alloc (.cells #[] 38)).heap.size=w.heap.size+1:=by simp
    omega
  have B:=O (Zt c (Zt E I));clear c E I q u;go_wp2;go_ret;exact⟨_,rfl,B.o.1,B.o.2.1,B.o.2.2⟩
theorem Qp4(c:Jy)(w):
  Cl 252 #[.agg #[.int .u64 c.f,.int .u64 c.l,.int .u64 c.r]] w fun e w'=>e=.returned (.bool (!decide c.May))∧Qc Qb w w':=by
 have M:=O (fun w=>K8 c w);generalize decide c.May=d at M⊢;go_enter func252,ntmps252;go_wp2_with fail;refine Zz (M.o _) ?_;intro w1 k;have q:=O (((Zg Qb w).alloc (.cells #[.int .u64 c.f,.int .u64 c.l,.int .u64 c.r] 38)).aA k);clear k;go_wp2;go_ret;exact⟨rfl,q.o⟩
theorem Qp5(c:Jy)(hc:c.May)(w w')(h':Qc Qb w w'):
  Cl 252 #[.agg #[.int .u64 c.f,.int .u64 c.l,.int .u64 c.r]] w' fun e d=>e=.returned (.bool false)∧Qc Qb w d:=
 (Qp4 c w').mono fun e d h=>⟨by rw[h.1,Px hc];rfl,h'.aA h.2⟩
theorem Qfv(l:List Jy)(a:Option Addr)(cap:Nat)(w)(q:Kb Jy.cells 3 w a l)(hl:l.length≤1000)(z:∀c∈l,c.May):
  Cl 261 #[.slice a l.length cap,.func (.func 252) #[] #[]] w fun e w'=>e=.returned (.int .i64 (-1))∧Qc Qb w w':=by
 have I:=O (Zt q z);clear q z;have E:=O (fun c(hc:c.May)w'(h':Qc Qb w w')=>Qp5 c hc w w' h');go_enter func261,ntmps261;go_wp2;go_loopw [5,8] (fun _ i wr=>∃k:Nat,k≤l.length∧i=.int .i64 k∧Qc Qb w wr) (fun _ i _=>l.length-(intOf i).toNat);case atStart=>exact⟨0,by omega,rfl,Zg _ _⟩
 case round=>
  obtain⟨k,hk,rfl,hc⟩:=hrel;rename_i wr;by_cases Xg:k<l.length
  ·obtain⟨g,o,rfl,J⟩:=I.o.1 k Xg;have d:∀j u,(Jy.cells l[k])[j]? =some u→wr.cell? ⟨g,o+k*3+j,none⟩=some u:=fun j u V=>hc.same (J j u V);have z:=I.o.2 l[k] (List.getElem_mem Xg);generalize l[k]=c at d z;have U:=d 0 _ rfl;have e1:=d 1 _ rfl;have Z:=d 2 _ rfl;simp only[Nat.add_zero]at U;have K:=O (E.o c z wr hc);clear J d;have k0:(0:Int)≤(k:Int):=by omega
   have k1:(k:Int)<(l.length:Int):=by omega
   have B:=O hc;clear hc z;go_wp2_with fail;refine Zy K ?_;intro w2 R;go_wp2;go_roundw;case rel=>exact⟨k+1,by omega,by go_num,R⟩
   case measure=>simp[intOf];omega
  ·have B:=O hc;clear hc;go_wp2;go_ret;exact⟨rfl,B.o⟩
end
section
attribute [local go_sem] Qp
theorem Qcn(l:List Jy)(a:Option Addr)(cap:Nat)(w)(d:Kb Jy.cells 3 w a l)(hl:l.length≤1000)(q:∀c∈l,c.May):
  Cl 250 #[.slice a l.length cap,.func (.func 252) #[] #[]] w fun e w'=>e=.returned (.slice a l.length cap)∧Qc Qb w w':=by
 have I:=O (Qfv l a cap w d hl q);clear d q;go_enter func250,ntmps250;go_wp2_with fail;refine Zy I ?_;intro w1 k;have C:=O k;clear k;go_wp2;go_ret;exact⟨rfl,C.o⟩
theorem Ih(l:List Jy)(ad:Addr)(cap:Nat)(w)(q:Kb Jy.cells 3 w (some ad) l)(hl:l.length≤1000)(h0:l≠[])(V:∀c∈l,c.May):
  Cl 239 #[.slice (some ad) l.length cap] w fun e w'=>∃v,e=.returned v∧Own Jy.cells 3 38 w' v l∧Qc Qb w w'∧∀k,v.ownBlock=some k→w.heap.size≤k:=by
 have C:=O (Qi7 l ad cap w q hl h0);have D:=O (fun a cap w(h:Kb Jy.cells 3 w a l)=>Qcn l a cap w h hl V);clear q h0 V;go_enter func239,ntmps239;go_wp2_with fail;refine Zo C ?_;rintro e w1⟨v,rfl,h1,K,U⟩;have R:=h1.row Jy.aF;obtain⟨a1,u,rfl,B,E,d⟩:=R;have Z:=O (D.o a1 u w1 d);have z:=O (Zt h1 (Zt K U));clear h1 K U d E B;go_wp2_with fail;refine Zy Z ?_;intro w2 J;have I:=O J;clear J;go_wp2;go_ret;exact⟨_,rfl,z.o.1.aB I.o (fun _ _ h=>h),z.o.2.1.aA I.o,z.o.2.2⟩
theorem Qea(m n:Nat)(w)(h:m+n<340282366920938463463374607431768211456):
  Cl 242 #[.agg #[.int .u64 ((m/18446744073709551616:Nat):Int),.int .u64 ((m%18446744073709551616:Nat):Int)],.agg #[.int .u64 ((n/18446744073709551616:Nat):Int),.int .u64 ((n%18446744073709551616:Nat):Int)]] w
   fun e w'=>e=.returned (.agg #[.int .u64 (((m+n)/18446744073709551616:Nat):Int),.int .u64 (((m+n)%18446744073709551616:Nat):Int)])∧Qc Qb w w':=by
 have P:=O (fun w=>Fg m n w h);clear h;generalize(((m+n)/18446744073709551616:Nat):Int)=E at P⊢;generalize(((m+n)%18446744073709551616:Nat):Int)=I at P⊢;generalize((m/18446744073709551616:Nat):Int)=d at P⊢;generalize((m%18446744073709551616:Nat):Int)=k at P⊢;generalize((n/18446744073709551616:Nat):Int)=u at P⊢;generalize((n%18446744073709551616:Nat):Int)=z at P⊢;go_enter func242,ntmps242;go_wp2_with fail;refine Zz (P.o _) ?_;intro w1 c;have q:=c.blk (Qh.new' (w:=(w.alloc (.cells #[.int .u64 d,.int .u64 k] 291)).alloc (.cells #[.int .u64 u,.int .u64 z] 291)) (n:=w.heap.size+1+1) #[.int .u64 0,.int .u64 0] 291 (by simp)) (fun h=>h);have B:=O (((((Zg Qb w).alloc (.cells #[.int .u64 d,.int .u64 k] 291)).alloc (.cells #[.int .u64 u,.int .u64 z] 291)).alloc (.cells #[.int .u64 0,.int .u64 0] 291)).aA c);have ql:=q.lt;have k0:=q.cell 0;have k1:=q.cell 1;have kf:=q.frozen;simp at k0 k1;clear q c;go_wp2;refine bodyPost_ret (v:=.agg #[.int .u64 E,.int .u64 I]) (by simp[results,Tryz.results242,go_sem,k0,k1,ql]) rfl ⟨rfl,?_⟩;have c:=B.o;(repeat' (first|(with_reducible first|exact Zg _ _|assumption|refine Zh ?_ _|refine Zi ?_ _|refine Zj ?_|refine Zk ?_ _ ?_|(apply Or.inl;rfl))|(apply Or.inl;simp;done)|(apply Or.inr;simp;first|done|omega)))
def Jy.sum(l:List Jy)(t:Nat):Nat:=(l.map fun c=>c.at t).sum
theorem Jy.sum_succ(l:List Jy)(t k:Nat)(h:k<l.length):Jy.sum (l.take (k+1)) t=Jy.sum (l.take k) t+l[k].at t:=by simp only[Jy.sum,List.take_succ_eq_append_getElem h,List.map_append,List.sum_append];simp
theorem Jy.sum_le(l:List Jy)(t:Nat)(ht:t<18446744073709551616)(d:∀c∈l,c.May):Jy.sum l t≤l.length*38685626227668133590597632:=by
 induction l with
 |nil=>simp[Jy.sum]
 |cons c l k=>
  have h1:=k (fun c hc=>d c (by simp[hc]));have q:=c.at_le (d c (by simp)) t ht;have u:c.at t≤38685626227668133590597632:=by unfold Jy.at;omega
  simp only[Jy.sum,List.map_cons,List.sum_cons,Zm]at*;omega
theorem Qnq(l:List Jy)(ad:Addr)(cap:Nat)(t:Nat)(w)(Z:Kb Jy.cells 3 w (some ad) l)(hl:l.length≤1000)(h0:l≠[])(hm:∀c∈l,c.May)(ht:t<18446744073709551616):
  Cl 231 #[.slice (some ad) l.length cap,.int .u64 t] w fun e w'=>e=.returned (.agg #[.int .u64 ((Jy.sum l t/18446744073709551616:Nat):Int),.int .u64 ((Jy.sum l t%18446744073709551616:Nat):Int)])∧Qc Qb w w':=by
 have M:=O (fun w'(c:Qc Qb w w')=>Ih l ad cap w' (Z.aB c (fun _ _ h=>h)) hl h0 hm);have HM:=O hm;have ag:=O (fun k(h:k≤l.length)=>Jy.sum_le (l.take k) t ht (fun c hc=>hm c (List.mem_of_mem_take hc)));have HT:=O ht;clear Z h0 hm;go_enter func231,ntmps231;go_wp2_with fail;refine(M.o _ (by(repeat' (first|(with_reducible first|exact Zg _ _|assumption|refine Zh ?_ _|refine Zi ?_ _|refine Zj ?_|refine Zk ?_ _ ?_|(apply Or.inl;rfl))|(apply Or.inl;simp;done)|(apply Or.inr;simp;first|done|omega))))).mono ?_;rintro e w1⟨v,rfl,h1,h2,h3⟩;have R:=h1.row Jy.aF;obtain⟨a1,ai,rfl,au,a0,ae⟩:=R;have af:=O h2;have B1:=O (h2.blk (Qh.new' (w:=w.alloc (.cells #[.int .u64 0,.int .u64 0] 291)) (n:=w.heap.size+1) #[.int .u64 0,.int .u64 0] 291 (by simp)) (fun h=>h));have HR:=O (Zt h1 h3);clear h1 h2 h3 ae a0 au;have B0:=O (af.o.blk ((Qh.new w #[.int .u64 0,.int .u64 0] 291).alloc (.cells #[.int .u64 0,.int .u64 0] 291)) (fun h=>h));go_wp2;go_loopw [7,8,12] (fun _ _ i wr=>∃(k:Nat)(hi lo:Int),k≤l.length∧i=.int .i64 k∧Qh wr (w.heap.size+1) #[.int .u64 hi,.int .u64 lo] 291∧Qc (fun b=>b=w.heap.size+1) w1 wr∧Hi (hi=((Jy.sum (l.take k) t/18446744073709551616:Nat):Int)∧lo=((Jy.sum (l.take k) t%18446744073709551616:Nat):Int))) (fun _ _ i _=>l.length-(intOf i).toNat);case atStart=>exact⟨0,0,0,by omega,rfl,B1.o,Zg _ _,O ⟨by simp[Jy.sum],by simp[Jy.sum]⟩⟩
 case round=>
  obtain⟨k,hi,lo,hk,rfl,B,hc,HV⟩:=hrel;rename_i wr;by_cases Xg:k<l.length
  ·have V:Own Jy.cells 3 38 wr (.slice a1 l.length ai) l:=HR.o.1.aB hc (fun j hj e=>by have:=HR.o.2 j hj;simp at this;omega);obtain⟨a2,a6,e2,_,_,E⟩:=V.row Jy.aF;injection e2 with aq a8 ar;subst aq ar;obtain⟨g,o,rfl,hj⟩:=E k Xg;have u:=HM.o l[k] (List.getElem_mem Xg);have hs:=Jy.sum_succ l t k Xg;have a3:=ag.o k hk;have a4:=ag.o (k+1) Xg;have ay:(l.take k).length≤1000:=by rw[List.length_take];omega
   have az:(l.take (k+1)).length≤1000:=by rw[List.length_take];omega
   generalize l[k]=c at hj u hs;have e0:=hj 0 _ rfl;have e1:=hj 1 _ rfl;have e2:=hj 2 _ rfl;simp only[Nat.add_zero]at e0;have k0:(0:Int)≤(k:Int):=by omega
   have k1:(k:Int)<(l.length:Int):=by omega
   obtain⟨n,hn⟩:∃n,min t c.l=n:=⟨_,rfl⟩;obtain⟨d,hd⟩:∃d,t-n=d:=⟨_,rfl⟩;have aa:c.at t=c.f*n+c.r*d:=by unfold Jy.at;rw[hn,hd]
   have aj:=c.at_le u t HT.o;rw[hn,hd]at aj;have ht:=HT.o;have av:=u.hf;have aw:=u.hr;have ax:=u.hl;have M1:=fun w'=>Dw c.f n w' (by omega) (by omega);have M2:=fun w'=>Dw c.r d w' (by omega) (by omega);have J:=fun w'=>Qea (c.f*n) (c.r*d) w' (by omega);have U:=fun w'=>Qea (Jy.sum (l.take k) t) (c.f*n+c.r*d) w' (by omega);rw[←HV.o.1,←HV.o.2]at U;rw[←aa,←hs]at U;have z:IntKind.u64.wrap ((t:Int)-(n:Int))=(d:Int):=by rw[Fj _ (by omega) (by omega)];omega
   have HN:=O hn;clear hn aj av aw ax hs a3 a4 ay az hd;obtain⟨r1,ab⟩:∃r1,((Jy.sum (l.take (k+1)) t/18446744073709551616:Nat):Int)=r1:=⟨_,rfl⟩;obtain⟨r2,ac⟩:∃r2,((Jy.sum (l.take (k+1)) t%18446744073709551616:Nat):Int)=r2:=⟨_,rfl⟩;rw[ab,ac]at U;rw[aa]at U;have ap:=O (Zt ab.symm ac.symm);clear ab ac aa;generalize((c.f*n/18446744073709551616:Nat):Int)=x1 at M1 J;generalize((c.f*n%18446744073709551616:Nat):Int)=x2 at M1 J;generalize((c.r*d/18446744073709551616:Nat):Int)=y1 at M2 J;generalize((c.r*d%18446744073709551616:Nat):Int)=y2 at M2 J;generalize(((c.f*n+c.r*d)/18446744073709551616:Nat):Int)=z1 at J U;generalize(((c.f*n+c.r*d)%18446744073709551616:Nat):Int)=z2 at J U;have al:=O M1;have am:=O M2;have an:=O J;have ao:=O U;have ah:=O z;have HB:=O (Zt B hc);have a7:=O u;have G0:∀x,Qc Qb (wr.alloc (.cells #[.int .u64 c.f,.int .u64 c.l,.int .u64 c.r] 38)) (Qz Qb (wr.alloc (.cells #[.int .u64 c.f,.int .u64 c.l,.int .u64 c.r] 38)) x):=fun x=>Qv _ _ _;have g1:=fun x=>(fun h=>((h.blk (B.alloc _) (fun h=>h))).cell 0) (G0 x);have g2:=fun x=>(fun h=>((h.blk (B.alloc _) (fun h=>h))).cell 1) (G0 x);have g3:=fun x=>(fun h=>((h.blk (Qh.new wr #[.int .u64 c.f,.int .u64 c.l,.int .u64 c.r] 38) (fun h=>h))).cell 0) (G0 x);have g4:=fun x=>(fun h=>((h.blk (Qh.new wr #[.int .u64 c.f,.int .u64 c.l,.int .u64 c.r] 38) (fun h=>h))).cell 1) (G0 x);have g5:=fun x=>(fun h=>((h.blk (Qh.new wr #[.int .u64 c.f,.int .u64 c.l,.int .u64 c.r] 38) (fun h=>h))).cell 2) (G0 x);have I:=O (fun(w')(h:Qc Qb (wr.alloc (.cells #[.int .u64 c.f,.int .u64 c.l,.int .u64 c.r] 38)) w')=>Zt (((h.blk (B.alloc _) (fun h=>h))).frozen 0) (Zt (((h.blk (B.alloc _) (fun h=>h))).frozen 1) (Zt (((h.blk (B.alloc _) (fun h=>h))).cell 0) (((h.blk (B.alloc _) (fun h=>h))).cell 1))));simp at g1 g2 g3 g4 g5 I;have ba:=B.lt;clear B hc u V E hj M1 M2 J U z ht;go_upto_region 5 with(fail);go_cut [8] (fun s8 wx=>s8=.int .u64 n∧wx=wr.alloc (.cells #[.int .u64 c.f,.int .u64 c.l,.int .u64 c.r] 38))
   case first=>
    go_wp2;all_goals go_meet
    all_goals exact⟨by rw[←HN.o];congr 1;omega,rfl⟩
   case rest=>
    obtain⟨rfl,rfl⟩:=hcut;go_wp2;have z:=ah.o;refine Qu [3,7,8] [0,1,2,5,6,9] [4,10,11,12] [13] (Qz (Qb) (wr.alloc (.cells #[.int .u64 c.f,.int .u64 c.l,.int .u64 c.r] 38))) Zq (by kernel_rfl) (fun _ _ _ _ _ h=>h) (Qd (by(repeat' (first|(with_reducible first|exact Zg _ _|assumption|refine Zh ?_ _|refine Zi ?_ _|refine Zj ?_|refine Zk ?_ _ ?_|(apply Or.inl;rfl))|(apply Or.inl;simp;done)|(apply Or.inr;simp;first|done|omega))))) ?_;simp only[pick,Zf,Ze,Zd];iterate 3 (refine Ql (fun K hK=>?_);go_simp;refine hK _ ?_;clear hK K)
    refine Qg ?_;iterate 6 (refine Ql (fun K hK=>?_);go_simp;refine hK _ ?_;clear hK K)
    refine Qg ?_;intro _ a5;obtain⟨xo,ak⟩:=a5;subst ak;simp only[Jd];have c3:=Qv Qb (wr.alloc (.cells #[.int .u64 c.f,.int .u64 c.l,.int .u64 c.r] 38)) xo;generalize Qz Qb (wr.alloc (.cells #[.int .u64 c.f,.int .u64 c.l,.int .u64 c.r] 38)) xo=w3 at c3⊢;clear g1 g2 g3 g4 g5 z;go_wp2_with fail;refine Zz (al.o _) ?_;intro w4 d4;have c4:=c3.aA d4;clear d4 c3;go_wp2;refine⟨Qd c4,?_⟩;go_wp2_with fail;refine Zz (am.o _) ?_;intro w5 d5;have c5:=c4.aA d5;clear d5 c4;go_wp2;refine⟨Qd c5,?_⟩;go_wp2_with fail;refine Zz (an.o _) ?_;intro w6 d6;have c6:=c5.aA d6;clear d6 c5;go_wp2;refine⟨Qd c6,?_⟩;go_wp2_with fail;refine Zz (ao.o _) ?_;intro w7 d7;have c7:=c6.aA d7;clear d7 c6;go_wp2;refine⟨Qd c7,?_⟩;have K7:=I.o _ c7;obtain⟨f1,f2,f3,f4⟩:=K7;have C7:=O c7;clear c7;go_wp2;go_roundw
    case rel=>
     refine⟨k+1,r1,r2,by omega,by go_num,?_,?_,ap⟩;·exact((C7.o.blk (HB.o.1.alloc _) (fun h=>h)).set 0 _).set 1 _
     ·have h7:=(((Zg Qb wr).alloc _).aA C7.o);have h8:=HB.o.2.trans h7 (fun k h=>h.elim);(repeat' (first|(with_reducible first|exact Zg _ _|assumption|refine Zh ?_ _|refine Zi ?_ _|refine Zj ?_|refine Zk ?_ _ ?_|(apply Or.inl;rfl))|(apply Or.inl;simp;done)|(apply Or.inr;simp;first|done|omega)))
    case measure=>simp[intOf];omega
  ·obtain rfl:k=l.length:=by omega
   rw[List.take_length]at HV;have c0:=B.cell 0;have c1:=B.cell 1;have q:=hc.blk B0.o (by omega);have ql:=q.lt;have q0:=q.cell 0;have q1:=q.cell 1;have qf:=q.frozen;simp at c0 c1 q0 q1;have HB:=O (Zt B hc);clear B hc q;go_wp2;refine bodyPost_ret (v:=.agg #[.int .u64 hi,.int .u64 lo]) (by simp[results,Tryz.results231,go_sem,q0,q1]) rfl ⟨by rw[HV.o.1,HV.o.2],?_⟩;have c1:=(((((Zg Qb w).alloc _).alloc _).aA af.o)).trans HB.o.2 (fun k hk=>.inr (by have a9:k=w.heap.size+1:=hk;omega));(repeat' (first|(with_reducible first|exact Zg _ _|assumption|refine Zh ?_ _|refine Zi ?_ _|refine Zj ?_|refine Zk ?_ _ ?_|(apply Or.inl;rfl))|(apply Or.inl;simp;done)|(apply Or.inr;simp;first|done|omega)))
end
end Go.Proofs.YtnnhmpehkbihnaaGreat
