/- A part of the proof: no condition. -/
import Derived.Test.YtigcnnkagkbflaaGreatUo01
import Derived.WalkSpells
import Derived.Outline
import Derived.Deep.DeepCutAuto
namespace Go.Proofs.YtigcnnkagkbflaaGreat
set_option linter.unusedVariables false
set_option maxRecDepth 100000
set_option maxHeartbeats 4000000
open Go.RowKit
open Go.Proofs.Tryz
attribute [local go_sem] Qp
theorem Qvz:Qce prog Jy.cells 3 332 27 24 Jy.zero where
 ht:=underlying332
 hi:=Ee (by kernel_rfl)
 pos:=by decide
 hc:=Jy.aF
 one:=by intro p u c;simp only[Jy.cells,Zu,List.not_mem_nil,or_false]at c;rcases c with rfl|rfl|rfl<;>rfl
theorem Qle{w}{g:Nat}(h:Qh w g #[] 27):Own Jy.cells 3 27 w (.slice (some ⟨g,0,none⟩) 0 0) ([]:List Jy):=
 ⟨by simp[Jm],.inr ⟨g,0,#[],rfl,Nat.zero_le _,h,Zv _,Nat.zero_le _,by simp,by simp[Jm]⟩⟩
theorem Qi7(l:List Jy)(ad:Addr)(cap:Nat)(w)(d:Kb Jy.cells 3 w (some ad) l)(Z:l.length<=1000)(J:l≠[]):
  Cl 282 #[.slice (some ad) l.length cap] w λe w'=>∃v,e=.returned v/\Own Jy.cells 3 27 w' v l/\Qc Qb w w'/\∀k,v.ownBlock=some k->w.heap.size<=k:=by
 have R:=O (Zt d J);clear d J;apply WH func282;have K:=λ(W)=>Lib.run_eql_slice_nil (P:=prog) W 332 27 (some ad) l.length cap 0 0 underlying332;go_wp2_with (at_builtin;refine Jj Qvz rfl (.tmp 5) (.tmp 6) rfl _ ([]:List Jy) rfl (Qle (Qh.new' _ _ (by simp))) _ _ l rfl ?a2 ?a3 ?a4 ?a5 ?a6);case a2=>intro h;cases h
 case a3=>exact R.o.1.aB ((Zg Qb w).alloc _) (λ_ _ h=>h)
 case a4=>simp[maxLen];omega
 case a5=>simp;omega
 case a6=>
  intro V w1 c q u;have E:Qc Qb w w1:=((Zg Qb w).alloc (.cells #[] 27)).trans q λj U=>.inr (by simp[Value.ownBlock]at U;omega);have I:∀k,V.ownBlock=some k->w.heap.size<=k:=by
   intro k z;rcases u with h|h;·rw[h]at z;simp[Value.ownBlock]at z;omega
   .rw[h]at z;have:=Zs z;have hz:(w.alloc (.cells #[] 27)).heap.size=w.heap.size+1:=by simp
    omega
  have B:=O (Zt c (Zt E I));clear c E I q u;go_wp2;go_ret;exact⟨_,rfl,B.o.1,B.o.2.1,B.o.2.2⟩
theorem Qp4(c:Jy)(w):
  ZW 283 #[.agg #[.int .u64 c.f,.int .u64 c.l,.int .u64 c.r]] w (.bool (!decide c.May)) λw'=>Qc Qb w w':=by
 have M:=O (λw=>K8 c w);generalize decide c.May=d at M|-;apply WH func283;go_wp2_with fail;apply Z9 (M.o _) (λ_ k=>((Zg Qb w).alloc (.cells #[.int .u64 c.f,.int .u64 c.l,.int .u64 c.r] 27)).aA k);intro w1 q;exact WD q
theorem Qp5(c:Jy)(k:c.May)(w w')(h':Qc Qb w w'):
  ZW 283 #[.agg #[.int .u64 c.f,.int .u64 c.l,.int .u64 c.r]] w' (.bool false) λd=>Qc Qb w d:=
 (Qp4 c w').mono λe d h=>⟨by rw[h.1,Px k];rfl,h'.aA h.2⟩
theorem Qfv(l:List Jy)(a:Option Addr)(cap:Nat)(w)(z:Kb Jy.cells 3 w a l)(hl:l.length<=1000)(B:∀c∈l,c.May):
  ZW 289 #[.slice a l.length cap,.func (.func 283) #[] #[]] w (.int .i64 (-1)) λw'=>Qc Qb w w':=by
 have J:=O (Zt z B);clear z B;have E:=O (λc(q:c.May)w'(h':Qc Qb w w')=>Qp5 c q w w' h');apply WH func289;go_wp2;go_loopw [5,8] (λ_ i wr=>∃k:Nat,k<=l.length/\i=.int .i64 k/\Qc Qb w wr) (λ_ i _=>l.length-(intOf i).toNat);case atStart=>exact⟨0,by omega,rfl,Zg _ _⟩
 case round=>
  obtain⟨k,hk,rfl,q⟩:=hrel;rename_i wr;by_cases Xg:k<l.length
  .obtain⟨g,o,rfl,K⟩:=J.o.1 k Xg;have d:∀j u,(Jy.cells l[k])[j]? =some u->wr.cell? ⟨g,o+k*3+j,none⟩=some u:=λj u Z=>q.same (K j u Z);have B:=J.o.2 l[k] (List.getElem_mem Xg);generalize l[k]=c at d B;have V:=d 0 _ rfl;have e1:=d 1 _ rfl;have e2:=d 2 _ rfl;simp only[Nat.add_zero]at V;have R:=O (E.o c B wr q);clear K d;have k0:(0:Int)<=(k:Int):=by omega
   have k1:(k:Int)<(l.length:Int):=by omega
   have I:=O q;clear q B;go_wp2_with fail;apply Zy R;intro w2 U;go_wp2;go_roundw;case rel=>exact⟨k+1,by omega,by go_num,U⟩
   case measure=>simp[intOf];omega
  .have I:=O q;clear q;exact WD I
theorem Qcn(l:List Jy)(a:Option Addr)(cap:Nat)(w)(d:Kb Jy.cells 3 w a l)(u:l.length<=1000)(q:∀c∈l,c.May):
  ZW 281 #[.slice a l.length cap,.func (.func 283) #[] #[]] w (.slice a l.length cap) λw'=>Qc Qb w w':=by
 have I:=O (Qfv l a cap w d u q);clear d q;apply WH func281;go_wp2_with fail;apply ZQ I;intro w1 C;exact WD C
theorem Ih(l:List Jy)(ad:Addr)(cap:Nat)(w)(q:Kb Jy.cells 3 w (some ad) l)(hl:l.length<=1000)(U:l≠[])(hm:∀c∈l,c.May):
  Cl 272 #[.slice (some ad) l.length cap] w λe w'=>∃v,e=.returned v/\Own Jy.cells 3 27 w' v l/\Qc Qb w w'/\∀k,v.ownBlock=some k->w.heap.size<=k:=by
 have C:=O (Qi7 l ad cap w q hl U);have D:=O (λa cap w(h:Kb Jy.cells 3 w a l)=>Qcn l a cap w h hl hm);clear q U hm;apply WH func272;go_wp2_with fail;apply Zo C;rintro e w1⟨v,rfl,B,V,Z⟩;have R:=B.row Jy.aF;obtain⟨a1,u,rfl,E,I,d⟩:=R;have DD:=O (D.o a1 u w1 d);have z:=O (Zt B (Zt V Z));clear B V Z d I E;go_wp2_with fail;apply ZQ DD;intro w2 J;go_wp2;go_ret;exact⟨_,rfl,z.o.1.aB J.o (λ_ _ h=>h),z.o.2.1.aA J.o,z.o.2.2⟩
theorem Qea(m n:Nat)(w)(h:m+n<340282366920938463463374607431768211456):
  Cl 275 #[.agg #[.int .u64 ((m/18446744073709551616:Nat):Int),.int .u64 ((m%18446744073709551616:Nat):Int)],.agg #[.int .u64 ((n/18446744073709551616:Nat):Int),.int .u64 ((n%18446744073709551616:Nat):Int)]] w
   λe w'=>e=.returned (.agg #[.int .u64 (((m+n)/18446744073709551616:Nat):Int),.int .u64 (((m+n)%18446744073709551616:Nat):Int)])/\Qc Qb w w':=by
 have P:=O (λw=>Fg m n w h);clear h;generalize(((m+n)/18446744073709551616:Nat):Int)=K at P|-;generalize(((m+n)%18446744073709551616:Nat):Int)=R at P|-;generalize((m/18446744073709551616:Nat):Int)=u at P|-;generalize((m%18446744073709551616:Nat):Int)=z at P|-;generalize((n/18446744073709551616:Nat):Int)=B at P|-;generalize((n%18446744073709551616:Nat):Int)=E at P|-;apply WH func275;go_wp2_with fail;apply Zz (P.o _);intro w1 c;have q:=c.blk (Qh.new' (w:=(w.alloc (.cells #[.int .u64 u,.int .u64 z] 334)).alloc (.cells #[.int .u64 B,.int .u64 E] 334)) (n:=w.heap.size+1+1) #[.int .u64 0,.int .u64 0] 334 (by simp)) (λh=>h);have I:=O (((((Zg Qb w).alloc (.cells #[.int .u64 u,.int .u64 z] 334)).alloc (.cells #[.int .u64 B,.int .u64 E] 334)).alloc (.cells #[.int .u64 0,.int .u64 0] 334)).aA c);have J:=q.lt;have d:=q.cell 0;have k:=q.cell 1;have U:=q.frozen;simp at d k;clear q c;go_wp2;refine bodyPost_ret (v:=.agg #[.int .u64 K,.int .u64 R]) (by simp[results,Tryz.results275,go_sem,d,k,J]) rfl ⟨rfl,?_⟩;have c:=I.o;(exact Z0)
def Jy.sum(l:List Jy)(t:Nat):Nat:=(l.map λc=>c.at t).sum
theorem Jy.sum_succ(l:List Jy)(t k:Nat)(h:k<l.length):Jy.sum (l.take (k+1)) t=Jy.sum (l.take k) t+l[k].at t:=by simp only[Jy.sum,List.take_succ_eq_append_getElem h,List.map_append,List.sum_append];simp
theorem Jy.sum_le(l:List Jy)(t:Nat)(q:t<18446744073709551616)(d:∀c∈l,c.May):Jy.sum l t<=l.length*38685626227668133590597632:=by
 induction l with
 |nil=>simp[Jy.sum]
 |cons c l u=>
  have z:=u (λc k=>d c (by simp[k]));have B:=c.at_le (d c (by simp)) t q;have E:c.at t<=38685626227668133590597632:=by unfold Jy.at;omega
  simp only[Jy.sum,List.map_cons,List.sum_cons,Zm]at*;omega
theorem Qnq(l:List Jy)(ad:Addr)(cap:Nat)(t:Nat)(w)(aa:Kb Jy.cells 3 w (some ad) l)(hl:l.length<=1000)(h0:l≠[])(hm:∀c∈l,c.May)(ht:t<18446744073709551616):
  ZW 262 #[.slice (some ad) l.length cap,.int .u64 t] w (.agg #[.int .u64 ((Jy.sum l t/18446744073709551616:Nat):Int),.int .u64 ((Jy.sum l t%18446744073709551616:Nat):Int)]) λw'=>Qc Qb w w':=by
 have M:=O (λw'(c:Qc Qb w w')=>Ih l ad cap w' (aa.aB c (λ_ _ h=>h)) hl h0 hm);have HM:=O hm;have ah:=O (λk(h:k<=l.length)=>Jy.sum_le (l.take k) t ht (λc V=>hm c (List.mem_of_mem_take V)));have HT:=O ht;clear aa h0 hm;apply WH func262;go_wp2_with fail;refine(M.o _ Z0).mono ?_;rintro e w1⟨v,rfl,h1,h2,h3⟩;have R:=h1.row Jy.aF;obtain⟨a1,aj,rfl,av,a3,af⟩:=R;have ag:=O h2;have B1:=O (h2.blk (Qh.new' (w:=w.alloc (.cells #[.int .u64 0,.int .u64 0] 334)) (n:=w.heap.size+1) #[.int .u64 0,.int .u64 0] 334 (by simp)) (λh=>h));have HR:=O (Zt h1 h3);clear h1 h2 h3 af a3 av;have B0:=O (ag.o.blk ((Qh.new w #[.int .u64 0,.int .u64 0] 334).alloc (.cells #[.int .u64 0,.int .u64 0] 334)) (λh=>h));go_wp2;go_loopw [7,8,12] (λ_ _ i wr=>∃(k:Nat)(hi lo:Int),k<=l.length/\i=.int .i64 k/\Qh wr (w.heap.size+1) #[.int .u64 hi,.int .u64 lo] 334/\Qc (λb=>b=w.heap.size+1) w1 wr/\Hi (hi=((Jy.sum (l.take k) t/18446744073709551616:Nat):Int)/\lo=((Jy.sum (l.take k) t%18446744073709551616:Nat):Int))) (λ_ _ i _=>l.length-(intOf i).toNat);case atStart=>exact⟨0,0,0,by omega,rfl,B1.o,Zg _ _,O ⟨by simp[Jy.sum],by simp[Jy.sum]⟩⟩
 case round=>
  obtain⟨k,hi,lo,hk,rfl,B,V,HV⟩:=hrel;rename_i wr;by_cases Xg:k<l.length
  .have Z:Own Jy.cells 3 27 wr (.slice a1 l.length aj) l:=HR.o.1.aB V (λj hj e=>by have:=HR.o.2 j hj;simp at this;omega);obtain⟨a2,a7,e2,_,_,E⟩:=Z.row Jy.aF;injection e2 with ar a9 au;subst ar au;obtain⟨g,o,rfl,hj⟩:=E k Xg;have u:=HM.o l[k] (List.getElem_mem Xg);have hs:=Jy.sum_succ l t k Xg;have a4:=ah.o k hk;have a5:=ah.o (k+1) Xg;have az:(l.take k).length<=1000:=by rw[List.length_take];omega
   have a0:(l.take (k+1)).length<=1000:=by rw[List.length_take];omega
   generalize l[k]=c at hj u hs;have e0:=hj 0 _ rfl;have e1:=hj 1 _ rfl;have e2:=hj 2 _ rfl;simp only[Nat.add_zero]at e0;have k0:(0:Int)<=(k:Int):=by omega
   have k1:(k:Int)<(l.length:Int):=by omega
   obtain⟨n,hn⟩:∃n,min t c.l=n:=⟨_,rfl⟩;obtain⟨d,hd⟩:∃d,t-n=d:=⟨_,rfl⟩;have ab:c.at t=c.f*n+c.r*d:=by unfold Jy.at;rw[hn,hd]
   have ak:=c.at_le u t HT.o;rw[hn,hd]at ak;have ht:=HT.o;have aw:=u.hf;have ax:=u.hr;have ay:=u.hl;have M1:=λw'=>Dw c.f n w' (by omega) (by omega);have M2:=λw'=>Dw c.r d w' (by omega) (by omega);have J:=λw'=>Qea (c.f*n) (c.r*d) w' (by omega);have U:=λw'=>Qea (Jy.sum (l.take k) t) (c.f*n+c.r*d) w' (by omega);rw[<-HV.o.1,<-HV.o.2]at U;rw[<-ab,<-hs]at U;have z:IntKind.u64.wrap ((t:Int)-(n:Int))=(d:Int):=by rw[Fj _ (by omega) (by omega)];omega
   have HN:=O hn;clear hn ak aw ax ay hs a4 a5 az a0 hd;obtain⟨r1,ac⟩:∃r1,((Jy.sum (l.take (k+1)) t/18446744073709551616:Nat):Int)=r1:=⟨_,rfl⟩;obtain⟨r2,ae⟩:∃r2,((Jy.sum (l.take (k+1)) t%18446744073709551616:Nat):Int)=r2:=⟨_,rfl⟩;rw[ac,ae]at U;rw[ab]at U;have aq:=O (Zt ac.symm ae.symm);clear ac ae ab;generalize((c.f*n/18446744073709551616:Nat):Int)=x1 at M1 J;generalize((c.f*n%18446744073709551616:Nat):Int)=x2 at M1 J;generalize((c.r*d/18446744073709551616:Nat):Int)=y1 at M2 J;generalize((c.r*d%18446744073709551616:Nat):Int)=y2 at M2 J;generalize(((c.f*n+c.r*d)/18446744073709551616:Nat):Int)=z1 at J U;generalize(((c.f*n+c.r*d)%18446744073709551616:Nat):Int)=z2 at J U;have am:=O M1;have an:=O M2;have ao:=O J;have ap:=O U;have ai:=O z;have HB:=O (Zt B V);have a8:=O u;have G0:∀x,Qc Qb (wr.alloc (.cells #[.int .u64 c.f,.int .u64 c.l,.int .u64 c.r] 27)) (Qz Qb (wr.alloc (.cells #[.int .u64 c.f,.int .u64 c.l,.int .u64 c.r] 27)) x):=λx=>Qv _ _ _;have g1:=λx=>(λh=>((h.blk (B.alloc _) (λh=>h))).cell 0) (G0 x);have g2:=λx=>(λh=>((h.blk (B.alloc _) (λh=>h))).cell 1) (G0 x);have g3:=λx=>(λh=>((h.blk (Qh.new wr #[.int .u64 c.f,.int .u64 c.l,.int .u64 c.r] 27) (λh=>h))).cell 0) (G0 x);have g4:=λx=>(λh=>((h.blk (Qh.new wr #[.int .u64 c.f,.int .u64 c.l,.int .u64 c.r] 27) (λh=>h))).cell 1) (G0 x);have g5:=λx=>(λh=>((h.blk (Qh.new wr #[.int .u64 c.f,.int .u64 c.l,.int .u64 c.r] 27) (λh=>h))).cell 2) (G0 x);have I:=O (λ(w')(h:Qc Qb (wr.alloc (.cells #[.int .u64 c.f,.int .u64 c.l,.int .u64 c.r] 27)) w')=>Zt (((h.blk (B.alloc _) (λh=>h))).frozen 0) (Zt (((h.blk (B.alloc _) (λh=>h))).frozen 1) (Zt (((h.blk (B.alloc _) (λh=>h))).cell 0) (((h.blk (B.alloc _) (λh=>h))).cell 1))));simp at g1 g2 g3 g4 g5 I;have bb:=B.lt;clear B V u Z E hj M1 M2 J U z ht;go_upto_region 5 with(fail);go_cut [8] (λs8 wx=>s8=.int .u64 n/\wx=wr.alloc (.cells #[.int .u64 c.f,.int .u64 c.l,.int .u64 c.r] 27))
   case first=>
    go_wp2;all_goals go_meet
    all_goals exact⟨by rw[<-HN.o];congr 1;omega,rfl⟩
   case rest=>
    obtain⟨rfl,rfl⟩:=hcut;go_wp2;have z:=ai.o;refine Qu [3,7,8] [0,1,2,5,6,9] [4,10,11,12] [13] (Qz (Qb) (wr.alloc (.cells #[.int .u64 c.f,.int .u64 c.l,.int .u64 c.r] 27))) Zq (by kernel_rfl) (λ_ _ _ _ _ h=>h) (Qd Z0) ?_;simp only[pick,Zf,Ze,Zd];iterate 3 (refine Ql (λK hK=>?_);go_simp;refine hK _ ?_;clear hK K)
    refine Qg ?_;iterate 6 (refine Ql (λK hK=>?_);go_simp;refine hK _ ?_;clear hK K)
    refine Qg ?_;intro _ a6;obtain⟨xo,al⟩:=a6;subst al;simp only[Jd];have c3:=Qv Qb (wr.alloc (.cells #[.int .u64 c.f,.int .u64 c.l,.int .u64 c.r] 27)) xo;generalize Qz Qb (wr.alloc (.cells #[.int .u64 c.f,.int .u64 c.l,.int .u64 c.r] 27)) xo=w3 at c3|-;clear g1 g2 g3 g4 g5 z;go_wp2_with fail;apply Zz (am.o _);intro w4 d4;have c4:=c3.aA d4;clear d4 c3;go_wp2;refine⟨Qd c4,?_⟩;go_wp2_with fail;apply Zz (an.o _);intro w5 d5;have c5:=c4.aA d5;clear d5 c4;go_wp2;refine⟨Qd c5,?_⟩;go_wp2_with fail;apply Zz (ao.o _);intro w6 d6;have c6:=c5.aA d6;clear d6 c5;go_wp2;refine⟨Qd c6,?_⟩;go_wp2_with fail;apply Zz (ap.o _);intro w7 d7;have c7:=c6.aA d7;clear d7 c6;go_wp2;refine⟨Qd c7,?_⟩;have K7:=I.o _ c7;have f1:=K7;have C7:=O c7;clear c7;go_wp2;go_roundw
    case rel=>
     refine⟨k+1,r1,r2,by omega,by go_num,?_,?_,aq⟩;·exact((C7.o.blk (HB.o.1.alloc _) (λh=>h)).set 0 _).set 1 _
     .have h7:=(((Zg Qb wr).alloc _).aA C7.o);have h8:=HB.o.2.trans h7 (λk h=>h.elim);(exact Z0)
    case measure=>simp[intOf];omega
  .obtain rfl:k=l.length:=by omega
   rw[List.take_length]at HV;have c0:=B.cell 0;have c1:=B.cell 1;have q:=V.blk B0.o (by omega);have ql:=q.lt;have q0:=q.cell 0;have q1:=q.cell 1;have qf:=q.frozen;simp at c0 c1 q0 q1;have HB:=O (Zt B V);clear B V q;go_wp2;refine bodyPost_ret (v:=.agg #[.int .u64 hi,.int .u64 lo]) (by simp[results,Tryz.results262,go_sem,q0,q1]) rfl ⟨by rw[HV.o.1,HV.o.2],?_⟩;have c1:=(((((Zg Qb w).alloc _).alloc _).aA ag.o)).trans HB.o.2 (λk hk=>.inr (by have ba:k=w.heap.size+1:=hk;omega));(exact Z0)
end Go.Proofs.YtigcnnkagkbflaaGreat
