/- A part of the proof: no condition. -/
import Derived.Test.YtigcnnkagkbflaaGreatYq08
import Derived.Maps.OwnOps
import Derived.Maps.OwnSet
import Derived.Laws.EntriesVeiled
import Derived.Test.YtigcnnkagkbflaaGreatYq05
import Derived.Test.YtigcnnkagkbflaaGreatYq09
namespace Go.Proofs.YtigcnnkagkbflaaGreat
set_option linter.unusedVariables false
set_option maxRecDepth 100000
set_option maxHeartbeats 4000000
open Go.RowKit
open Go.Proofs.Tryz
attribute [local go_sem] Qp
section
theorem Qvz:Qce prog Jy.cells 3 332 27 24 Jy.zero where
 ht:=underlying332
 hi:=Ee (by kernel_rfl)
 pos:=by decide
 hc:=Jy.aF
 one:=by intro p u c;simp only[Jy.cells,Zu,List.not_mem_nil,or_false]at c;rcases c with rfl|rfl|rfl<;>rfl
theorem Qle{w}{g:Nat}(h:Qh w g #[] 27):Own Jy.cells 3 27 w (.slice (some ⟨g,0,none⟩) 0 0) ([]:List Jy):=
 ⟨by simp[Jm],.inr ⟨g,0,#[],rfl,Nat.zero_le _,h,Zv _,Nat.zero_le _,by simp,by simp[Jm]⟩⟩
theorem Wh:prog.eqGuardType prog.depth 332=false:=by kernel_rfl
theorem Qfx:prog.stoodInHeld 332=false:=by kernel_rfl
attribute [local go_sem] Wh Qfx
theorem Qi7(l:List Jy)(ad:Addr)(cap:Nat)(w)(d:Kb Jy.cells 3 w (some ad) l)(Z:l.length<=1000)(J:l≠[]):
  Cl 282 #[.slice (some ad) l.length cap] w λe w'=>∃v,e=.returned v/\Own Jy.cells 3 27 w' v l/\Qc Qb w w'/\∀k,v.ownBlock=some k->w.heap.size<=k:=by
 have R:=O (Zt d J);clear d J;apply WH func282;have K:=λ(W)=>Lib.run_eql_slice_nil (P:=prog) W 332 27 (some ad) l.length cap 0 0 underlying332;go_wp2_with (at_builtin;refine Jj Qvz rfl (.tmp 5) (.tmp 6) rfl _ ([]:List Jy) rfl (Qle (Qh.new' _ _ (by simp))) _ _ l rfl ?a2 ?a3 ?a4 ?a5 ?a6);case a2=>intro h;cases h
 case a3=>exact R.o.1.aB ((Zg Qb w).alloc _) (λ_ _ h=>h)
 case a4=>simp[maxLen];omega
 case a5=>simp;omega
 case a6=>
  intro V w1 c q u;have E:Qc Qb w w1:=((Zg Qb w).alloc (.cells #[] 27)).trans q λj U=>.inr (by simp[Value.ownBlock]at U;omega);have I:∀k,V.ownBlock=some k->w.heap.size<=k:=by
   intro k z;rcases u with h|h;·rw[h]at z;simp[Value.ownBlock]at z;omega
   .rw[h]at z;have:=Zs z;have hz:(w.alloc (.cells #[] 27)).heap.size=w.heap.size+1:=by simp
    omega
  have B:=O (Zt c (Zt E I));clear c E I q u;go_wp2;go_ret;exact⟨_,rfl,B.o.1,B.o.2.1,B.o.2.2⟩
theorem Qp4(c:Jy)(w):
  ZW 283 #[.agg #[.int .u64 c.f,.int .u64 c.l,.int .u64 c.r]] w (.bool (!decide c.May)) λw'=>Qc Qb w w':=by
 have M:=O (λw=>K8 c w);generalize decide c.May=d at M|-;apply WH func283;go_wp2_with fail;apply Z9 (M.o _) (λ_ k=>((Zg Qb w).alloc (.cells #[.int .u64 c.f,.int .u64 c.l,.int .u64 c.r] 27)).aA k);intro w1 q;exact WD q
theorem Qp5(c:Jy)(k:c.May)(w w')(h':Qc Qb w w'):
  ZW 283 #[.agg #[.int .u64 c.f,.int .u64 c.l,.int .u64 c.r]] w' (.bool false) λd=>Qc Qb w d:=
 (Qp4 c w').mono λe d h=>⟨by rw[h.1,Px k];rfl,h'.aA h.2⟩
theorem Qfv(l:List Jy)(a:Option Addr)(cap:Nat)(w)(z:Kb Jy.cells 3 w a l)(hl:l.length<=1000)(B:∀c∈l,c.May):
  ZW 289 #[.slice a l.length cap,.func (.func 283) #[] #[]] w (.int .i64 (-1)) λw'=>Qc Qb w w':=by
 have J:=O (Zt z B);clear z B;have E:=O (λc(q:c.May)w'(h':Qc Qb w w')=>Qp5 c q w w' h');apply WH func289;go_wp2;go_loopw [5,8] (λ_ i wr=>∃k:Nat,k<=l.length/\i=.int .i64 k/\Qc Qb w wr) (λ_ i _=>l.length-(intOf i).toNat);case atStart=>exact⟨0,by omega,rfl,Zg _ _⟩
 case round=>
  obtain⟨k,hk,rfl,q⟩:=hrel;rename_i wr;by_cases Xg:k<l.length
  .obtain⟨g,o,rfl,K⟩:=J.o.1 k Xg;have d:∀j u,(Jy.cells l[k])[j]? =some u->wr.cell? ⟨g,o+k*3+j,none⟩=some u:=λj u Z=>q.same (K j u Z);have B:=J.o.2 l[k] (List.getElem_mem Xg);generalize l[k]=c at d B;have V:=d 0 _ rfl;have e1:=d 1 _ rfl;have e2:=d 2 _ rfl;simp only[Nat.add_zero]at V;have R:=O (E.o c B wr q);clear K d;have k0:(0:Int)<=(k:Int):=by omega
   have k1:(k:Int)<(l.length:Int):=by omega
   have I:=O q;clear q B;go_wp2_with fail;apply Zy R;intro w2 U;go_wp2;go_roundw;case rel=>exact⟨k+1,by omega,by go_num,U⟩
   case measure=>simp[intOf];omega
  .have I:=O q;clear q;exact WD I
end
theorem Qcn(l:List Jy)(a:Option Addr)(cap:Nat)(w)(d:Kb Jy.cells 3 w a l)(u:l.length<=1000)(q:∀c∈l,c.May):
  ZW 281 #[.slice a l.length cap,.func (.func 283) #[] #[]] w (.slice a l.length cap) λw'=>Qc Qb w w':=by
 have I:=O (Qfv l a cap w d u q);clear d q;apply WH func281;go_wp2_with fail;apply ZQ I;intro w1 C;exact WD C
theorem Ih(l:List Jy)(ad:Addr)(cap:Nat)(w)(q:Kb Jy.cells 3 w (some ad) l)(hl:l.length<=1000)(U:l≠[])(hm:∀c∈l,c.May):
  Cl 272 #[.slice (some ad) l.length cap] w λe w'=>∃v,e=.returned v/\Own Jy.cells 3 27 w' v l/\Qc Qb w w'/\∀k,v.ownBlock=some k->w.heap.size<=k:=by
 have C:=O (Qi7 l ad cap w q hl U);have D:=O (λa cap w(h:Kb Jy.cells 3 w a l)=>Qcn l a cap w h hl hm);clear q U hm;apply WH func272;go_wp2_with fail;apply Zo C;rintro e w1⟨v,rfl,B,V,Z⟩;have R:=B.row Jy.aF;obtain⟨a1,u,rfl,E,I,d⟩:=R;have DD:=O (D.o a1 u w1 d);have z:=O (Zt B (Zt V Z));clear B V Z d I E;go_wp2_with fail;apply ZQ DD;intro w2 J;go_wp2;go_ret;exact⟨_,rfl,z.o.1.aB J.o (λ_ _ h=>h),z.o.2.1.aA J.o,z.o.2.2⟩
theorem Qea(m n:Nat)(w)(h:m+n<340282366920938463463374607431768211456):
  Cl 275 #[.agg #[.int .u64 ((m/18446744073709551616:Nat):Int),.int .u64 ((m%18446744073709551616:Nat):Int)],.agg #[.int .u64 ((n/18446744073709551616:Nat):Int),.int .u64 ((n%18446744073709551616:Nat):Int)]] w
   λe w'=>e=.returned (.agg #[.int .u64 (((m+n)/18446744073709551616:Nat):Int),.int .u64 (((m+n)%18446744073709551616:Nat):Int)])/\Qc Qb w w':=by
 have P:=O (λw=>Fg m n w h);clear h;generalize(((m+n)/18446744073709551616:Nat):Int)=K at P|-;generalize(((m+n)%18446744073709551616:Nat):Int)=R at P|-;generalize((m/18446744073709551616:Nat):Int)=u at P|-;generalize((m%18446744073709551616:Nat):Int)=z at P|-;generalize((n/18446744073709551616:Nat):Int)=B at P|-;generalize((n%18446744073709551616:Nat):Int)=E at P|-;apply WH func275;go_wp2_with fail;apply Zz (P.o _);intro w1 c;have q:=c.blk (Qh.new' (w:=(w.alloc (.cells #[.int .u64 u,.int .u64 z] 334)).alloc (.cells #[.int .u64 B,.int .u64 E] 334)) (n:=w.heap.size+1+1) #[.int .u64 0,.int .u64 0] 334 (by simp)) (λh=>h);have I:=O (((((Zg Qb w).alloc (.cells #[.int .u64 u,.int .u64 z] 334)).alloc (.cells #[.int .u64 B,.int .u64 E] 334)).alloc (.cells #[.int .u64 0,.int .u64 0] 334)).aA c);have J:=q.lt;have d:=q.cell 0;have k:=q.cell 1;have U:=q.frozen;simp at d k;clear q c;go_wp2;refine bodyPost_ret (v:=.agg #[.int .u64 K,.int .u64 R]) (by simp[results,Tryz.results275,go_sem,d,k,J]) rfl ⟨rfl,?_⟩;have c:=I.o;(exact Z0)
def Jy.sum(l:List Jy)(t:Nat):Nat:=(l.map λc=>c.at t).sum
theorem Jy.sum_succ(l:List Jy)(t k:Nat)(h:k<l.length):Jy.sum (l.take (k+1)) t=Jy.sum (l.take k) t+l[k].at t:=by simp only[Jy.sum,List.take_succ_eq_append_getElem h,List.map_append,List.sum_append];simp
theorem Jy.sum_le(l:List Jy)(t:Nat)(q:t<18446744073709551616)(d:∀c∈l,c.May):Jy.sum l t<=l.length*38685626227668133590597632:=by
 induction l with
 |nil=>simp[Jy.sum]
 |cons c l u=>
  have z:=u (λc k=>d c (by simp[k]));have B:=c.at_le (d c (by simp)) t q;have E:c.at t<=38685626227668133590597632:=by unfold Jy.at;omega
  simp only[Jy.sum,List.map_cons,List.sum_cons,Zm]at*;omega
theorem Qnq(l:List Jy)(ad:Addr)(cap:Nat)(t:Nat)(w)(aa:Kb Jy.cells 3 w (some ad) l)(hl:l.length<=1000)(h0:l≠[])(hm:∀c∈l,c.May)(ht:t<18446744073709551616):
  ZW 262 #[.slice (some ad) l.length cap,.int .u64 t] w (.agg #[.int .u64 ((Jy.sum l t/18446744073709551616:Nat):Int),.int .u64 ((Jy.sum l t%18446744073709551616:Nat):Int)]) λw'=>Qc Qb w w':=by
 have M:=O (λw'(c:Qc Qb w w')=>Ih l ad cap w' (aa.aB c (λ_ _ h=>h)) hl h0 hm);have HM:=O hm;have ah:=O (λk(h:k<=l.length)=>Jy.sum_le (l.take k) t ht (λc V=>hm c (List.mem_of_mem_take V)));have HT:=O ht;clear aa h0 hm;apply WH func262;go_wp2_with fail;refine(M.o _ Z0).mono ?_;rintro e w1⟨v,rfl,h1,h2,h3⟩;have R:=h1.row Jy.aF;obtain⟨a1,aj,rfl,av,a3,af⟩:=R;have ag:=O h2;have B1:=O (h2.blk (Qh.new' (w:=w.alloc (.cells #[.int .u64 0,.int .u64 0] 334)) (n:=w.heap.size+1) #[.int .u64 0,.int .u64 0] 334 (by simp)) (λh=>h));have HR:=O (Zt h1 h3);clear h1 h2 h3 af a3 av;have B0:=O (ag.o.blk ((Qh.new w #[.int .u64 0,.int .u64 0] 334).alloc (.cells #[.int .u64 0,.int .u64 0] 334)) (λh=>h));go_wp2;go_loopw [7,8,12] (λ_ _ i wr=>∃(k:Nat)(hi lo:Int),k<=l.length/\i=.int .i64 k/\Qh wr (w.heap.size+1) #[.int .u64 hi,.int .u64 lo] 334/\Qc (λb=>b=w.heap.size+1) w1 wr/\Hi (hi=((Jy.sum (l.take k) t/18446744073709551616:Nat):Int)/\lo=((Jy.sum (l.take k) t%18446744073709551616:Nat):Int))) (λ_ _ i _=>l.length-(intOf i).toNat);case atStart=>exact⟨0,0,0,by omega,rfl,B1.o,Zg _ _,O ⟨by simp[Jy.sum],by simp[Jy.sum]⟩⟩
 case round=>
  obtain⟨k,hi,lo,hk,rfl,B,V,HV⟩:=hrel;rename_i wr;by_cases Xg:k<l.length
  .have Z:Own Jy.cells 3 27 wr (.slice a1 l.length aj) l:=HR.o.1.aB V (λj hj e=>by have:=HR.o.2 j hj;simp at this;omega);obtain⟨a2,a7,e2,_,_,E⟩:=Z.row Jy.aF;injection e2 with ar a9 au;subst ar au;obtain⟨g,o,rfl,hj⟩:=E k Xg;have u:=HM.o l[k] (List.getElem_mem Xg);have hs:=Jy.sum_succ l t k Xg;have a4:=ah.o k hk;have a5:=ah.o (k+1) Xg;have az:(l.take k).length<=1000:=by rw[List.length_take];omega
   have a0:(l.take (k+1)).length<=1000:=by rw[List.length_take];omega
   generalize l[k]=c at hj u hs;have e0:=hj 0 _ rfl;have e1:=hj 1 _ rfl;have e2:=hj 2 _ rfl;simp only[Nat.add_zero]at e0;have k0:(0:Int)<=(k:Int):=by omega
   have k1:(k:Int)<(l.length:Int):=by omega
   obtain⟨n,hn⟩:∃n,min t c.l=n:=⟨_,rfl⟩;obtain⟨d,hd⟩:∃d,t-n=d:=⟨_,rfl⟩;have ab:c.at t=c.f*n+c.r*d:=by unfold Jy.at;rw[hn,hd]
   have ak:=c.at_le u t HT.o;rw[hn,hd]at ak;have ht:=HT.o;have aw:=u.hf;have ax:=u.hr;have ay:=u.hl;have M1:=λw'=>Dw c.f n w' (by omega) (by omega);have M2:=λw'=>Dw c.r d w' (by omega) (by omega);have J:=λw'=>Qea (c.f*n) (c.r*d) w' (by omega);have U:=λw'=>Qea (Jy.sum (l.take k) t) (c.f*n+c.r*d) w' (by omega);rw[<-HV.o.1,<-HV.o.2]at U;rw[<-ab,<-hs]at U;have z:IntKind.u64.wrap ((t:Int)-(n:Int))=(d:Int):=by rw[Fj _ (by omega) (by omega)];omega
   have HN:=O hn;clear hn ak aw ax ay hs a4 a5 az a0 hd;obtain⟨r1,ac⟩:∃r1,((Jy.sum (l.take (k+1)) t/18446744073709551616:Nat):Int)=r1:=⟨_,rfl⟩;obtain⟨r2,ae⟩:∃r2,((Jy.sum (l.take (k+1)) t%18446744073709551616:Nat):Int)=r2:=⟨_,rfl⟩;rw[ac,ae]at U;rw[ab]at U;have aq:=O (Zt ac.symm ae.symm);clear ac ae ab;generalize((c.f*n/18446744073709551616:Nat):Int)=x1 at M1 J;generalize((c.f*n%18446744073709551616:Nat):Int)=x2 at M1 J;generalize((c.r*d/18446744073709551616:Nat):Int)=y1 at M2 J;generalize((c.r*d%18446744073709551616:Nat):Int)=y2 at M2 J;generalize(((c.f*n+c.r*d)/18446744073709551616:Nat):Int)=z1 at J U;generalize(((c.f*n+c.r*d)%18446744073709551616:Nat):Int)=z2 at J U;have am:=O M1;have an:=O M2;have ao:=O J;have ap:=O U;have ai:=O z;have HB:=O (Zt B V);have a8:=O u;have G0:∀x,Qc Qb (wr.alloc (.cells #[.int .u64 c.f,.int .u64 c.l,.int .u64 c.r] 27)) (Qz Qb (wr.alloc (.cells #[.int .u64 c.f,.int .u64 c.l,.int .u64 c.r] 27)) x):=λx=>Qv _ _ _;have g1:=λx=>(λh=>((h.blk (B.alloc _) (λh=>h))).cell 0) (G0 x);have g2:=λx=>(λh=>((h.blk (B.alloc _) (λh=>h))).cell 1) (G0 x);have g3:=λx=>(λh=>((h.blk (Qh.new wr #[.int .u64 c.f,.int .u64 c.l,.int .u64 c.r] 27) (λh=>h))).cell 0) (G0 x);have g4:=λx=>(λh=>((h.blk (Qh.new wr #[.int .u64 c.f,.int .u64 c.l,.int .u64 c.r] 27) (λh=>h))).cell 1) (G0 x);have g5:=λx=>(λh=>((h.blk (Qh.new wr #[.int .u64 c.f,.int .u64 c.l,.int .u64 c.r] 27) (λh=>h))).cell 2) (G0 x);have I:=O (λ(w')(h:Qc Qb (wr.alloc (.cells #[.int .u64 c.f,.int .u64 c.l,.int .u64 c.r] 27)) w')=>Zt (((h.blk (B.alloc _) (λh=>h))).frozen 0) (Zt (((h.blk (B.alloc _) (λh=>h))).frozen 1) (Zt (((h.blk (B.alloc _) (λh=>h))).cell 0) (((h.blk (B.alloc _) (λh=>h))).cell 1))));simp at g1 g2 g3 g4 g5 I;have bb:=B.lt;clear B V u Z E hj M1 M2 J U z ht;go_upto_region 5 with(fail);go_cut [8] (λs8 wx=>s8=.int .u64 n/\wx=wr.alloc (.cells #[.int .u64 c.f,.int .u64 c.l,.int .u64 c.r] 27))
   case first=>
    go_wp2;all_goals go_meet
    all_goals exact⟨by rw[<-HN.o];congr 1;omega,rfl⟩
   case rest=>
    obtain⟨rfl,rfl⟩:=hcut;go_wp2;have z:=ai.o;refine Qu [3,7,8] [0,1,2,5,6,9] [4,10,11,12] [13] (Qz (Qb) (wr.alloc (.cells #[.int .u64 c.f,.int .u64 c.l,.int .u64 c.r] 27))) Zq (by kernel_rfl) (λ_ _ _ _ _ h=>h) (Qd Z0) ?_;simp only[pick,Zf,Ze,Zd];iterate 3 (refine Ql (λK hK=>?_);go_simp;refine hK _ ?_;clear hK K)
    refine Qg ?_;iterate 6 (refine Ql (λK hK=>?_);go_simp;refine hK _ ?_;clear hK K)
    refine Qg ?_;intro _ a6;obtain⟨xo,al⟩:=a6;subst al;simp only[Jd];have c3:=Qv Qb (wr.alloc (.cells #[.int .u64 c.f,.int .u64 c.l,.int .u64 c.r] 27)) xo;generalize Qz Qb (wr.alloc (.cells #[.int .u64 c.f,.int .u64 c.l,.int .u64 c.r] 27)) xo=w3 at c3|-;clear g1 g2 g3 g4 g5 z;go_wp2_with fail;apply Zz (am.o _);intro w4 d4;have c4:=c3.aA d4;clear d4 c3;go_wp2;refine⟨Qd c4,?_⟩;go_wp2_with fail;apply Zz (an.o _);intro w5 d5;have c5:=c4.aA d5;clear d5 c4;go_wp2;refine⟨Qd c5,?_⟩;go_wp2_with fail;apply Zz (ao.o _);intro w6 d6;have c6:=c5.aA d6;clear d6 c5;go_wp2;refine⟨Qd c6,?_⟩;go_wp2_with fail;apply Zz (ap.o _);intro w7 d7;have c7:=c6.aA d7;clear d7 c6;go_wp2;refine⟨Qd c7,?_⟩;have K7:=I.o _ c7;have f1:=K7;have C7:=O c7;clear c7;go_wp2;go_roundw
    case rel=>
     refine⟨k+1,r1,r2,by omega,by go_num,?_,?_,aq⟩;·exact((C7.o.blk (HB.o.1.alloc _) (λh=>h)).set 0 _).set 1 _
     .have h7:=(((Zg Qb wr).alloc _).aA C7.o);have h8:=HB.o.2.trans h7 (λk h=>h.elim);(exact Z0)
    case measure=>simp[intOf];omega
  .obtain rfl:k=l.length:=by omega
   rw[List.take_length]at HV;have c0:=B.cell 0;have c1:=B.cell 1;have q:=V.blk B0.o (by omega);have ql:=q.lt;have q0:=q.cell 0;have q1:=q.cell 1;have qf:=q.frozen;simp at c0 c1 q0 q1;have HB:=O (Zt B V);clear B V q;go_wp2;refine bodyPost_ret (v:=.agg #[.int .u64 hi,.int .u64 lo]) (by simp[results,Tryz.results262,go_sem,q0,q1]) rfl ⟨by rw[HV.o.1,HV.o.2],?_⟩;have c1:=(((((Zg Qb w).alloc _).alloc _).aA ag.o)).trans HB.o.2 (λk hk=>.inr (by have ba:k=w.heap.size+1:=hk;omega));(exact Z0)
section
open Go.Maps Go.Shelf
theorem Quh(w):(zeroValue 3).run prog w=.ok (.int .i64 0) w:=by kernel_rfl
theorem Qu7(n:Nat)(h:n<18446744073709551616):(Lit.int .u64 n).wf=true:=by
 have c:IntKind.u64.min=0:=by kernel_rfl
 have d:IntKind.u64.max=18446744073709551615:=by kernel_rfl
 simp[Lit.wf,c,d];omega
theorem Qui(n:Nat)(h:n<18446744073709551616):keyOf prog 22 (.int .u64 n)=some (.int .u64 n):=keyOf_int_mk underlying22 (Qu7 n h)
theorem World.ownsMap.kept'{H:Type}{P:Program}{k:TypeId}{R:Value->Option (DataW H×List MemPlace)}{w w':World}{b n:Nat}{D:DataW H}{S:Nat->Prop}(h:w.ownsMap P k R b n D)(I:Qc S w w')(B:¬S b:=by exact λh=>h):w'.ownsMap P k R b n D:=by have d:=h.lt;obtain⟨u,c,E,q,J,z⟩:=h;exact⟨u,c,(I.block b d B).trans E,q,J,z⟩
def Iw{H:Type}(l:List Jy)(D:DataW H):Prop:=∀x:Int,has D (.int .u64 x)=true↔∃c∈l,x=(c.l:Int)
theorem Iw.put{H:Type}{l:List Jy}{D:DataW H}(h:Iw l D)(u:IsMap D)(c:Jy)(q:WideAt.IsKeyLit (.int .u64 c.l))(d:DataW H):Iw (l++[c]) (D.put (.int .u64 c.l) d):=by
 intro x;by_cases k:x=(c.l:Int);·subst k;rw[has_put_same u q];simp
 .rw[has_put_other (by simpa using k),h x];simp[k]
theorem u64T:Qce prog (λx:Int=>[Value.int .u64 x]) 1 296 22 8 0 where
 ht:=underlying296
 hi:=Ee (by kernel_rfl)
 pos:=by decide
 hc:=λ_=>rfl
 one:=by intro p u c;simp only[Zu,List.not_mem_nil,or_false]at c;subst c;rfl
theorem Qvl(l:List Int):Jm (λx:Int=>[Value.int .u64 x]) l=l.map (Value.int .u64):=by
 induction l with
 |nil=>rfl
 |cons x l c=>rw[V8,c];rfl
theorem Qia{w:World}{base:Nat}{v:Value}{l:List Int}(h:w.ownsRow base 22 1 v l.length (l.map (Value.int .u64))):Own (λx:Int=>[Value.int .u64 x]) 1 22 w v l:=by
 unfold Own;rw[Qvl];obtain⟨d,h⟩:=h;refine⟨d,?_⟩;rcases h with h|⟨g,cap,c,e,k,r⟩;·exact .inl h
 .exact .inr ⟨g,cap,c,e,Nat.zero_le _,r⟩
theorem Qr9{w}{g:Nat}(h:Qh w g #[.int .u64 0] 22):Own (λx:Int=>[Value.int .u64 x]) 1 22 w (.slice (some ⟨g,0,none⟩) 1 1) [0]:=
 ⟨by rfl,.inr ⟨g,1,#[.int .u64 0],rfl,Nat.zero_le _,h,Zv _,by simp[maxLen],by simp,by simp[Jm]⟩⟩
theorem Qu1{p q:Int}:∀c:List Int,c.Nodup->(∀x∈c,x=p\/x=q)->c.length<=2
 |[],_,_=>by simp
 |[x],_,_=>by simp
 |[x,y],_,_=>by simp
 |x::y::z::r,hn,hm=>by have d:=hm x (by simp);have k:=hm y (by simp);have u:=hm z (by simp);simp only[List.nodup_cons,Zu,not_or]at hn;obtain⟨⟨B,E,_⟩,⟨I,_⟩,_⟩:=hn;omega
theorem Qfn(a b:Jy)(ad:Addr)(cap:Nat)(w)(aa:Kb Jy.cells 3 w (some ad) [a,b])(ha:a.May)(hb:b.May):
  Cl 261 #[.slice (some ad) 2 cap] w λe w'=>∃(v:Value)(ts:List Int),e=.returned v/\Own (λx:Int=>[Value.int .u64 x]) 1 22 w' v ts/\ts.length<=3/\(∀x,x∈ts↔x=0\/x=a.l\/x=b.l)/\Qc Qb w w':=by
 have ac:∀c∈[a,b],c.May:=by intro c U;simp at U;rcases U with rfl|rfl<;>assumption
 have M:=O (λw'(c:Qc Qb w w')=>Ih [a,b] ad cap w' (aa.aB c (λ_ _ h=>h)) (by simp) (by simp) ac);obtain⟨l,hl⟩:∃l,[a,b]=l:=⟨_,rfl⟩;have ab:l.length=2:=by rw[<-hl];rfl
 have aj:=O ac;rw[hl]at aj M;rw[ab]at M;have HL:=O hl;clear aa ac hl;have a4:=λ(w)=>run_makeMap (P:=prog) 346 w;apply WH func261;go_wp2_with fail;refine(M.o _ Z0).mono ?_;rintro e w1⟨v,rfl,K,h2,h3⟩;have R:=K.row Jy.aF;obtain⟨a1,ak,rfl,az,a5,ag⟩:=R;rw[ab];have af:w1.ownsMap prog 22 (plainElem (H:=Unit) prog 3) w.heap.size 0 (.map []):=World.ownsMap.kept' (World.ownsMap_made w prog 22 _) h2;have ai:=O h2;have HR:=O (Zt K (Zt h3 af));clear K h2 h3 ag a5 az a4;go_wp2;go_loopw [5,10] (λ_ i wr=>∃(k n:Nat)(D:DataW Unit),k<=2/\i=.int .i64 k/\n<=k/\wr.ownsMap prog 22 (plainElem prog 3) w.heap.size n D/\Iw (l.take k) D/\Qc (λb=>b=w.heap.size) w1 wr) (λ_ i _=>2-(intOf i).toNat);case atStart=>exact⟨0,0,.map [],by omega,rfl,by omega,HR.o.2.2,λx=>by simp[has],Zg _ _⟩
 case round=>
  obtain⟨k,n,D,V,rfl,hn,hm,hD,U⟩:=hrel;rename_i wr;by_cases Xg:k<2
  .have u:k<l.length:=by omega
   have Z:Own Jy.cells 3 27 wr (.slice a1 l.length ak) l:=HR.o.1.aB U (λj hj e=>by have:=HR.o.2.1 j hj;simp at this;omega);obtain⟨a2,a7,e2,_,_,B⟩:=Z.row Jy.aF;injection e2 with ax a9 ay;subst ax ay;obtain⟨g,o,rfl,hj⟩:=B k u;have ae:=aj.o l[k] (List.getElem_mem u);have ah:l.take (k+1)=l.take k++[l[k]]:=List.take_succ_eq_append_getElem u;generalize l[k]=c at hj ae ah;have e0:=hj 0 _ rfl;have e1:=hj 1 _ rfl;have e2:=hj 2 _ rfl;simp only[Nat.add_zero]at e0;have k0:(0:Int)<=(k:Int):=by omega
   have k1:(k:Int)<2:=by omega
   have d:=Qui c.l (by have:=ae.hl;omega);have I:=O (Zt hm (Zt hD (Zt U ah)));clear hm hD U ae Z B hj ah;go_wp2_with (first
    |(at_lookup;refine wpList_lookup_own_int _ rfl (.tmp 14) (.tmp 16) 346 rfl 22 3 .i64 law64 underlying346 underlying3 (Quh _) _ n D rfl (I.o.1.alloc _) _ _ rfl d ?_;intro cc ba bb)
    |(at_mapUpdate;refine wpList_mapUpdate_own _ rfl (.tmp 14) (.tmp 16) (.tmp 18) 346 rfl 22 3 law64 underlying346 (plainElem prog 3) _ n D rfl (I.o.1.alloc _) (by simp[maxLen];omega) _ _ _ rfl rfl d _ [] (plainElem_int underlying3 (Go.RowKit.wrap64_wf _)) ?_;intro w5 aq ap))
   have d5:=((Zg Qb wr).alloc (.cells #[.int .u64 c.f,.int .u64 c.l,.int .u64 c.r] 27)).mono (S':=λb=>b=w.heap.size) (λk h=>h.elim);have c5:=I.o.2.2.1.aA (d5.grown ap (λk V=>.inl (by simpa using V.symm)));have l5:=I.o.2.1.put I.o.1.isMap c (law64.key d) (.lit (.int .i64 (Go.RowKit.wrap64 (cc+1))));rw[<-I.o.2.2.2]at l5;have H5:=O (Zt aq (Zt l5 c5));clear aq ap d5 c5 l5;go_wp2;go_roundw;case rel=>exact⟨k+1,n+1,_,by omega,by go_num,by omega,H5.o.1,H5.o.2.1,H5.o.2.2⟩
   case measure=>simp[intOf];omega
  .obtain rfl:k=2:=by omega
   have I:=O (Zt hm (Zt hD U));clear hm hD U;go_wp2_with (at_delete;refine wpList_delete_own _ rfl (.tmp 20) (.const (.int .u64 0)) 346 22 rfl 3 law64 underlying346 (plainElem prog 3) _ n D rfl I.o.1 _ _ rfl (Qui 0 (by decide)) ?_;intro J ar aw);have c6:=(I.o.2.2.grown aw.grown (λk V=>.inl (by simpa using V.symm)));have am:∀x:Int,has (D.del (.int .u64 ((0:Nat):Int))) (.int .u64 x)=true↔x≠0/\(x=(a.l:Int)\/x=(b.l:Int)):=by
    intro x;have an:=I.o.2.1 x;rw[<-ab,List.take_length,<-HL.o]at an;by_cases hx:x=0;·subst hx;rw[show(Lit.int .u64 ((0:Nat):Int))=.int .u64 0 from rfl,has_del_same];simp
    .rw[has_del_other (by simpa using hx),an];simp[hx]
   have H6:=O (Zt ar (Zt am c6));clear ar aw c6 am;go_wp2_with fail;refine(callsIn_wide.1 (Qrx Fence.wide 0 trivial rfl _ _)).mono ?_;rintro e w7⟨rfl,rfl⟩;have SS:=O (Qfw (J.heap.size+1) w.heap.size n (D.del (.int .u64 ((0:Nat):Int))) ((J.alloc (.cells #[.int .u64 0] 22)).alloc (.cells #[.map (some w.heap.size)] 346)) (by have:=H6.o.1.size_le;simp only[maxLen];omega) (by have:=H6.o.1.size_le;omega)
    (λss K h2=>Qu1 (p:=a.l) (q:=b.l) ss K (λx hx=>(((H6.o.2.1 x).1 ((h2 x).1 hx)).2))) (by simp) ((Qh.new' (w:=J.alloc (.cells #[.int .u64 0] 22)) (n:=J.heap.size+1) #[.map (some w.heap.size)] 346 (by simp)).cell 0) ((H6.o.1.alloc _).alloc _))
   go_wp2_with fail;refine(SS.o).mono ?_;rintro e w8⟨v,ss,rfl,K,h2,h3,h4⟩;obtain⟨av,al,a0,_,au,E⟩:=(Qia K).row u64T.hc;subst a0;have hO:Own (λx:Int=>[Value.int .u64 x]) 1 22 w8 (.slice (some ⟨J.heap.size,0,none⟩) 1 1) [0]:=Qr9 (((Qh.new J #[.int .u64 0] 22).alloc (.cells #[.map (some w.heap.size)] 346))|>(Qc.ofBelow (S:=Qb) h4).blk <|(λh=>h));have c8:Qc Qb w w8:=by have d2:Qc Qb w J:=(((Zg Qb w).alloc (.map #[] 0)).aA ai.o).trans H6.o.2.2 (λk V=>.inr (by have a3:k=w.heap.size:=V;omega));exact((d2.alloc _).alloc _).aA (Qc.ofBelow h4)
   have HH:=O (Zt E (Zt au (Zt hO (Zt h3 c8))));have a8:=h2;clear K h3 h4 E au hO c8;go_wp2_with (at_builtin;refine Jj u64T rfl (.tmp 21) (.tmp 24) rfl (.slice (some ⟨J.heap.size,0,none⟩) 1 1) [0] rfl HH.o.2.2.1 av al ss rfl HH.o.2.1 HH.o.1 (by simp[maxLen];omega) (by simp;omega) ?_;intro v' w9 z ao a6);have H9:=O (Zt z ao);clear z ao a6;go_wp2;go_ret;refine⟨_,[0]++ss,rfl,H9.o.1,by simp;omega,λx=>?_,?_⟩;·rw[Zl,HH.o.2.2.2.1 x,H6.o.2.1 x];simp only[Zu,List.not_mem_nil,or_false];by_cases hx:x=0<;>simp[hx]
   .refine HH.o.2.2.2.2.trans H9.o.2 (λk V=>.inr ?_);have a3:J.heap.size=k:=by simpa[Value.ownBlock]using V
    have h5:w.heap.size+1<=w1.heap.size:=by simpa using ai.o.size
    have h6:w1.heap.size<=J.heap.size:=H6.o.2.2.size;omega
structure Qcr(w:World)(g:Nat)(a b:Jy):Prop where
 a:Qh w g #[ZU a.f,ZU a.l,ZU a.r] 27
 b:Qh w (g+1) #[ZU b.f,ZU b.l,ZU b.r] 27
theorem Qcr.aB{w w'}{g:Nat}{a b:Jy}(h:Qcr w g a b)(c:Qc Qb w w'):Qcr w' g a b:=⟨c.blk h.a (λh=>h),c.blk h.b (λh=>h)⟩
theorem Qcr.cells{w}{g:Nat}{a b:Jy}(h:Qcr w g a b):w.cell? ⟨g,0,none⟩=some (ZU a.f)/\w.cell? ⟨g,1,none⟩=some (ZU a.l)/\w.cell? ⟨g,2,none⟩=some (ZU a.r)/\
  w.cell? ⟨g+1,0,none⟩=some (ZU b.f)/\w.cell? ⟨g+1,1,none⟩=some (ZU b.l)/\w.cell? ⟨g+1,2,none⟩=some (ZU b.r):=
 ⟨h.a.cell 0,h.a.cell 1,h.a.cell 2,h.b.cell 0,h.b.cell 1,h.b.cell 2⟩
theorem Ql5{w}{g:Nat}{l:List Jy}{t:TypeId}(h:Qh w g (Jm Jy.cells l).toArray t):Kb Jy.cells 3 w (some ⟨g,0,none⟩) l:=RowBlk.row Jy.aF h
theorem Qmb(a b:Jy)(ha:a.May)(hb:b.May)(w):
  Cl 250 #[.agg #[ZU a.f,ZU a.l,ZU a.r],.agg #[ZU b.f,ZU b.l,ZU b.r]] w
   λe w'=>e=.returned (.bool (decide (a.r<=b.r)&&(a.leAt b a.l&&a.leAt b b.l)))/\Qc Qb w w':=by
 have MA:=O (λw=>K8 a w);have MB:=O (λw=>K8 b w);rw[Px ha]at MA;rw[Px hb]at MB;have d:=O (Zt ha hb);have T0:Qcr ((w.alloc (.cells #[ZU a.f,ZU a.l,ZU a.r] 27)).alloc (.cells #[ZU b.f,ZU b.l,ZU b.r] 27)) w.heap.size a b:=⟨(Qh.new _ _ _).alloc _,Qh.new' _ _ (by simp)⟩;have T0:=O T0;clear ha hb;by_cases hr:a.r<=b.r
 .have E:decide (a.r<=b.r)=true:=by simpa using hr
  have ai:decide (b.r<a.r)=false:=by simp;omega
  rw[E,Bool.true_and];clear E hr;apply WH func250;go_wp2_with fail;apply Zz (MA.o _);intro w1 Z;have T1:=O (T0.o.aB Z);have C1:=O ((((Zg Qb w).alloc (.cells #[ZU a.f,ZU a.l,ZU a.r] 27)).alloc (.cells #[ZU b.f,ZU b.l,ZU b.r] 27)).aA Z);clear Z;have k0:=T1.o.cells;go_wp2_with fail;apply Zz (MB.o _);intro w2 c2;have T2:=O (T1.o.aB c2);have C2:=O (C1.o.aA c2);clear c2 k0;have k0:=T2.o.cells;have CC:=O (Qfn a b ⟨w2.heap.size,0,none⟩ 2 (w2.alloc (.cells #[ZU a.f,ZU a.l,ZU a.r,ZU b.f,ZU b.l,ZU b.r] 27)) (Ql5 (l:=[a,b]) (Qh.new w2 #[ZU a.f,ZU a.l,ZU a.r,ZU b.f,ZU b.l,ZU b.r] 27)) d.o.1 d.o.2);go_wp2_with fail;apply Zo CC;rintro e w3⟨v,u,rfl,h1,h2,h3,h4⟩;obtain⟨tv,tc,rfl,_,ah,I⟩:=h1.row u64T.hc;have T3:=O ((T2.o.aB ((Zg _ _).alloc (.cells #[ZU a.f,ZU a.l,ZU a.r,ZU b.f,ZU b.l,ZU b.r] 27))).aB h4);have C3:=O ((C2.o.alloc (.cells #[ZU a.f,ZU a.l,ZU a.r,ZU b.f,ZU b.l,ZU b.r] 27)).aA h4);have HR:=O (Zt I h3);have aj:=h2;clear h1 h3 h4 I ah k0;go_wp2;go_loopw [6,27] (λ_ i wr=>∃k:Nat,k<=u.length/\i=ZI k/\Qc Qb w3 wr/\∀x∈u.take k,a.leAt b x.toNat=true) (λ_ i _=>u.length-(intOf i).toNat);case atStart=>exact⟨0,by omega,rfl,Zg _ _,by simp⟩
  case round=>
   obtain⟨k,hk,rfl,z,q⟩:=hrel;rename_i wr;have TR:=O (T3.o.aB z);by_cases Xg:k<u.length
   .obtain⟨g,o,rfl,hj⟩:=HR.o.1 k Xg;have e0:=z.same (hj 0 _ rfl);have B:=(HR.o.2 u[k]).1 (List.getElem_mem Xg);have ab:u.take (k+1)=u.take k++[u[k]]:=List.take_succ_eq_append_getElem Xg;have aa:u[k]∈u:=List.getElem_mem Xg;generalize u[k]=x at e0 B ab aa;obtain⟨n,rfl⟩:∃n:Nat,x=(n:Int):=⟨x.toNat,by omega⟩;have hn:n<18446744073709551616:=by have h5:=d.o.1.hl;have h6:=d.o.2.hl;omega
    have AA:=λ(g':Nat)(w')(h:Qh w' g' #[ZU a.f,ZU a.l,ZU a.r] 27)=>Qnq [a] ⟨g',0,none⟩ 1 n w' (Ql5 (l:=[a]) h) (by simp) (by simp) (by intro c z;simp at z;subst z;exact d.o.1) hn;have BB:=λ(g':Nat)(w')(h:Qh w' g' #[ZU b.f,ZU b.l,ZU b.r] 27)=>Qnq [b] ⟨g',0,none⟩ 1 n w' (Ql5 (l:=[b]) h) (by simp) (by simp) (by intro c z;simp at z;subst z;exact d.o.2) hn;have sa:Jy.sum [a] n=a.at n:=by simp[Jy.sum]
    have sb:Jy.sum [b] n=b.at n:=by simp[Jy.sum]
    rw[sa]at AA;rw[sb]at BB;have R:a.leAt b n=decide (a.at n<=b.at n):=rfl;have U:=Qb5 (a.at n) (b.at n);have cg:=Quy (a.at n) (b.at n);generalize a.at n=x1 at AA R U cg;generalize b.at n=x2 at BB R U cg;generalize((x1/18446744073709551616:Nat):Int)=y1 at AA U;generalize((x1%18446744073709551616:Nat):Int)=y2 at AA U;generalize((x2/18446744073709551616:Nat):Int)=y3 at BB U;generalize((x2%18446744073709551616:Nat):Int)=y4 at BB U;have HA:=O AA;have ac:=O BB;have ae:=O U;have J:=O (Zt z (Zt q (Zt ab (Zt B aa))));have k0:(0:Int)<=(k:Int):=by omega
    have k1:(k:Int)<(u.length:Int):=by omega
    have af:decide ((0:Int)<Io x1 x2)=!(a.leAt b n):=by rw[cg,R]
    have V:=O (λ(w')(h:Qc Qb wr w')=>(TR.o.aB h).cells);clear z q ab B aa AA BB U cg R sa sb hn hj;simp only[Nat.add_zero,Nat.mul_one]at e0;cases K:a.leAt b n with
    |true=>
     rw[K]at af;have HL:=O K;clear K;go_wp2;go_region_held3 (λw':World=>w'.cell? ⟨w.heap.size,0,none⟩=some (ZU a.f)/\w'.cell? ⟨w.heap.size,1,none⟩=some (ZU a.l)/\w'.cell? ⟨w.heap.size,2,none⟩=some (ZU a.r)/\w'.cell? ⟨w.heap.size+1,0,none⟩=some (ZU b.f)/\w'.cell? ⟨w.heap.size+1,1,none⟩=some (ZU b.l)/\w'.cell? ⟨w.heap.size+1,2,none⟩=some (ZU b.r)) (exact V.o _ Z0) (first|(go_at_call 262;refine Calls.mono (HA.o _ _ ?_) ?_;(focus ((repeat' (first|(with_reducible refine Qh.new' _ _ ?_;first|rfl|(simp;done))|(with_reducible refine Qh.alloc ?_ _)|(with_reducible refine Qh.drew ?_)|(with_reducible refine Qh.drewN ?_ _)));done));rintro e w5⟨rfl,c5⟩;have d5:Qc Qb wr w5:=Qc.aA Z0 c5)|(go_at_call 262;refine Calls.mono (ac.o _ _ ?_) ?_;(focus ((repeat' (first|(with_reducible refine Qh.new' _ _ ?_;first|rfl|(simp;done))|(with_reducible refine Qh.alloc ?_ _)|(with_reducible refine Qh.drew ?_)|(with_reducible refine Qh.drewN ?_ _)|(with_reducible refine Qc.blk c5 ?_ (λh=>h))));done));rintro e w6⟨rfl,c6⟩;have d6:Qc Qb wr w6:=Qc.aA Z0 c6)|(go_at_call 263;refine(ae.o _).mono ?_;rintro e w7⟨rfl,c7⟩;have d7:Qc Qb wr w7:=Qc.aA Z0 c7));all_goals
      go_wp2;go_roundw
      case rel=>
       refine⟨k+1,by omega,by go_num,J.o.1.aA d7,λx hx=>?_⟩;rw[J.o.2.2.1]at hx;rcases Zl.1 hx with h|h;·exact J.o.2.1 x h
       .simp only[Zu,List.not_mem_nil,or_false]at h;subst h;simpa using HL.o
      case measure=>simp[intOf];omega
    |false=>
     rw[K]at af;have ag:(a.leAt b a.l&&a.leAt b b.l)=false:=by
      rcases J.o.2.2.2.1 with h|h|h
      .have h0:n=0:=by omega
       subst h0;simp[Jy.leAt,Jy.at]at K
      .have h0:n=a.l:=by omega
       subst h0;rw[K];rfl
      .have h0:n=b.l:=by omega
       subst h0;rw[K];cases a.leAt b a.l<;>rfl
     have HL:=O (Zt K ag);clear K ag;go_wp2;go_region_held3 (λw':World=>w'.cell? ⟨w.heap.size,0,none⟩=some (ZU a.f)/\w'.cell? ⟨w.heap.size,1,none⟩=some (ZU a.l)/\w'.cell? ⟨w.heap.size,2,none⟩=some (ZU a.r)/\w'.cell? ⟨w.heap.size+1,0,none⟩=some (ZU b.f)/\w'.cell? ⟨w.heap.size+1,1,none⟩=some (ZU b.l)/\w'.cell? ⟨w.heap.size+1,2,none⟩=some (ZU b.r)) (exact V.o _ Z0) (first|(go_at_call 262;refine Calls.mono (HA.o _ _ ?_) ?_;(focus ((repeat' (first|(with_reducible refine Qh.new' _ _ ?_;first|rfl|(simp;done))|(with_reducible refine Qh.alloc ?_ _)|(with_reducible refine Qh.drew ?_)|(with_reducible refine Qh.drewN ?_ _)));done));rintro e w5⟨rfl,c5⟩;have d5:Qc Qb wr w5:=Qc.aA Z0 c5)|(go_at_call 262;refine Calls.mono (ac.o _ _ ?_) ?_;(focus ((repeat' (first|(with_reducible refine Qh.new' _ _ ?_;first|rfl|(simp;done))|(with_reducible refine Qh.alloc ?_ _)|(with_reducible refine Qh.drew ?_)|(with_reducible refine Qh.drewN ?_ _)|(with_reducible refine Qc.blk c5 ?_ (λh=>h))));done));rintro e w6⟨rfl,c6⟩;have d6:Qc Qb wr w6:=Qc.aA Z0 c6)|(go_at_call 263;refine(ae.o _).mono ?_;rintro e w7⟨rfl,c7⟩;have d7:Qc Qb wr w7:=Qc.aA Z0 c7));all_goals go_wp2
     all_goals go_ret
     all_goals exact⟨by rw[HL.o.2];rfl,(C3.o.aA J.o.1).aA d7⟩
   .obtain rfl:k=u.length:=by omega
    rw[List.take_length]at q;have J:=O (Zt z q);clear z q;go_wp2;go_ret;have e1:=J.o.2 a.l ((HR.o.2 _).2 (by simp));have e2:=J.o.2 b.l ((HR.o.2 _).2 (by simp));simp only[Int.toNat_natCast]at e1 e2;exact⟨by rw[e1,e2];rfl,C3.o.aA J.o.1⟩
 .have E:decide (a.r<=b.r)=false:=by simpa using hr
  have ai:decide (b.r<a.r)=true:=by simp;omega
  rw[E,Bool.false_and];clear E hr;apply WH func250;go_wp2_with fail;apply Zz (MA.o _);intro w1 Z;have T1:=O (T0.o.aB Z);have C1:=O ((((Zg Qb w).alloc (.cells #[ZU a.f,ZU a.l,ZU a.r] 27)).alloc (.cells #[ZU b.f,ZU b.l,ZU b.r] 27)).aA Z);clear Z;have k0:=T1.o.cells;go_wp2_with fail;apply Zz (MB.o _);intro w2 c2;have T2:=O (T1.o.aB c2);have C2:=O (C1.o.aA c2);clear c2 k0;have k0:=T2.o.cells;exact WD C2
end
def Xx(w:World)(g:Nat)(s:Yk):Prop:=Qh w g (Z4 s.leaf s) 29
theorem Xx.aB{w w'}{g:Nat}{s:Yk}(h:Xx w g s)(c:Qc Qb w w'):Xx w' g s:=c.blk h (λh=>h)
theorem Xx.cells{w}{g:Nat}{s:Yk}(h:Xx w g s):w.cell? ⟨g,0,none⟩=some (ZI s.id)/\w.cell? ⟨g,1,none⟩=some (ZI s.par)/\w.cell? ⟨g,2,none⟩=some (.bool s.leaf)/\w.cell? ⟨g,3,none⟩=some (ZU s.real.f)/\w.cell? ⟨g,4,none⟩=some (ZU s.real.l)/\w.cell? ⟨g,5,none⟩=some (ZU s.real.r)/\w.cell? ⟨g,6,none⟩=some (ZU s.share.f)/\w.cell? ⟨g,7,none⟩=some (ZU s.share.l)/\w.cell? ⟨g,8,none⟩=some (ZU s.share.r)/\w.cell? ⟨g,9,none⟩=some (ZU s.aN.f)/\w.cell? ⟨g,10,none⟩=some (ZU s.aN.l)/\w.cell? ⟨g,11,none⟩=some (ZU s.aN.r)/\w.cell? ⟨g,12,none⟩=some (ZI s.pk)/\w.cell? ⟨g,13,none⟩=some (ZI s.bt):=
 ⟨Qh.cell h 0,Qh.cell h 1,Qh.cell h 2,Qh.cell h 3,Qh.cell h 4,Qh.cell h 5,Qh.cell h 6,Qh.cell h 7,Qh.cell h 8,Qh.cell h 9,Qh.cell h 10,Qh.cell h 11,Qh.cell h 12,Qh.cell h 13⟩
theorem Xx.new(w:World)(s:Yk):Xx (w.alloc (.cells (Z4 s.leaf s) 29)) w.heap.size s:=Qh.new _ _ _
theorem Qic(s:Yk)(w):ZW 220 #[.agg (Z4 s.leaf s)] w (.bool (decide s.real.May&&(decide s.share.May&&decide s.aN.May))) λw'=>Qc Qb w w':=by
 have S0:=O (Xx.new w s);have C0:=O ((Zg Qb w).alloc (.cells (Z4 s.leaf s) 29));have H1:=O (K8 s.real);have H2:=O (K8 s.share);have H3:=O (K8 s.aN);generalize decide s.real.May=x at H1|-;generalize decide s.share.May=y at H2|-;generalize decide s.aN.May=z at H3|-;cases x with
 |false=> have u:=S0.o.cells;apply WH func220;go_wp2_with fail;apply Zz (H1.o _);intro w1 c1;have S1:=O (S0.o.aB c1);have C1:=O (C0.o.aA c1);clear c1 u;obtain⟨u,B,E,I,J,K,R,U,V,Z,c,d,k,q⟩:=S1.o.cells;exact WD C1
 |true=>
  cases y with
  |false=> have u:=S0.o.cells;apply WH func220;go_wp2_with fail;apply Zz (H1.o _);intro w1 c1;have S1:=O (S0.o.aB c1);have C1:=O (C0.o.aA c1);clear c1 u;have u:=S1.o.cells;go_wp2_with fail;apply Zz (H2.o _);intro w2 c2;have S2:=O (S1.o.aB c2);have C2:=O (C1.o.aA c2);clear c2 u;obtain⟨u,B,E,I,J,K,R,U,V,Z,c,d,k,q⟩:=S2.o.cells;exact WD C2
  |true=> have u:=S0.o.cells;apply WH func220;go_wp2_with fail;apply Zz (H1.o _);intro w1 c1;have S1:=O (S0.o.aB c1);have C1:=O (C0.o.aA c1);clear c1 u;have u:=S1.o.cells;go_wp2_with fail;apply Zz (H2.o _);intro w2 c2;have S2:=O (S1.o.aB c2);have C2:=O (C1.o.aA c2);clear c2 u;have u:=S2.o.cells;go_wp2_with fail;apply Zz (H3.o _);intro w3 c3;have S3:=O (S2.o.aB c3);have C3:=O (C2.o.aA c3);clear c3 u;have u:=S3.o.cells;exact WD C3
def Jy.goes(c:Jy):Bool:=c.none||decide (0<c.r)
theorem Qd4(c:Jy)(w):ZW 249 #[.agg #[ZU c.f,ZU c.l,ZU c.r]] w (.bool c.goes) λw'=>Qc Qb w w':=by
 have z:=O (Qh.new w #[ZU c.f,ZU c.l,ZU c.r] 27);have u:=O (Kz c);unfold Jy.goes;have B:decide ((0:Int)<(c.r:Int))=decide (0<c.r):=by simp
 generalize c.none=x at u|-;cases x with
 |true=> apply WH func249;go_wp2_with fail;apply Z9 (u.o _) (λ_ d=>((Zg Qb w).alloc (.cells #[ZU c.f,ZU c.l,ZU c.r] 27)).aA d);intro w1 k;exact WD k
 |false=> rw[<-B];apply WH func249;go_wp2_with fail;apply Zz (u.o _);intro w1 d;have k:=O (((Zg Qb w).alloc (.cells #[ZU c.f,ZU c.l,ZU c.r] 27)).aA d);have q:=(d.blk z.o (λh=>h)).cell 2;simp at q;clear d;go_wp2;go_ret;exact⟨by simp,k.o⟩
theorem Qie(s:Yk)(w):ZW 222 #[.agg (Z4 s.leaf s)] w (.bool (s.share.goes&&(s.aN.goes&&(s.aN.none||!s.share.none)))) λw'=>Qc Qb w w':=by
 have S0:=O (Xx.new w s);have C0:=O ((Zg Qb w).alloc (.cells (Z4 s.leaf s) 29));have H1:=O (Qd4 s.share);have H2:=O (Qd4 s.aN);have H3:=O (Kz s.aN);have H4:=O (Kz s.share);generalize s.share.goes=x at H1|-;generalize s.aN.goes=y at H2|-;generalize s.aN.none=z at H3|-;generalize s.share.none=u at H4|-;cases x with
 |false=> have B:=S0.o.cells;apply WH func222;go_wp2_with fail;apply Zz (H1.o _);intro w1 c1;have S1:=O (S0.o.aB c1);have C1:=O (C0.o.aA c1);clear c1 B;obtain⟨B,E,I,J,K,R,U,V,Z,a9,c,d,k,q⟩:=S1.o.cells;exact WD C1
 |true=>
  cases y with
  |false=> have B:=S0.o.cells;apply WH func222;go_wp2_with fail;apply Zz (H1.o _);intro w1 c1;have S1:=O (S0.o.aB c1);have C1:=O (C0.o.aA c1);clear c1 B;have B:=S1.o.cells;go_wp2_with fail;apply Zz (H2.o _);intro w2 c2;have S2:=O (S1.o.aB c2);have C2:=O (C1.o.aA c2);clear c2 B;obtain⟨B,E,I,J,K,R,U,V,Z,a9,c,d,k,q⟩:=S2.o.cells;exact WD C2
  |true=>
   cases z with
   |true=> have B:=S0.o.cells;apply WH func222;go_wp2_with fail;apply Zz (H1.o _);intro w1 c1;have S1:=O (S0.o.aB c1);have C1:=O (C0.o.aA c1);clear c1 B;have B:=S1.o.cells;go_wp2_with fail;apply Zz (H2.o _);intro w2 c2;have S2:=O (S1.o.aB c2);have C2:=O (C1.o.aA c2);clear c2 B;have B:=S2.o.cells;go_wp2_with fail;apply Zz (H3.o _);intro w3 c3;have S3:=O (S2.o.aB c3);have C3:=O (C2.o.aA c3);clear c3 B;obtain⟨B,E,I,J,K,R,U,V,Z,a9,c,d,k,q⟩:=S3.o.cells;exact WD C3
   |false=> have B:=S0.o.cells;apply WH func222;go_wp2_with fail;apply Zz (H1.o _);intro w1 c1;have S1:=O (S0.o.aB c1);have C1:=O (C0.o.aA c1);clear c1 B;have B:=S1.o.cells;go_wp2_with fail;apply Zz (H2.o _);intro w2 c2;have S2:=O (S1.o.aB c2);have C2:=O (C1.o.aA c2);clear c2 B;have B:=S2.o.cells;go_wp2_with fail;apply Zz (H3.o _);intro w3 c3;have S3:=O (S2.o.aB c3);have C3:=O (C2.o.aA c3);clear c3 B;have B:=S3.o.cells;go_wp2_with fail;apply Zz (H4.o _);intro w4 c4;have S4:=O (S3.o.aB c4);have C4:=O (C3.o.aA c4);clear c4 B;have B:=S4.o.cells;exact WD C4
def Yk.aM(s:Yk):Bool:=s.real.none||(s.aN.none||(decide (s.real.r<=s.aN.r)&&(s.real.leAt s.aN s.real.l&&s.real.leAt s.aN s.aN.l)))
theorem Qlg(s:Yk)(hr:s.real.May)(hu:s.aN.May)(w):ZW 223 #[.agg (Z4 s.leaf s)] w (.bool s.aM) λw'=>Qc Qb w w':=by
 have S0:=O (Xx.new w s);have C0:=O ((Zg Qb w).alloc (.cells (Z4 s.leaf s) 29));have H1:=O (Kz s.real);have H2:=O (Kz s.aN);have H3:=O (Qmb s.real s.aN hr hu);unfold Yk.aM;clear hr hu;generalize(decide (s.real.r<=s.aN.r)&&(s.real.leAt s.aN s.real.l&&s.real.leAt s.aN s.aN.l))=z at H3|-;generalize s.real.none=x at H1|-;generalize s.aN.none=y at H2|-;cases x with
 |true=> have u:=S0.o.cells;apply WH func223;go_wp2_with fail;apply Zz (H1.o _);intro w1 c1;have S1:=O (S0.o.aB c1);have C1:=O (C0.o.aA c1);clear c1 u;obtain⟨u,B,E,I,J,K,R,U,V,Z,c,d,k,q⟩:=S1.o.cells;exact WD C1
 |false=>
  cases y with
  |true=> have u:=S0.o.cells;apply WH func223;go_wp2_with fail;apply Zz (H1.o _);intro w1 c1;have S1:=O (S0.o.aB c1);have C1:=O (C0.o.aA c1);clear c1 u;have u:=S1.o.cells;go_wp2_with fail;apply Zz (H2.o _);intro w2 c2;have S2:=O (S1.o.aB c2);have C2:=O (C1.o.aA c2);clear c2 u;obtain⟨u,B,E,I,J,K,R,U,V,Z,c,d,k,q⟩:=S2.o.cells;exact WD C2
  |false=> have u:=S0.o.cells;apply WH func223;go_wp2_with fail;apply Zz (H1.o _);intro w1 c1;have S1:=O (S0.o.aB c1);have C1:=O (C0.o.aA c1);clear c1 u;have u:=S1.o.cells;go_wp2_with fail;apply Zz (H2.o _);intro w2 c2;have S2:=O (S1.o.aB c2);have C2:=O (C1.o.aA c2);clear c2 u;have u:=S2.o.cells;go_wp2_with fail;apply Zz (H3.o _);intro w3 c3;have S3:=O (S2.o.aB c3);have C3:=O (C2.o.aA c3);clear c3 u;have u:=S3.o.cells;exact WD C3
def Up(w:World)(g:Nat)(s:Yk)(b:Bool):Prop:=Qh w g (Z4 b s) 29
theorem Up.aB{w w'}{g:Nat}{s:Yk}{b:Bool}(h:Up w g s b)(c:Qc Qb w w'):Up w' g s b:=c.blk h (λh=>h)
theorem Up.cells{w}{g:Nat}{s:Yk}{b:Bool}(h:Up w g s b):w.cell? ⟨g,0,none⟩=some (ZI s.id)/\w.cell? ⟨g,1,none⟩=some (ZI s.par)/\w.cell? ⟨g,2,none⟩=some (.bool b)/\w.cell? ⟨g,3,none⟩=some (ZU s.real.f)/\w.cell? ⟨g,4,none⟩=some (ZU s.real.l)/\w.cell? ⟨g,5,none⟩=some (ZU s.real.r)/\w.cell? ⟨g,6,none⟩=some (ZU s.share.f)/\w.cell? ⟨g,7,none⟩=some (ZU s.share.l)/\w.cell? ⟨g,8,none⟩=some (ZU s.share.r)/\w.cell? ⟨g,9,none⟩=some (ZU s.aN.f)/\w.cell? ⟨g,10,none⟩=some (ZU s.aN.l)/\w.cell? ⟨g,11,none⟩=some (ZU s.aN.r)/\w.cell? ⟨g,12,none⟩=some (ZI s.pk)/\w.cell? ⟨g,13,none⟩=some (ZI s.bt):=
 ⟨Qh.cell h 0,Qh.cell h 1,Qh.cell h 2,Qh.cell h 3,Qh.cell h 4,Qh.cell h 5,Qh.cell h 6,Qh.cell h 7,Qh.cell h 8,Qh.cell h 9,Qh.cell h 10,Qh.cell h 11,Qh.cell h 12,Qh.cell h 13⟩
theorem Up.new(w:World)(s:Yk)(b:Bool):Up (w.alloc (.cells (Z4 b s) 29)) w.heap.size s b:=Qh.new _ _ _
theorem Up.curves{w w'}{g:Nat}{s:Yk}{b:Bool}(h:Up w g s b)(c:Qc Qb w w'):w'.cell? ⟨g,3,none⟩=some (ZU s.real.f)/\w'.cell? ⟨g,4,none⟩=some (ZU s.real.l)/\w'.cell? ⟨g,5,none⟩=some (ZU s.real.r)/\w'.cell? ⟨g,6,none⟩=some (ZU s.share.f)/\w'.cell? ⟨g,7,none⟩=some (ZU s.share.l)/\w'.cell? ⟨g,8,none⟩=some (ZU s.share.r):=
 ⟨Qh.cell (h.aB c) 3,Qh.cell (h.aB c) 4,Qh.cell (h.aB c) 5,Qh.cell (h.aB c) 6,Qh.cell (h.aB c) 7,Qh.cell (h.aB c) 8⟩
def Qrr(b x y:Bool):Int:=if b=false then 4 else if x=false/\y=false then 3 else if x=false then 1 else if y=false then 2 else 0
theorem Qsr(s:Yk)(b:Bool)(w):ZW 248 #[.agg (Z4 b s)] w (.int .u8 (Qrr b s.real.none s.share.none)) λw'=>Qc Qb w w':=by
 have V:=O (Kz s.real);have Z:=O (Kz s.share);generalize s.real.none=x at V|-;generalize s.share.none=y at Z|-;cases b with
 |false=>
  have u:=O (Up.new w s false);have z:=O ((Zg Qb w).alloc (.cells (Z4 false s) 29));have d:=O (λ(w')(c:Qc Qb (w.alloc (.cells (Z4 false s) 29)) w')=>u.o.curves c);apply WH func248;go_wp2;go_region_held3 (λw':World=>w'.cell? ⟨w.heap.size,3,none⟩=some (ZU s.real.f)/\w'.cell? ⟨w.heap.size,4,none⟩=some (ZU s.real.l)/\w'.cell? ⟨w.heap.size,5,none⟩=some (ZU s.real.r)/\w'.cell? ⟨w.heap.size,6,none⟩=some (ZU s.share.f)/\w'.cell? ⟨w.heap.size,7,none⟩=some (ZU s.share.l)/\w'.cell? ⟨w.heap.size,8,none⟩=some (ZU s.share.r)) (exact d.o _ Z0) (first|(go_at_call 170;refine(V.o _).mono ?_;rintro e R⟨rfl,q⟩;replace q:Qc Qb (w.alloc (.cells (Z4 false s) 29)) R:=Qc.aA Z0 q)|(go_at_call 170;refine(Z.o _).mono ?_;rintro e U⟨rfl,k⟩;replace k:Qc Qb (w.alloc (.cells (Z4 false s) 29)) U:=Qc.aA Z0 k));all_goals
   have K:=O (z.o.aA k);have a0:=(u.o.aB k).cells;clear q k;exact WD K
 |true=>
  cases x with
  |false=>
   cases y with
   |false=>
    have u:=O (Up.new w s true);have z:=O ((Zg Qb w).alloc (.cells (Z4 true s) 29));have d:=O (λ(w')(c:Qc Qb (w.alloc (.cells (Z4 true s) 29)) w')=>u.o.curves c);apply WH func248;go_wp2;go_region_held3 (λw':World=>w'.cell? ⟨w.heap.size,3,none⟩=some (ZU s.real.f)/\w'.cell? ⟨w.heap.size,4,none⟩=some (ZU s.real.l)/\w'.cell? ⟨w.heap.size,5,none⟩=some (ZU s.real.r)/\w'.cell? ⟨w.heap.size,6,none⟩=some (ZU s.share.f)/\w'.cell? ⟨w.heap.size,7,none⟩=some (ZU s.share.l)/\w'.cell? ⟨w.heap.size,8,none⟩=some (ZU s.share.r)) (exact d.o _ Z0) (first|(go_at_call 170;refine(V.o _).mono ?_;rintro e R⟨rfl,q⟩;replace q:Qc Qb (w.alloc (.cells (Z4 true s) 29)) R:=Qc.aA Z0 q)|(go_at_call 170;refine(Z.o _).mono ?_;rintro e U⟨rfl,k⟩;replace k:Qc Qb (w.alloc (.cells (Z4 true s) 29)) U:=Qc.aA Z0 k));all_goals
     have K:=O (z.o.aA k);have a0:=(u.o.aB k).cells;clear q k;exact WD K
   |true=>
    have u:=O (Up.new w s true);have z:=O ((Zg Qb w).alloc (.cells (Z4 true s) 29));have d:=O (λ(w')(c:Qc Qb (w.alloc (.cells (Z4 true s) 29)) w')=>u.o.curves c);apply WH func248;go_wp2;go_region_held3 (λw':World=>w'.cell? ⟨w.heap.size,3,none⟩=some (ZU s.real.f)/\w'.cell? ⟨w.heap.size,4,none⟩=some (ZU s.real.l)/\w'.cell? ⟨w.heap.size,5,none⟩=some (ZU s.real.r)/\w'.cell? ⟨w.heap.size,6,none⟩=some (ZU s.share.f)/\w'.cell? ⟨w.heap.size,7,none⟩=some (ZU s.share.l)/\w'.cell? ⟨w.heap.size,8,none⟩=some (ZU s.share.r)) (exact d.o _ Z0) (first|(go_at_call 170;refine(V.o _).mono ?_;rintro e R⟨rfl,q⟩;replace q:Qc Qb (w.alloc (.cells (Z4 true s) 29)) R:=Qc.aA Z0 q)|(go_at_call 170;refine(Z.o _).mono ?_;rintro e U⟨rfl,k⟩;replace k:Qc Qb (w.alloc (.cells (Z4 true s) 29)) U:=Qc.aA Z0 k));all_goals
     have K:=O (z.o.aA k);have a0:=(u.o.aB k).cells;clear q k;exact WD K
  |true=>
   cases y with
   |false=>
    have u:=O (Up.new w s true);have z:=O ((Zg Qb w).alloc (.cells (Z4 true s) 29));have d:=O (λ(w')(c:Qc Qb (w.alloc (.cells (Z4 true s) 29)) w')=>u.o.curves c);apply WH func248;go_wp2;go_region_held3 (λw':World=>w'.cell? ⟨w.heap.size,3,none⟩=some (ZU s.real.f)/\w'.cell? ⟨w.heap.size,4,none⟩=some (ZU s.real.l)/\w'.cell? ⟨w.heap.size,5,none⟩=some (ZU s.real.r)/\w'.cell? ⟨w.heap.size,6,none⟩=some (ZU s.share.f)/\w'.cell? ⟨w.heap.size,7,none⟩=some (ZU s.share.l)/\w'.cell? ⟨w.heap.size,8,none⟩=some (ZU s.share.r)) (exact d.o _ Z0) (first|(go_at_call 170;refine(V.o _).mono ?_;rintro e R⟨rfl,q⟩;replace q:Qc Qb (w.alloc (.cells (Z4 true s) 29)) R:=Qc.aA Z0 q)|(go_at_call 170;refine(Z.o _).mono ?_;rintro e U⟨rfl,k⟩;replace k:Qc Qb (w.alloc (.cells (Z4 true s) 29)) U:=Qc.aA Z0 k));all_goals
     have K:=O (z.o.aA k);have a0:=(u.o.aB k).cells;clear q k;exact WD K
   |true=>
    have u:=O (Up.new w s true);have z:=O ((Zg Qb w).alloc (.cells (Z4 true s) 29));have d:=O (λ(w')(c:Qc Qb (w.alloc (.cells (Z4 true s) 29)) w')=>u.o.curves c);apply WH func248;go_wp2;go_region_held3 (λw':World=>w'.cell? ⟨w.heap.size,3,none⟩=some (ZU s.real.f)/\w'.cell? ⟨w.heap.size,4,none⟩=some (ZU s.real.l)/\w'.cell? ⟨w.heap.size,5,none⟩=some (ZU s.real.r)/\w'.cell? ⟨w.heap.size,6,none⟩=some (ZU s.share.f)/\w'.cell? ⟨w.heap.size,7,none⟩=some (ZU s.share.l)/\w'.cell? ⟨w.heap.size,8,none⟩=some (ZU s.share.r)) (exact d.o _ Z0) (first|(go_at_call 170;refine(V.o _).mono ?_;rintro e R⟨rfl,q⟩;replace q:Qc Qb (w.alloc (.cells (Z4 true s) 29)) R:=Qc.aA Z0 q)|(go_at_call 170;refine(Z.o _).mono ?_;rintro e U⟨rfl,k⟩;replace k:Qc Qb (w.alloc (.cells (Z4 true s) 29)) U:=Qc.aA Z0 k));all_goals
     have K:=O (z.o.aA k);have a0:=(u.o.aB k).cells;clear q k;exact WD K
def Yk.shapedB(s:Yk)(b:Bool):Bool:=if b then(Qrr b s.real.none s.share.none != 0)&&(inB s.pk 1 4096&&inB s.bt 1 16777216)else s.real.none&&(!s.share.none&&((s.pk==0)&&(s.bt==0)))
theorem Qpi(s:Yk)(b:Bool)(w):ZW 221 #[.agg (Z4 b s)] w (.bool (s.shapedB b)) λw'=>Qc Qb w w':=by
 unfold Yk.shapedB;cases b with
 |true=>
  have H1:=O (Qsr s true);have H2:=O (Ac s.pk 1 4096);have H3:=O (Ac s.bt 1 16777216);rw[if_pos rfl];generalize inB s.pk 1 4096=x at H2|-;generalize inB s.bt 1 16777216=y at H3|-;generalize Qrr true s.real.none s.share.none=k at H1|-;cases hk:k != 0 with
  |false=> have S0:=O (Up.new w s true);have C0:=O ((Zg Qb w).alloc (.cells (Z4 true s) 29));have B:=S0.o.cells;apply WH func221;go_wp2_with fail;apply Zz (H1.o _);intro w1 z;have S1:=O (S0.o.aB z);have C1:=O (C0.o.aA z);clear z B;have B:=S1.o.cells;exact WD C1
  |true=>
   cases x with
   |false=> have S0:=O (Up.new w s true);have C0:=O ((Zg Qb w).alloc (.cells (Z4 true s) 29));have B:=S0.o.cells;apply WH func221;go_wp2_with fail;apply Zz (H1.o _);intro w1 z;have S1:=O (S0.o.aB z);have C1:=O (C0.o.aA z);clear z B;have B:=S1.o.cells;go_wp2_with fail;apply Zz (H2.o _);rintro aa rfl;exact WD C1
   |true=> have S0:=O (Up.new w s true);have C0:=O ((Zg Qb w).alloc (.cells (Z4 true s) 29));have B:=S0.o.cells;apply WH func221;go_wp2_with fail;apply Zz (H1.o _);intro w1 z;have S1:=O (S0.o.aB z);have C1:=O (C0.o.aA z);clear z B;have B:=S1.o.cells;go_wp2_with fail;apply Zz (H2.o _);rintro aa rfl;go_wp2_with fail;apply Zz (H3.o _);rintro ab rfl;exact WD C1
 |false=>
  have H1:=O (Kz s.real);have H2:=O (Kz s.share);rw[if_neg (by simp)];generalize s.real.none=x at H1|-;generalize s.share.none=y at H2|-;cases x with
  |false=> have S0:=O (Up.new w s false);have C0:=O ((Zg Qb w).alloc (.cells (Z4 false s) 29));have B:=S0.o.cells;apply WH func221;go_wp2_with fail;apply Zz (H1.o _);intro w1 z;have S1:=O (S0.o.aB z);have C1:=O (C0.o.aA z);clear z B;have B:=S1.o.cells;exact WD C1
  |true=>
   cases y with
   |true=> have S0:=O (Up.new w s false);have C0:=O ((Zg Qb w).alloc (.cells (Z4 false s) 29));have B:=S0.o.cells;apply WH func221;go_wp2_with fail;apply Zz (H1.o _);intro w1 z;have S1:=O (S0.o.aB z);have C1:=O (C0.o.aA z);clear z B;have B:=S1.o.cells;go_wp2_with fail;apply Zz (H2.o _);intro w2 c2;have S2:=O (S1.o.aB c2);have C2:=O (C1.o.aA c2);clear c2 B;have B:=S2.o.cells;exact WD C2
   |false=>
    cases hp:s.pk==0 with
    |false=> have S0:=O (Up.new w s false);have C0:=O ((Zg Qb w).alloc (.cells (Z4 false s) 29));have B:=S0.o.cells;apply WH func221;go_wp2_with fail;apply Zz (H1.o _);intro w1 z;have S1:=O (S0.o.aB z);have C1:=O (C0.o.aA z);clear z B;have B:=S1.o.cells;go_wp2_with fail;apply Zz (H2.o _);intro w2 c2;have S2:=O (S1.o.aB c2);have C2:=O (C1.o.aA c2);clear c2 B;have B:=S2.o.cells;exact WD C2
    |true=> have S0:=O (Up.new w s false);have C0:=O ((Zg Qb w).alloc (.cells (Z4 false s) 29));have B:=S0.o.cells;apply WH func221;go_wp2_with fail;apply Zz (H1.o _);intro w1 z;have S1:=O (S0.o.aB z);have C1:=O (C0.o.aA z);clear z B;have B:=S1.o.cells;go_wp2_with fail;apply Zz (H2.o _);intro w2 c2;have S2:=O (S1.o.aB c2);have C2:=O (C1.o.aA c2);clear c2 B;have B:=S2.o.cells;exact WD C2
theorem Qid(s:Yk)(w):ZW 221 #[.agg (Z4 s.leaf s)] w (.bool (s.shapedB s.leaf)) λw'=>Qc Qb w w':=Qpi s s.leaf w
section
def Yk.curvesB(s:Yk):Bool:=decide s.real.May&&(decide s.share.May&&decide s.aN.May)
def Yk.sharedB(s:Yk):Bool:=s.share.goes&&(s.aN.goes&&(s.aN.none||!s.share.none))
def Yk.mayE(s:Yk):Int:=if s.named=false then 130 else if s.curvesB=false then 30 else if s.shapedB s.leaf=false then 130 else if s.sharedB=false then 130 else if s.aM=false then 130 else 0
theorem Quq(w):(Instr.index 289 (.agg #[.func (.func 219) #[] #[],ZI 130,.func (.func 220) #[] #[],ZI 30,.func (.func 221) #[] #[],ZI 130,.func (.func 222) #[] #[],ZI 130,.func (.func 223) #[] #[],ZI 130]) (ZI 0)).run prog w=.ok (.agg #[.func (.func 219) #[] #[],ZI 130]) w:=by kernel_rfl
theorem Qur(w):(Instr.index 289 (.agg #[.func (.func 219) #[] #[],ZI 130,.func (.func 220) #[] #[],ZI 30,.func (.func 221) #[] #[],ZI 130,.func (.func 222) #[] #[],ZI 130,.func (.func 223) #[] #[],ZI 130]) (ZI 1)).run prog w=.ok (.agg #[.func (.func 220) #[] #[],ZI 30]) w:=by kernel_rfl
theorem Qus(w):(Instr.index 289 (.agg #[.func (.func 219) #[] #[],ZI 130,.func (.func 220) #[] #[],ZI 30,.func (.func 221) #[] #[],ZI 130,.func (.func 222) #[] #[],ZI 130,.func (.func 223) #[] #[],ZI 130]) (ZI 2)).run prog w=.ok (.agg #[.func (.func 221) #[] #[],ZI 130]) w:=by kernel_rfl
theorem Qut(w):(Instr.index 289 (.agg #[.func (.func 219) #[] #[],ZI 130,.func (.func 220) #[] #[],ZI 30,.func (.func 221) #[] #[],ZI 130,.func (.func 222) #[] #[],ZI 130,.func (.func 223) #[] #[],ZI 130]) (ZI 3)).run prog w=.ok (.agg #[.func (.func 222) #[] #[],ZI 130]) w:=by kernel_rfl
theorem Quu(w):(Instr.index 289 (.agg #[.func (.func 219) #[] #[],ZI 130,.func (.func 220) #[] #[],ZI 30,.func (.func 221) #[] #[],ZI 130,.func (.func 222) #[] #[],ZI 130,.func (.func 223) #[] #[],ZI 130]) (ZI 4)).run prog w=.ok (.agg #[.func (.func 223) #[] #[],ZI 130]) w:=by kernel_rfl
attribute [local go_sem] Quq Qur Qus Qut Quu
theorem Qef(s:Yk)(w):ZW 163 #[.agg (Z4 s.leaf s)] w (ZI s.mayE) λw'=>Qc Qb w w':=by
 have S0:=O (Xx.new w s);have C0:=O ((Zg Qb w).alloc (.cells (Z4 s.leaf s) 29));have H1:=O (Qlf s);have H2:=O (Qic s);have H3:=O (Qid s);have H4:=O (Qie s);have hM:s.mayE=if s.named=false then 130 else if s.curvesB=false then 30 else if s.shapedB s.leaf=false then 130 else if s.sharedB=false then 130 else if s.aM=false then 130 else 0:=rfl;have hc:s.curvesB=(decide s.real.May&&(decide s.share.May&&decide s.aN.May)):=rfl;have hs:s.sharedB=(s.share.goes&&(s.aN.goes&&(s.aN.none||!s.share.none))):=rfl;have H5:s.curvesB=true->Hi (∀w,ZW 223 #[.agg (Z4 s.leaf s)] w (.bool s.aM) λw'=>Qc Qb w w'):=λh=>by rw[hc]at h;simp only[Zw,decide_eq_true_eq]at h;exact O (Qlg s h.1 h.2.2)
 rw[<-hc]at H2;rw[<-hs]at H4;rw[hM];clear hc hs hM;generalize s.named=x1 at H1|-;generalize s.curvesB=x2 at H2 H5|-;generalize s.shapedB s.leaf=x3 at H3|-;generalize s.sharedB=x4 at H4|-;cases x1 with
 |false=> clear H5;obtain⟨u,z,B,E,I,J,K,R,U,V,c,d,k,q⟩:=S0.o.cells;go_enter func163,ntmps163;go_wp2;refine wp_loop_rounds 1 ?_;rw[rounds_succ];go_wp2_with fail;refine Zz (H1.o _) ?_;intro w1 Z;have q1:=Z.blk (Qh.new (w.alloc (.cells (Z4 s.leaf s) 29)) #[.func (.func 219) #[] #[],ZI 130] 288) (λh=>h);have r1:=q1.cell 1;simp at r1;replace Z:=((Zg Qb (w.alloc (.cells (Z4 s.leaf s) 29))).alloc (.cells #[.func (.func 219) #[] #[],ZI 130] 288)).aA Z;have S1:=O (S0.o.aB Z);have C1:=O (C0.o.aA Z);clear Z q1 u z B E I J K R U V c d k q;obtain⟨u,z,B,E,I,J,K,R,U,V,c,d,k,q⟩:=S1.o.cells;have z1:=Qh.lt S1.o;go_wp2;go_ret;exact⟨rfl,C1.o⟩
 |true=>
  cases x2 with
  |false=> clear H5;obtain⟨u,z,B,E,I,J,K,R,U,V,c,d,k,q⟩:=S0.o.cells;go_enter func163,ntmps163;go_wp2;refine wp_loop_rounds 2 ?_;rw[rounds_succ];go_wp2_with fail;refine Zz (H1.o _) ?_;intro w1 Z;have q1:=Z.blk (Qh.new (w.alloc (.cells (Z4 s.leaf s) 29)) #[.func (.func 219) #[] #[],ZI 130] 288) (λh=>h);have r1:=q1.cell 1;simp at r1;replace Z:=((Zg Qb (w.alloc (.cells (Z4 s.leaf s) 29))).alloc (.cells #[.func (.func 219) #[] #[],ZI 130] 288)).aA Z;have S1:=O (S0.o.aB Z);have C1:=O (C0.o.aA Z);clear Z q1 u z B E I J K R U V c d k q;obtain⟨u,z,B,E,I,J,K,R,U,V,c,d,k,q⟩:=S1.o.cells;have z1:=Qh.lt S1.o;go_wp2;clear r1;rw[rounds_succ];go_wp2_with fail;refine Zz (H2.o _) ?_;intro w2 c2;have q2:=c2.blk (Qh.new w1 #[.func (.func 220) #[] #[],ZI 30] 288) (λh=>h);have r2:=q2.cell 1;simp at r2;replace c2:=((Zg Qb w1).alloc (.cells #[.func (.func 220) #[] #[],ZI 30] 288)).aA c2;have S2:=O (S1.o.aB c2);have C2:=O (C1.o.aA c2);clear c2 q2 u z B E I J K R U V c d k q;obtain⟨u,z,B,E,I,J,K,R,U,V,c,d,k,q⟩:=S2.o.cells;have z2:=Qh.lt S2.o;clear z1;go_wp2;go_ret;exact⟨rfl,C2.o⟩
  |true=>
   replace H5:=H5 rfl;generalize s.aM=x5 at H5|-;cases x3 with
   |false=> obtain⟨u,z,B,E,I,J,K,R,U,V,c,d,k,q⟩:=S0.o.cells;go_enter func163,ntmps163;go_wp2;refine wp_loop_rounds 3 ?_;rw[rounds_succ];go_wp2_with fail;refine Zz (H1.o _) ?_;intro w1 Z;have q1:=Z.blk (Qh.new (w.alloc (.cells (Z4 s.leaf s) 29)) #[.func (.func 219) #[] #[],ZI 130] 288) (λh=>h);have r1:=q1.cell 1;simp at r1;replace Z:=((Zg Qb (w.alloc (.cells (Z4 s.leaf s) 29))).alloc (.cells #[.func (.func 219) #[] #[],ZI 130] 288)).aA Z;have S1:=O (S0.o.aB Z);have C1:=O (C0.o.aA Z);clear Z q1 u z B E I J K R U V c d k q;obtain⟨u,z,B,E,I,J,K,R,U,V,c,d,k,q⟩:=S1.o.cells;have z1:=Qh.lt S1.o;go_wp2;clear r1;rw[rounds_succ];go_wp2_with fail;refine Zz (H2.o _) ?_;intro w2 c2;have q2:=c2.blk (Qh.new w1 #[.func (.func 220) #[] #[],ZI 30] 288) (λh=>h);have r2:=q2.cell 1;simp at r2;replace c2:=((Zg Qb w1).alloc (.cells #[.func (.func 220) #[] #[],ZI 30] 288)).aA c2;have S2:=O (S1.o.aB c2);have C2:=O (C1.o.aA c2);clear c2 q2 u z B E I J K R U V c d k q;obtain⟨u,z,B,E,I,J,K,R,U,V,c,d,k,q⟩:=S2.o.cells;have z2:=Qh.lt S2.o;clear z1;go_wp2;clear r2;rw[rounds_succ];go_wp2_with fail;refine Zz (H3.o _) ?_;intro w3 c3;have q3:=c3.blk (Qh.new w2 #[.func (.func 221) #[] #[],ZI 130] 288) (λh=>h);have r3:=q3.cell 1;simp at r3;replace c3:=((Zg Qb w2).alloc (.cells #[.func (.func 221) #[] #[],ZI 130] 288)).aA c3;have S3:=O (S2.o.aB c3);have C3:=O (C2.o.aA c3);clear c3 q3 u z B E I J K R U V c d k q;obtain⟨u,z,B,E,I,J,K,R,U,V,c,d,k,q⟩:=S3.o.cells;have z3:=Qh.lt S3.o;clear z2;go_wp2;go_ret;exact⟨rfl,C3.o⟩
   |true=>
    cases x4 with
    |false=> obtain⟨u,z,B,E,I,J,K,R,U,V,c,d,k,q⟩:=S0.o.cells;go_enter func163,ntmps163;go_wp2;refine wp_loop_rounds 4 ?_;rw[rounds_succ];go_wp2_with fail;refine Zz (H1.o _) ?_;intro w1 Z;have q1:=Z.blk (Qh.new (w.alloc (.cells (Z4 s.leaf s) 29)) #[.func (.func 219) #[] #[],ZI 130] 288) (λh=>h);have r1:=q1.cell 1;simp at r1;replace Z:=((Zg Qb (w.alloc (.cells (Z4 s.leaf s) 29))).alloc (.cells #[.func (.func 219) #[] #[],ZI 130] 288)).aA Z;have S1:=O (S0.o.aB Z);have C1:=O (C0.o.aA Z);clear Z q1 u z B E I J K R U V c d k q;obtain⟨u,z,B,E,I,J,K,R,U,V,c,d,k,q⟩:=S1.o.cells;have z1:=Qh.lt S1.o;go_wp2;clear r1;rw[rounds_succ];go_wp2_with fail;refine Zz (H2.o _) ?_;intro w2 c2;have q2:=c2.blk (Qh.new w1 #[.func (.func 220) #[] #[],ZI 30] 288) (λh=>h);have r2:=q2.cell 1;simp at r2;replace c2:=((Zg Qb w1).alloc (.cells #[.func (.func 220) #[] #[],ZI 30] 288)).aA c2;have S2:=O (S1.o.aB c2);have C2:=O (C1.o.aA c2);clear c2 q2 u z B E I J K R U V c d k q;obtain⟨u,z,B,E,I,J,K,R,U,V,c,d,k,q⟩:=S2.o.cells;have z2:=Qh.lt S2.o;clear z1;go_wp2;clear r2;rw[rounds_succ];go_wp2_with fail;refine Zz (H3.o _) ?_;intro w3 c3;have q3:=c3.blk (Qh.new w2 #[.func (.func 221) #[] #[],ZI 130] 288) (λh=>h);have r3:=q3.cell 1;simp at r3;replace c3:=((Zg Qb w2).alloc (.cells #[.func (.func 221) #[] #[],ZI 130] 288)).aA c3;have S3:=O (S2.o.aB c3);have C3:=O (C2.o.aA c3);clear c3 q3 u z B E I J K R U V c d k q;obtain⟨u,z,B,E,I,J,K,R,U,V,c,d,k,q⟩:=S3.o.cells;have z3:=Qh.lt S3.o;clear z2;go_wp2;clear r3;rw[rounds_succ];go_wp2_with fail;refine Zz (H4.o _) ?_;intro w4 c4;have q4:=c4.blk (Qh.new w3 #[.func (.func 222) #[] #[],ZI 130] 288) (λh=>h);have r4:=q4.cell 1;simp at r4;replace c4:=((Zg Qb w3).alloc (.cells #[.func (.func 222) #[] #[],ZI 130] 288)).aA c4;have S4:=O (S3.o.aB c4);have C4:=O (C3.o.aA c4);clear c4 q4 u z B E I J K R U V c d k q;obtain⟨u,z,B,E,I,J,K,R,U,V,c,d,k,q⟩:=S4.o.cells;have z4:=Qh.lt S4.o;clear z3;go_wp2;go_ret;exact⟨rfl,C4.o⟩
    |true=>
     cases x5 with
     |false=> obtain⟨u,z,B,E,I,J,K,R,U,V,c,d,k,q⟩:=S0.o.cells;go_enter func163,ntmps163;go_wp2;refine wp_loop_rounds 5 ?_;rw[rounds_succ];go_wp2_with fail;refine Zz (H1.o _) ?_;intro w1 Z;have q1:=Z.blk (Qh.new (w.alloc (.cells (Z4 s.leaf s) 29)) #[.func (.func 219) #[] #[],ZI 130] 288) (λh=>h);have r1:=q1.cell 1;simp at r1;replace Z:=((Zg Qb (w.alloc (.cells (Z4 s.leaf s) 29))).alloc (.cells #[.func (.func 219) #[] #[],ZI 130] 288)).aA Z;have S1:=O (S0.o.aB Z);have C1:=O (C0.o.aA Z);clear Z q1 u z B E I J K R U V c d k q;obtain⟨u,z,B,E,I,J,K,R,U,V,c,d,k,q⟩:=S1.o.cells;have z1:=Qh.lt S1.o;go_wp2;clear r1;rw[rounds_succ];go_wp2_with fail;refine Zz (H2.o _) ?_;intro w2 c2;have q2:=c2.blk (Qh.new w1 #[.func (.func 220) #[] #[],ZI 30] 288) (λh=>h);have r2:=q2.cell 1;simp at r2;replace c2:=((Zg Qb w1).alloc (.cells #[.func (.func 220) #[] #[],ZI 30] 288)).aA c2;have S2:=O (S1.o.aB c2);have C2:=O (C1.o.aA c2);clear c2 q2 u z B E I J K R U V c d k q;obtain⟨u,z,B,E,I,J,K,R,U,V,c,d,k,q⟩:=S2.o.cells;have z2:=Qh.lt S2.o;clear z1;go_wp2;clear r2;rw[rounds_succ];go_wp2_with fail;refine Zz (H3.o _) ?_;intro w3 c3;have q3:=c3.blk (Qh.new w2 #[.func (.func 221) #[] #[],ZI 130] 288) (λh=>h);have r3:=q3.cell 1;simp at r3;replace c3:=((Zg Qb w2).alloc (.cells #[.func (.func 221) #[] #[],ZI 130] 288)).aA c3;have S3:=O (S2.o.aB c3);have C3:=O (C2.o.aA c3);clear c3 q3 u z B E I J K R U V c d k q;obtain⟨u,z,B,E,I,J,K,R,U,V,c,d,k,q⟩:=S3.o.cells;have z3:=Qh.lt S3.o;clear z2;go_wp2;clear r3;rw[rounds_succ];go_wp2_with fail;refine Zz (H4.o _) ?_;intro w4 c4;have q4:=c4.blk (Qh.new w3 #[.func (.func 222) #[] #[],ZI 130] 288) (λh=>h);have r4:=q4.cell 1;simp at r4;replace c4:=((Zg Qb w3).alloc (.cells #[.func (.func 222) #[] #[],ZI 130] 288)).aA c4;have S4:=O (S3.o.aB c4);have C4:=O (C3.o.aA c4);clear c4 q4 u z B E I J K R U V c d k q;obtain⟨u,z,B,E,I,J,K,R,U,V,c,d,k,q⟩:=S4.o.cells;have z4:=Qh.lt S4.o;clear z3;go_wp2;clear r4;rw[rounds_succ];go_wp2_with fail;refine Zz (H5.o _) ?_;intro w5 c5;have q5:=c5.blk (Qh.new w4 #[.func (.func 223) #[] #[],ZI 130] 288) (λh=>h);have r5:=q5.cell 1;simp at r5;replace c5:=((Zg Qb w4).alloc (.cells #[.func (.func 223) #[] #[],ZI 130] 288)).aA c5;have S5:=O (S4.o.aB c5);have C5:=O (C4.o.aA c5);clear c5 q5 u z B E I J K R U V c d k q;obtain⟨u,z,B,E,I,J,K,R,U,V,c,d,k,q⟩:=S5.o.cells;have z5:=Qh.lt S5.o;clear z4;go_wp2;go_ret;exact⟨rfl,C5.o⟩
     |true=> obtain⟨u,z,B,E,I,J,K,R,U,V,c,d,k,q⟩:=S0.o.cells;go_enter func163,ntmps163;go_wp2;refine wp_loop_rounds 6 ?_;rw[rounds_succ];go_wp2_with fail;refine Zz (H1.o _) ?_;intro w1 Z;have q1:=Z.blk (Qh.new (w.alloc (.cells (Z4 s.leaf s) 29)) #[.func (.func 219) #[] #[],ZI 130] 288) (λh=>h);have r1:=q1.cell 1;simp at r1;replace Z:=((Zg Qb (w.alloc (.cells (Z4 s.leaf s) 29))).alloc (.cells #[.func (.func 219) #[] #[],ZI 130] 288)).aA Z;have S1:=O (S0.o.aB Z);have C1:=O (C0.o.aA Z);clear Z q1 u z B E I J K R U V c d k q;obtain⟨u,z,B,E,I,J,K,R,U,V,c,d,k,q⟩:=S1.o.cells;have z1:=Qh.lt S1.o;go_wp2;clear r1;rw[rounds_succ];go_wp2_with fail;refine Zz (H2.o _) ?_;intro w2 c2;have q2:=c2.blk (Qh.new w1 #[.func (.func 220) #[] #[],ZI 30] 288) (λh=>h);have r2:=q2.cell 1;simp at r2;replace c2:=((Zg Qb w1).alloc (.cells #[.func (.func 220) #[] #[],ZI 30] 288)).aA c2;have S2:=O (S1.o.aB c2);have C2:=O (C1.o.aA c2);clear c2 q2 u z B E I J K R U V c d k q;obtain⟨u,z,B,E,I,J,K,R,U,V,c,d,k,q⟩:=S2.o.cells;have z2:=Qh.lt S2.o;clear z1;go_wp2;clear r2;rw[rounds_succ];go_wp2_with fail;refine Zz (H3.o _) ?_;intro w3 c3;have q3:=c3.blk (Qh.new w2 #[.func (.func 221) #[] #[],ZI 130] 288) (λh=>h);have r3:=q3.cell 1;simp at r3;replace c3:=((Zg Qb w2).alloc (.cells #[.func (.func 221) #[] #[],ZI 130] 288)).aA c3;have S3:=O (S2.o.aB c3);have C3:=O (C2.o.aA c3);clear c3 q3 u z B E I J K R U V c d k q;obtain⟨u,z,B,E,I,J,K,R,U,V,c,d,k,q⟩:=S3.o.cells;have z3:=Qh.lt S3.o;clear z2;go_wp2;clear r3;rw[rounds_succ];go_wp2_with fail;refine Zz (H4.o _) ?_;intro w4 c4;have q4:=c4.blk (Qh.new w3 #[.func (.func 222) #[] #[],ZI 130] 288) (λh=>h);have r4:=q4.cell 1;simp at r4;replace c4:=((Zg Qb w3).alloc (.cells #[.func (.func 222) #[] #[],ZI 130] 288)).aA c4;have S4:=O (S3.o.aB c4);have C4:=O (C3.o.aA c4);clear c4 q4 u z B E I J K R U V c d k q;obtain⟨u,z,B,E,I,J,K,R,U,V,c,d,k,q⟩:=S4.o.cells;have z4:=Qh.lt S4.o;clear z3;go_wp2;clear r4;rw[rounds_succ];go_wp2_with fail;refine Zz (H5.o _) ?_;intro w5 c5;have q5:=c5.blk (Qh.new w4 #[.func (.func 223) #[] #[],ZI 130] 288) (λh=>h);have r5:=q5.cell 1;simp at r5;replace c5:=((Zg Qb w4).alloc (.cells #[.func (.func 223) #[] #[],ZI 130] 288)).aA c5;have S5:=O (S4.o.aB c5);have C5:=O (C4.o.aA c5);clear c5 q5 u z B E I J K R U V c d k q;obtain⟨u,z,B,E,I,J,K,R,U,V,c,d,k,q⟩:=S5.o.cells;have z5:=Qh.lt S5.o;clear z4;go_wp2;clear r5;rw[rounds_succ];go_wp2;go_ret;exact⟨rfl,C5.o⟩
end
structure Vm where
 sp:Yk
 d:Nat
def Vm.id(c:Vm):Int:=c.sp.id
abbrev Qm:=List Vm
def Qm.at(h:Qm)(id:Int):Option Vm:=h.find? λc=>decide (c.sp.id=id)
def Qm.aM(h:Qm)(id:Int):List Int:=(h.filter λc=>decide (c.sp.par=id)).map (·.sp.id)
def Mb(c:Vm):Qm->Qm
 |[]=>[c]
 |x::l=>if c.sp.id<x.sp.id then c::x::l else x::Mb c l
def Qm.depth(h:Qm)(c:Int):Nat:=if c=0 then 1 else match h.at c with
 |none=>0
 |some p=>if p.sp.leaf||decide (8<=p.d)then 0 else p.d+1
def Qm.aO(h:Qm)(s:Yk):Int:=
 if s.mayE≠0 then 130 else if 64<=h.length then 4 else if(h.at s.id).isSome then 80 else if h.depth s.par=0 then 160 else 0
def Qm.add(h:Qm)(s:Yk):Qm:=if h.aO s=0 then Mb ⟨s,h.depth s.par⟩ h else h
def Yk.aK(a s:Yk):Yk:={a with real:=s.real,share:=s.share,aN:=s.aN}
def Qm.aG(h:Qm)(s:Yk):Int:=match h.at s.id with
 |none=>81
 |some c=>if(c.sp.aK s).mayE≠0 then 130 else 0
def Qm.change(h:Qm)(s:Yk):Qm:=if h.aG s=0 then h.map λx=>if x.sp.id=s.id then⟨x.sp.aK s,x.d⟩else x else h
def Qm.aP(h:Qm)(id:Int):Int:=match h.at id with
 |none=>81
 |some _=>if h.aM id≠[]then 161 else 0
def Qm.drop(h:Qm)(id:Int):Qm:=if h.aP id=0 then h.filter λx=>!decide (x.sp.id=id)else h
def Qm.path(h:Qm):Nat->Int->List Int
 |0,_=>[]
 |n+1,id=>match h.at id with
  |none=>[]
  |some c=>id::h.path n c.sp.par
def Qm.below(h:Qm)(id x:Int):Bool:=decide (id=0)||(h.path 9 x).contains id
def Qm.aI(h:Qm)(id:Int):List Int:=(h.filter λc=>c.sp.leaf&&h.below id c.sp.id).map (·.sp.id)
def Eo(n c:Int):Int:=if c<1\/65536<=c then 2 else if n<1\/c<n then 100 else 0
structure Qw where
 id:Int
 pk:Nat
 bt:Nat
 q:List Jr
 debt:Option Ju
structure Qf where
 most:Int
 tree:Qm
 aI:List Qw
 row:List Xu
 pick:Qe
def Qf.new(c:Int):Qf:=⟨c,[],[],[],Qe.new⟩
def Xl(c:Jy):Option Ju:=if c.none then none else some (Ju.new c)
def Yk.aJ(s:Yk):Bool:=!s.share.none&&decide s.share.May
def Ha(c:Jy):Kg:=if c.none||!decide c.May then none else some (.new c)
def Qe.put(p:Qe)(s:Yk):Qe:=match p.at s.par with
 |none=>p
 |some q=>if s.id<1||(p.at s.id).isSome||q.leaf then p else
  Qe.set (p++[⟨s.id,s.par,s.leaf,s.aJ,0,Ha s.aN,⟨[],0⟩,[],0⟩]) {q with mem:=if s.aJ then q.mem.add s.id s.share else q.mem,aM:=q.aM+1}
def Qe.drop(p:Qe)(id:Int):Qe:=match p.at id with
 |none=>p
 |some c=>if id<1||decide (0<c.aM)||p.aL id then p else match p.at c.par with
  |none=>p
  |some q=>(p.set {q with mem:=q.mem.drop id,aM:=q.aM-1}).filter λx=>!decide (x.id=id)
def Qe.aK(p:Qe)(s:Yk):Qe:=match p.at s.id with
 |none=>p
 |some c=>if s.id<1||p.aL s.id then p else
  (p.fam s.id λf=>if s.aJ then(f.drop s.id).add s.id s.share else f.drop s.id).map λx=>if x.id=s.id then{x with aJ:=s.aJ,total:=0,limit:=Ha s.aN}else x
def Qf.leaf(s:Qf)(id:Int):Option Qw:=s.aI.find? λl=>decide (l.id=id)
def Qf.aR(s:Qf)(l:Qw):Qf:={s with aI:=s.aI.map λx=>if x.id=l.id then l else x}
def Qf.qOf(s:Qf)(id:Int):List Jr:=((s.leaf id).map (·.q)).getD []
def Qf.many(s:Qf)(id:Int):Int:=((s.tree.aI id).map λx=>((s.qOf x).length:Int)).sum
def Qf.bytes(s:Qf)(id:Int):Int:=((s.tree.aI id).map λx=>Jn (s.qOf x)).sum
def Qf.aO(s:Qf)(c:Yk):Int:=s.tree.aO c
def Qf.add(s:Qf)(c:Yk):Qf:=if s.aO c=0 then
  {s with tree:=s.tree.add c,pick:=s.pick.put c,aI:=if c.leaf then s.aI++[⟨c.id,c.pk.toNat,c.bt.toNat,[],Xl c.real⟩]else s.aI}
 else s
def Qf.aG(s:Qf)(c:Yk):Int:=if(s.tree.at c.id).isNone then 81 else if 0<s.many c.id then 230 else s.tree.aG c
def Qf.change(s:Qf)(c:Yk):Qf:=if s.aG c=0 then
  {s with tree:=s.tree.change c,pick:=s.pick.aK c,aI:=s.aI.map λl=>if l.id=c.id then{l with debt:=Xl c.real}else l}
 else s
def Qf.aP(s:Qf)(id:Int):Int:=if(s.tree.at id).isNone then 81 else if s.tree.aM id≠[]then 161 else if 0<s.many id then 230 else 0
def Qf.drop(s:Qf)(id:Int):Qf:=if s.aP id=0 then
  {s with tree:=s.tree.drop id,pick:=s.pick.drop id,aI:=s.aI.filter λl=>!decide (l.id=id)}
 else s
def Hj(c:List Xu)(id:Int)(d:Ju):List Xu:=if d.aL then Vf id d.elig d.due c else Xa id c
def Qf.owe(s:Qf)(l:Qw)(f:Ju->Ju):Qf:=match l.debt with
 |none=>s.aR l
 |some d=>{s.aR {l with debt:=some (f d)}with row:=Hj s.row l.id (f d)}
def Qf.aQ(s:Qf)(p:Jr):Int:=match s.tree.at p.cls with
 |none=>81
 |some c=>if !c.sp.leaf then 162 else if Eo p.len s.most≠0 then Eo p.len s.most else match s.leaf p.cls with
  |none=>1
  |some l=>if l.q.length=l.pk\/(l.bt:Int)-Jn l.q<p.len then 110 else 0
def Qf.push(s:Qf)(p:Jr)(now:Nat):Qf:=if s.aQ p=0 then match s.leaf p.cls with
  |none=>s
  |some l=>
   let l':={l with q:=l.q++[p]}
   if l.q≠[]then s.aR l' else
    let s':=s.owe l' λd=>d.wake now p.len
    {s' with pick:=s'.pick.wake p.cls now}
 else s
structure ChM where
 p:Jr
 rule:Nat
 due:Nat
def Qf.aX(s:Qf)(id:Int)(rule:Nat):ChM:=match s.leaf id with
 |none=>⟨Jr.zero,rule,0⟩
 |some l=>⟨l.q.headD Jr.zero,rule,match l.debt with
  |none=>0
  |some d=>if rule=1 then d.dueAt else 0⟩
def Qf.take(s:Qf)(id:Int)(rule:Nat):Qf:=match s.leaf id with
 |none=>s
 |some l=>
  let p:=l.q.headD Jr.zero;let c:=l.q.tail.headD Jr.zero;let s':=s.owe {l with q:=l.q.tail} λd=>d.serve rule p.len c.len
  {s' with pick:=s'.pick.sent id (p.len*256).toNat (decide (l.q.tail≠[]))}
def Qf.who(s:Qf)(now:Nat):Option (Int×Nat):=match Jt now s.row with
 |some x=>some (x.2,1)
 |none=>(s.pick.next now 10 0).map λid=>(id,2)
def Qf.next(s:Qf)(now:Nat):Option ChM×Qf:=match s.who now with
 |none=>(none,s)
 |some (id,rule)=>(some (s.aX id rule),s.take id rule)
def Hk(c:List Xu):Nat:=match c with
 |[]=>Qq
 |e::_=>e.1
def Qf.tick(s:Qf):Nat:=min (Hk s.row) s.pick.tick
def Qf.elig(s:Qf)(id:Int):Nat:=(((s.leaf id).bind (·.debt)).map (·.from_)).getD Qq
def Qf.due(s:Qf)(id:Int):Nat:=(((s.leaf id).bind (·.debt)).map (·.dueAt)).getD Qq
end Go.Proofs.YtigcnnkagkbflaaGreat
