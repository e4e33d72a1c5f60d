/- A part of the proof: no condition. -/
import Derived.Test.YtnnhmpehkbihnaaGreatPs11
import Derived.Maps.OwnOps
import Derived.Maps.OwnSet
namespace Go.Proofs.YtnnhmpehkbihnaaGreat
set_option linter.unusedVariables false
set_option maxRecDepth 100000
set_option maxHeartbeats 4000000
open Go.RowKit
open Go.Proofs.Tryz
section
open Go.Maps Go.Shelf
theorem Qcj{w:World}{base:Nat}{e:TypeId}{sz:Nat}{v:Value}{n:Nat}{d:List Value}(h:w.ownsRow base e sz v n d):∃a cap,v=.slice a n cap:=by
 rcases h.2 with⟨rfl,h0⟩|⟨g,cap,c,rfl,_⟩;·exact⟨none,0,by rw[h0]⟩
 ·exact⟨_,cap,rfl⟩
theorem Qib{w:World}{base:Nat}{e:TypeId}{v:Value}{x y:Value}(h:w.ownsRow base e 1 v 2 [x,y]):∃g cap cs,v=.slice (some ⟨g,0,none⟩) 2 cap∧base≤g∧Qh w g (x::y::cs).toArray e∧
  ∀(w')(x' d:Value),Qh w' g (x'::d::cs).toArray e→w'.ownsRow base e 1 v 2 [x',d]:=by
 rcases h.2 with⟨_,h0⟩|⟨g,cap,c,rfl,k,q,hn,hc,hs,ht⟩;·cases h0
 ·have e1:c.toList=x::y::c.toList.drop 2:=by have:=List.take_append_drop 2 c.toList;rw[Nat.mul_one]at ht;rw[ht]at this;exact this.symm
  refine⟨g,cap,c.toList.drop 2,rfl,k,?_,fun w' x' d u=>?_⟩;·unfold Qh;rw[q,←e1]
  ·refine⟨rfl,.inr ⟨g,cap,(x'::d::c.toList.drop 2).toArray,rfl,k,u,hn,hc,?_,?_⟩⟩;·have z:c.size=cap*1:=hs;simp;omega
   ·simp
theorem Qfw{H:Type}(Bm b nn:Nat)(K:DataW H){R:Value→Option (DataW H×List MemPlace)}(w:World)(E:Maps.size K<maxLen)(c:Maps.size K*8+8≤140737488355328)
  (Z:∀u:List Int,u.Nodup→(∀x,x∈u↔has K (.int .u64 x)=true)→u.length≤2)
  (V:Bm<w.heap.size) (hm:w.cell? ⟨Bm,0,none⟩=some (.map (some b))) (I:w.ownsMap prog 29 R b nn K):
  Cl 240 #[.func (.func 255) #[] #[.pointer (some ⟨Bm,0,none⟩)]] w fun e W'=>∃(v:Value)(u:List Int),e=.returned v∧W'.ownsRow w.heap.size 29 1 v u.length (u.map (Value.int .u64))∧u.length≤2∧(∀x,x∈u↔has K (.int .u64 x)=true)∧Below w.heap.size w W':=by
 have C:=O (Qcm Bm b nn K w E c V hm I);clear E c V hm I;go_enter func240,ntmps240;go_wp2_with fail;refine Zo C ?_;rintro e w1⟨v,u,rfl,h1,h2,J,U⟩;have hl:=Z u h2 J;obtain⟨a,cap,rfl⟩:=Qcj h1
 match u,hl with
 |[],_=> have S:=O (Qbx a cap 0 (by omega) w1);have d:=O (Zt h1 (Zt J U));clear h1 h2 J U;go_wp2_with fail;refine Zo S ?_;rintro e w2⟨⟨r,rfl⟩,rfl⟩;go_wp2;go_ret;exact⟨_,[],rfl,d.o.1,by simp,d.o.2.1,d.o.2.2⟩
 |[x],_=> have S:=O (Qbx a cap 1 (by omega) w1);have d:=O (Zt h1 (Zt J U));clear h1 h2 J U;go_wp2_with fail;refine Zo S ?_;rintro e w2⟨⟨r,rfl⟩,rfl⟩;go_wp2;go_ret;exact⟨_,[x],rfl,d.o.1,by simp,d.o.2.1,d.o.2.2⟩
 |[x,y],_=>
  obtain⟨g,aa,cs,hv,hb,hB,q⟩:=Qib h1;injection hv with e1 e2 e3;subst e1 e3;have S:=O (Qmj g cap x y _ cs w1 hB);have d:=O (Zt q (Zt J (Zt U hb)));clear h1 h2 J U hB q hb;go_wp2_with fail;refine Zo S ?_;rintro e w2⟨⟨r,rfl⟩,s1,s2⟩;have HS:=O (Zt s1 s2);clear s1 s2;go_wp2;go_ret;refine⟨_,[min x y,max x y],rfl,d.o.1 _ _ _ HS.o.1,by simp,fun z=>?_,?_⟩;·rw[←d.o.2.1 z];simp only[Zu,List.not_mem_nil,or_false];omega
  ·refine d.o.2.2.1.trans (HS.o.2.toBelow (B:=w.heap.size) d.o.2.2.1.size (fun k hk=>by have:=d.o.2.2.2;have ab:k=g:=hk;omega))
end
theorem Qvz:Qce prog Jy.cells 3 289 38 24 Jy.zero where
 ht:=underlying289
 hi:=Ee (by kernel_rfl)
 pos:=by decide
 hc:=Jy.aF
 one:=by intro p u c;simp only[Jy.cells,Zu,List.not_mem_nil,or_false]at c;rcases c with rfl|rfl|rfl<;>rfl
theorem Qle{w}{g:Nat}(h:Qh w g #[] 38):Own Jy.cells 3 38 w (.slice (some ⟨g,0,none⟩) 0 0) ([]:List Jy):=
 ⟨by simp[Jm],.inr ⟨g,0,#[],rfl,Nat.zero_le _,h,Zv _,Nat.zero_le _,by simp,by simp[Jm]⟩⟩
theorem Qi7(l:List Jy)(ad:Addr)(cap:Nat)(w)(d:Kb Jy.cells 3 w (some ad) l)(hl:l.length≤1000)(h0:l≠[]):
  Cl 251 #[.slice (some ad) l.length cap] w fun e w'=>∃v,e=.returned v∧Own Jy.cells 3 38 w' v l∧Qc Qb w w'∧∀k,v.ownBlock=some k→w.heap.size≤k:=by
 have K:=O (Zt d h0);clear d h0;go_enter func251,ntmps251;have J:=fun(W)=>Lib.run_eql_slice_nil (P:=prog) W 289 38 (some ad) l.length cap 0 0 underlying289;go_wp2_with (at_builtin;refine Jj Qvz rfl (.tmp 5) (.tmp 6) rfl _ ([]:List Jy) rfl (Qle (Qh.new' _ _ (by simp))) _ _ l rfl ?a2 ?a3 ?a4 ?a5 ?a6);case a2=>intro h;cases h
 case a3=>exact K.o.1.aB ((Zg Qb w).alloc _) (fun _ _ h=>h)
 case a4=>simp[maxLen];omega
 case a5=>simp;omega
 case a6=>
  intro v' w1 c q u;have E:Qc Qb w w1:=((Zg Qb w).alloc (.cells #[] 38)).trans q fun j R=>.inr (by simp[Value.ownBlock]at R;omega);have I:∀k,v'.ownBlock=some k→w.heap.size≤k:=by
   intro k z;rcases u with h|h;·rw[h]at z;simp[Value.ownBlock]at z;omega
   ·rw[h]at z;have:=Zs z;have U:(w.alloc (.cells #[] 38)).heap.size=w.heap.size+1:=by simp
    omega
  have B:=O (Zt c (Zt E I));clear c E I q u;go_wp2;go_ret;exact⟨_,rfl,B.o.1,B.o.2.1,B.o.2.2⟩
theorem Qp4(c:Jy)(w):
  Cl 252 #[.agg #[.int .u64 c.f,.int .u64 c.l,.int .u64 c.r]] w fun e w'=>e=.returned (.bool (!decide c.May))∧Qc Qb w w':=by
 have M:=O (fun w=>K8 c w);generalize decide c.May=d at M⊢;go_enter func252,ntmps252;go_wp2_with fail;refine Zz (M.o _) ?_;intro w1 k;have q:=O (((Zg Qb w).alloc (.cells #[.int .u64 c.f,.int .u64 c.l,.int .u64 c.r] 38)).aA k);clear k;go_wp2;go_ret;exact⟨rfl,q.o⟩
theorem Qp5(c:Jy)(hc:c.May)(w w')(h':Qc Qb w w'):
  Cl 252 #[.agg #[.int .u64 c.f,.int .u64 c.l,.int .u64 c.r]] w' fun e d=>e=.returned (.bool false)∧Qc Qb w d:=
 (Qp4 c w').mono fun e d h=>⟨by rw[h.1,Px hc];rfl,h'.aA h.2⟩
theorem Qfv(l:List Jy)(a:Option Addr)(cap:Nat)(w)(q:Kb Jy.cells 3 w a l)(hl:l.length≤1000)(z:∀c∈l,c.May):
  Cl 261 #[.slice a l.length cap,.func (.func 252) #[] #[]] w fun e w'=>e=.returned (.int .i64 (-1))∧Qc Qb w w':=by
 have I:=O (Zt q z);clear q z;have E:=O (fun c(hc:c.May)w'(h':Qc Qb w w')=>Qp5 c hc w w' h');go_enter func261,ntmps261;go_wp2;go_loopw [5,8] (fun _ i wr=>∃k:Nat,k≤l.length∧i=.int .i64 k∧Qc Qb w wr) (fun _ i _=>l.length-(intOf i).toNat);case atStart=>exact⟨0,by omega,rfl,Zg _ _⟩
 case round=>
  obtain⟨k,hk,rfl,hc⟩:=hrel;rename_i wr;by_cases Xg:k<l.length
  ·obtain⟨g,o,rfl,J⟩:=I.o.1 k Xg;have d:∀j u,(Jy.cells l[k])[j]? =some u→wr.cell? ⟨g,o+k*3+j,none⟩=some u:=fun j u V=>hc.same (J j u V);have z:=I.o.2 l[k] (List.getElem_mem Xg);generalize l[k]=c at d z;have U:=d 0 _ rfl;have e1:=d 1 _ rfl;have Z:=d 2 _ rfl;simp only[Nat.add_zero]at U;have K:=O (E.o c z wr hc);clear J d;have k0:(0:Int)≤(k:Int):=by omega
   have k1:(k:Int)<(l.length:Int):=by omega
   have B:=O hc;clear hc z;go_wp2_with fail;refine Zy K ?_;intro w2 R;go_wp2;go_roundw;case rel=>exact⟨k+1,by omega,by go_num,R⟩
   case measure=>simp[intOf];omega
  ·have B:=O hc;clear hc;go_wp2;go_ret;exact⟨rfl,B.o⟩
section
attribute [local go_sem] Qp
theorem Qcn(l:List Jy)(a:Option Addr)(cap:Nat)(w)(d:Kb Jy.cells 3 w a l)(hl:l.length≤1000)(q:∀c∈l,c.May):
  Cl 250 #[.slice a l.length cap,.func (.func 252) #[] #[]] w fun e w'=>e=.returned (.slice a l.length cap)∧Qc Qb w w':=by
 have I:=O (Qfv l a cap w d hl q);clear d q;go_enter func250,ntmps250;go_wp2_with fail;refine Zy I ?_;intro w1 k;have C:=O k;clear k;go_wp2;go_ret;exact⟨rfl,C.o⟩
theorem Ih(l:List Jy)(ad:Addr)(cap:Nat)(w)(q:Kb Jy.cells 3 w (some ad) l)(hl:l.length≤1000)(h0:l≠[])(V:∀c∈l,c.May):
  Cl 239 #[.slice (some ad) l.length cap] w fun e w'=>∃v,e=.returned v∧Own Jy.cells 3 38 w' v l∧Qc Qb w w'∧∀k,v.ownBlock=some k→w.heap.size≤k:=by
 have C:=O (Qi7 l ad cap w q hl h0);have D:=O (fun a cap w(h:Kb Jy.cells 3 w a l)=>Qcn l a cap w h hl V);clear q h0 V;go_enter func239,ntmps239;go_wp2_with fail;refine Zo C ?_;rintro e w1⟨v,rfl,h1,K,U⟩;have R:=h1.row Jy.aF;obtain⟨a1,u,rfl,B,E,d⟩:=R;have Z:=O (D.o a1 u w1 d);have z:=O (Zt h1 (Zt K U));clear h1 K U d E B;go_wp2_with fail;refine Zy Z ?_;intro w2 J;have I:=O J;clear J;go_wp2;go_ret;exact⟨_,rfl,z.o.1.aB I.o (fun _ _ h=>h),z.o.2.1.aA I.o,z.o.2.2⟩
theorem Qea(m n:Nat)(w)(h:m+n<340282366920938463463374607431768211456):
  Cl 242 #[.agg #[.int .u64 ((m/18446744073709551616:Nat):Int),.int .u64 ((m%18446744073709551616:Nat):Int)],.agg #[.int .u64 ((n/18446744073709551616:Nat):Int),.int .u64 ((n%18446744073709551616:Nat):Int)]] w
   fun e w'=>e=.returned (.agg #[.int .u64 (((m+n)/18446744073709551616:Nat):Int),.int .u64 (((m+n)%18446744073709551616:Nat):Int)])∧Qc Qb w w':=by
 have P:=O (fun w=>Fg m n w h);clear h;generalize(((m+n)/18446744073709551616:Nat):Int)=I at P⊢;generalize(((m+n)%18446744073709551616:Nat):Int)=J at P⊢;generalize((m/18446744073709551616:Nat):Int)=d at P⊢;generalize((m%18446744073709551616:Nat):Int)=k at P⊢;generalize((n/18446744073709551616:Nat):Int)=u at P⊢;generalize((n%18446744073709551616:Nat):Int)=z at P⊢;go_enter func242,ntmps242;go_wp2_with fail;refine Zz (P.o _) ?_;intro w1 c;have q:=c.blk (Qh.new' (w:=(w.alloc (.cells #[.int .u64 d,.int .u64 k] 291)).alloc (.cells #[.int .u64 u,.int .u64 z] 291)) (n:=w.heap.size+1+1) #[.int .u64 0,.int .u64 0] 291 (by simp)) (fun h=>h);have B:=O (((((Zg Qb w).alloc (.cells #[.int .u64 d,.int .u64 k] 291)).alloc (.cells #[.int .u64 u,.int .u64 z] 291)).alloc (.cells #[.int .u64 0,.int .u64 0] 291)).aA c);have E:=q.lt;have k0:=q.cell 0;have k1:=q.cell 1;have kf:=q.frozen;simp at k0 k1;clear q c;go_wp2;refine bodyPost_ret (v:=.agg #[.int .u64 I,.int .u64 J]) (by simp[results,Tryz.results242,go_sem,k0,k1,E]) rfl ⟨rfl,?_⟩;have c:=B.o;exact Zh (Zk (Zk c _ (.inr (by simp;first|done|omega))) _ (.inr (by simp;first|done|omega))) _
def Jy.sum(l:List Jy)(t:Nat):Nat:=(l.map fun c=>c.at t).sum
theorem Jy.sum_succ(l:List Jy)(t k:Nat)(h:k<l.length):Jy.sum (l.take (k+1)) t=Jy.sum (l.take k) t+l[k].at t:=by simp only[Jy.sum,List.take_succ_eq_append_getElem h,List.map_append,List.sum_append];simp
theorem Jy.sum_le(l:List Jy)(t:Nat)(ht:t<18446744073709551616)(d:∀c∈l,c.May):Jy.sum l t≤l.length*38685626227668133590597632:=by
 induction l with
 |nil=>simp[Jy.sum]
 |cons c l k=>
  have h1:=k (fun c hc=>d c (by simp[hc]));have q:=c.at_le (d c (by simp)) t ht;have u:c.at t≤38685626227668133590597632:=by unfold Jy.at;omega
  simp only[Jy.sum,List.map_cons,List.sum_cons,Zm]at*;omega
theorem Qnq(l:List Jy)(ad:Addr)(cap:Nat)(t:Nat)(w)(Z:Kb Jy.cells 3 w (some ad) l)(hl:l.length≤1000)(h0:l≠[])(hm:∀c∈l,c.May)(ht:t<18446744073709551616):
  Cl 231 #[.slice (some ad) l.length cap,.int .u64 t] w fun e w'=>e=.returned (.agg #[.int .u64 ((Jy.sum l t/18446744073709551616:Nat):Int),.int .u64 ((Jy.sum l t%18446744073709551616:Nat):Int)])∧Qc Qb w w':=by
 have M:=O (fun w'(c:Qc Qb w w')=>Ih l ad cap w' (Z.aB c (fun _ _ h=>h)) hl h0 hm);have HM:=O hm;have ag:=O (fun k(h:k≤l.length)=>Jy.sum_le (l.take k) t ht (fun c hc=>hm c (List.mem_of_mem_take hc)));have HT:=O ht;clear Z h0 hm;go_enter func231,ntmps231;go_wp2_with fail;refine(M.o _ (Zh (Zh (Zg _ _) _) _)).mono ?_;rintro e w1⟨v,rfl,h1,h2,h3⟩;have R:=h1.row Jy.aF;obtain⟨a1,ai,rfl,au,a0,ae⟩:=R;have af:=O h2;have B1:=O (h2.blk (Qh.new' (w:=w.alloc (.cells #[.int .u64 0,.int .u64 0] 291)) (n:=w.heap.size+1) #[.int .u64 0,.int .u64 0] 291 (by simp)) (fun h=>h));have HR:=O (Zt h1 h3);clear h1 h2 h3 ae a0 au;have B0:=O (af.o.blk ((Qh.new w #[.int .u64 0,.int .u64 0] 291).alloc (.cells #[.int .u64 0,.int .u64 0] 291)) (fun h=>h));go_wp2;go_loopw [7,8,12] (fun _ _ i wr=>∃(k:Nat)(hi lo:Int),k≤l.length∧i=.int .i64 k∧Qh wr (w.heap.size+1) #[.int .u64 hi,.int .u64 lo] 291∧Qc (fun b=>b=w.heap.size+1) w1 wr∧Hi (hi=((Jy.sum (l.take k) t/18446744073709551616:Nat):Int)∧lo=((Jy.sum (l.take k) t%18446744073709551616:Nat):Int))) (fun _ _ i _=>l.length-(intOf i).toNat);case atStart=>exact⟨0,0,0,by omega,rfl,B1.o,Zg _ _,O ⟨by simp[Jy.sum],by simp[Jy.sum]⟩⟩
 case round=>
  obtain⟨k,hi,lo,hk,rfl,B,hc,HV⟩:=hrel;rename_i wr;by_cases Xg:k<l.length
  ·have V:Own Jy.cells 3 38 wr (.slice a1 l.length ai) l:=HR.o.1.aB hc (fun j hj e=>by have:=HR.o.2 j hj;simp at this;omega);obtain⟨a2,a6,e2,_,_,E⟩:=V.row Jy.aF;injection e2 with aq a8 ar;subst aq ar;obtain⟨g,o,rfl,hj⟩:=E k Xg;have u:=HM.o l[k] (List.getElem_mem Xg);have hs:=Jy.sum_succ l t k Xg;have a3:=ag.o k hk;have a4:=ag.o (k+1) Xg;have ay:(l.take k).length≤1000:=by rw[List.length_take];omega
   have az:(l.take (k+1)).length≤1000:=by rw[List.length_take];omega
   generalize l[k]=c at hj u hs;have e0:=hj 0 _ rfl;have e1:=hj 1 _ rfl;have e2:=hj 2 _ rfl;simp only[Nat.add_zero]at e0;have k0:(0:Int)≤(k:Int):=by omega
   have k1:(k:Int)<(l.length:Int):=by omega
   obtain⟨n,hn⟩:∃n,min t c.l=n:=⟨_,rfl⟩;obtain⟨d,hd⟩:∃d,t-n=d:=⟨_,rfl⟩;have aa:c.at t=c.f*n+c.r*d:=by unfold Jy.at;rw[hn,hd]
   have aj:=c.at_le u t HT.o;rw[hn,hd]at aj;have ht:=HT.o;have av:=u.hf;have aw:=u.hr;have ax:=u.hl;have M1:=fun w'=>Dw c.f n w' (by omega) (by omega);have M2:=fun w'=>Dw c.r d w' (by omega) (by omega);have J:=fun w'=>Qea (c.f*n) (c.r*d) w' (by omega);have U:=fun w'=>Qea (Jy.sum (l.take k) t) (c.f*n+c.r*d) w' (by omega);rw[←HV.o.1,←HV.o.2]at U;rw[←aa,←hs]at U;have z:IntKind.u64.wrap ((t:Int)-(n:Int))=(d:Int):=by rw[Fj _ (by omega) (by omega)];omega
   have HN:=O hn;clear hn aj av aw ax hs a3 a4 ay az hd;obtain⟨r1,ab⟩:∃r1,((Jy.sum (l.take (k+1)) t/18446744073709551616:Nat):Int)=r1:=⟨_,rfl⟩;obtain⟨r2,ac⟩:∃r2,((Jy.sum (l.take (k+1)) t%18446744073709551616:Nat):Int)=r2:=⟨_,rfl⟩;rw[ab,ac]at U;rw[aa]at U;have ap:=O (Zt ab.symm ac.symm);clear ab ac aa;generalize((c.f*n/18446744073709551616:Nat):Int)=x1 at M1 J;generalize((c.f*n%18446744073709551616:Nat):Int)=x2 at M1 J;generalize((c.r*d/18446744073709551616:Nat):Int)=y1 at M2 J;generalize((c.r*d%18446744073709551616:Nat):Int)=y2 at M2 J;generalize(((c.f*n+c.r*d)/18446744073709551616:Nat):Int)=z1 at J U;generalize(((c.f*n+c.r*d)%18446744073709551616:Nat):Int)=z2 at J U;have al:=O M1;have am:=O M2;have an:=O J;have ao:=O U;have ah:=O z;have HB:=O (Zt B hc);have a7:=O u;have G0:∀x,Qc Qb (wr.alloc (.cells #[.int .u64 c.f,.int .u64 c.l,.int .u64 c.r] 38)) (Qz Qb (wr.alloc (.cells #[.int .u64 c.f,.int .u64 c.l,.int .u64 c.r] 38)) x):=fun x=>Qv _ _ _;have g1:=fun x=>(fun h=>((h.blk (B.alloc _) (fun h=>h))).cell 0) (G0 x);have g2:=fun x=>(fun h=>((h.blk (B.alloc _) (fun h=>h))).cell 1) (G0 x);have g3:=fun x=>(fun h=>((h.blk (Qh.new wr #[.int .u64 c.f,.int .u64 c.l,.int .u64 c.r] 38) (fun h=>h))).cell 0) (G0 x);have g4:=fun x=>(fun h=>((h.blk (Qh.new wr #[.int .u64 c.f,.int .u64 c.l,.int .u64 c.r] 38) (fun h=>h))).cell 1) (G0 x);have g5:=fun x=>(fun h=>((h.blk (Qh.new wr #[.int .u64 c.f,.int .u64 c.l,.int .u64 c.r] 38) (fun h=>h))).cell 2) (G0 x);have I:=O (fun(w')(h:Qc Qb (wr.alloc (.cells #[.int .u64 c.f,.int .u64 c.l,.int .u64 c.r] 38)) w')=>Zt (((h.blk (B.alloc _) (fun h=>h))).frozen 0) (Zt (((h.blk (B.alloc _) (fun h=>h))).frozen 1) (Zt (((h.blk (B.alloc _) (fun h=>h))).cell 0) (((h.blk (B.alloc _) (fun h=>h))).cell 1))));simp at g1 g2 g3 g4 g5 I;have ba:=B.lt;clear B hc u V E hj M1 M2 J U z ht;go_upto_region 5 with(fail);go_cut [8] (fun s8 wx=>s8=.int .u64 n∧wx=wr.alloc (.cells #[.int .u64 c.f,.int .u64 c.l,.int .u64 c.r] 38))
   case first=>
    go_wp2;all_goals go_meet
    all_goals exact⟨by rw[←HN.o];congr 1;omega,rfl⟩
   case rest=>
    obtain⟨rfl,rfl⟩:=hcut;go_wp2;have z:=ah.o;refine Qu [3,7,8] [0,1,2,5,6,9] [4,10,11,12] [13] (Qz (Qb) (wr.alloc (.cells #[.int .u64 c.f,.int .u64 c.l,.int .u64 c.r] 38))) Zq (by kernel_rfl) (fun _ _ _ _ _ h=>h) (Qd (Zj (Zg _ _))) ?_;simp only[pick,Zf,Ze,Zd];iterate 3 (refine Ql (fun K hK=>?_);go_simp;refine hK _ ?_;clear hK K)
    refine Qg ?_;iterate 6 (refine Ql (fun K hK=>?_);go_simp;refine hK _ ?_;clear hK K)
    refine Qg ?_;intro _ a5;obtain⟨xo,ak⟩:=a5;subst ak;simp only[Jd];have c3:=Qv Qb (wr.alloc (.cells #[.int .u64 c.f,.int .u64 c.l,.int .u64 c.r] 38)) xo;generalize Qz Qb (wr.alloc (.cells #[.int .u64 c.f,.int .u64 c.l,.int .u64 c.r] 38)) xo=w3 at c3⊢;clear g1 g2 g3 g4 g5 z;go_wp2_with fail;refine Zz (al.o _) ?_;intro w4 d4;have c4:=c3.aA d4;clear d4 c3;go_wp2;refine⟨Qd c4,?_⟩;go_wp2_with fail;refine Zz (am.o _) ?_;intro w5 d5;have c5:=c4.aA d5;clear d5 c4;go_wp2;refine⟨Qd c5,?_⟩;go_wp2_with fail;refine Zz (an.o _) ?_;intro w6 d6;have c6:=c5.aA d6;clear d6 c5;go_wp2;refine⟨Qd c6,?_⟩;go_wp2_with fail;refine Zz (ao.o _) ?_;intro w7 d7;have c7:=c6.aA d7;clear d7 c6;go_wp2;refine⟨Qd c7,?_⟩;have K7:=I.o _ c7;obtain⟨f1,f2,f3,f4⟩:=K7;have C7:=O c7;clear c7;go_wp2;go_roundw
    case rel=>
     refine⟨k+1,r1,r2,by omega,by go_num,?_,?_,ap⟩;·exact((C7.o.blk (HB.o.1.alloc _) (fun h=>h)).set 0 _).set 1 _
     ·have h7:=(((Zg Qb wr).alloc _).aA C7.o);have h8:=HB.o.2.trans h7 (fun k h=>h.elim);exact Zk (Zk h8 _ (.inl rfl)) _ (.inl rfl)
    case measure=>simp[intOf];omega
  ·obtain rfl:k=l.length:=by omega
   rw[List.take_length]at HV;have c0:=B.cell 0;have c1:=B.cell 1;have q:=hc.blk B0.o (by omega);have ql:=q.lt;have q0:=q.cell 0;have q1:=q.cell 1;have qf:=q.frozen;simp at c0 c1 q0 q1;have HB:=O (Zt B hc);clear B hc q;go_wp2;refine bodyPost_ret (v:=.agg #[.int .u64 hi,.int .u64 lo]) (by simp[results,Tryz.results231,go_sem,q0,q1]) rfl ⟨by rw[HV.o.1,HV.o.2],?_⟩;have c1:=(((((Zg Qb w).alloc _).alloc _).aA af.o)).trans HB.o.2 (fun k hk=>.inr (by have a9:k=w.heap.size+1:=hk;omega));exact Zk (Zk c1 _ (.inr (by simp))) _ (.inr (by simp))
end
section
open Go.Maps Go.Shelf
theorem Quh(w):(zeroValue 3).run prog w=.ok (.int .i64 0) w:=by kernel_rfl
theorem Qu7(n:Nat)(h:n<18446744073709551616):(Lit.int .u64 n).wf=true:=by
 have h1:IntKind.u64.min=0:=by kernel_rfl
 have c:IntKind.u64.max=18446744073709551615:=by kernel_rfl
 simp[Lit.wf,h1,c];omega
theorem Qui(n:Nat)(h:n<18446744073709551616):keyOf prog 29 (.int .u64 n)=some (.int .u64 n):=keyOf_int_mk underlying29 (Qu7 n h)
theorem World.ownsMap.kept'{H:Type}{P:Program}{k:TypeId}{R:Value→Option (DataW H×List MemPlace)}{w w':World}{b n:Nat}{D:DataW H}{S:Nat→Prop}(h:w.ownsMap P k R b n D)(hc:Qc S w w')(B:¬S b:=by exact fun h=>h):w'.ownsMap P k R b n D:=by have d:=h.lt;obtain⟨u,c,E,q,hs,z⟩:=h;exact⟨u,c,(hc.block b d B).trans E,q,hs,z⟩
def Iw{H:Type}(l:List Jy)(D:DataW H):Prop:=∀x:Int,has D (.int .u64 x)=true↔∃c∈l,x=(c.l:Int)
theorem Iw.put{H:Type}{l:List Jy}{D:DataW H}(h:Iw l D)(u:IsMap D)(c:Jy)(q:WideAt.IsKeyLit (.int .u64 c.l))(d:DataW H):Iw (l++[c]) (D.put (.int .u64 c.l) d):=by
 intro x;by_cases k:x=(c.l:Int);·subst k;rw[has_put_same u q];simp
 ·rw[has_put_other (by simpa using k),h x];simp[k]
theorem u64T:Qce prog (fun x:Int=>[Value.int .u64 x]) 1 64 29 8 0 where
 ht:=underlying64
 hi:=Ee (by kernel_rfl)
 pos:=by decide
 hc:=fun _=>rfl
 one:=by intro p u c;simp only[Zu,List.not_mem_nil,or_false]at c;subst c;rfl
theorem Qvl(l:List Int):Jm (fun x:Int=>[Value.int .u64 x]) l=l.map (Value.int .u64):=by
 induction l with
 |nil=>rfl
 |cons x l c=>rw[V8,c];rfl
theorem Qia{w:World}{base:Nat}{v:Value}{l:List Int}(h:w.ownsRow base 29 1 v l.length (l.map (Value.int .u64))):Own (fun x:Int=>[Value.int .u64 x]) 1 29 w v l:=by
 unfold Own;rw[Qvl];obtain⟨h0,h⟩:=h;refine⟨h0,?_⟩;rcases h with h|⟨g,cap,c,e,d,r⟩;·exact .inl h
 ·exact .inr ⟨g,cap,c,e,Nat.zero_le _,r⟩
theorem Qr9{w}{g:Nat}(h:Qh w g #[.int .u64 0] 29):Own (fun x:Int=>[Value.int .u64 x]) 1 29 w (.slice (some ⟨g,0,none⟩) 1 1) [0]:=
 ⟨by rfl,.inr ⟨g,1,#[.int .u64 0],rfl,Nat.zero_le _,h,Zv _,by simp[maxLen],by simp,by simp[Jm]⟩⟩
theorem Qu1{p q:Int}:∀c:List Int,c.Nodup→(∀x∈c,x=p∨x=q)→c.length≤2
 |[],_,_=>by simp
 |[x],_,_=>by simp
 |[x,y],_,_=>by simp
 |x::y::z::r,hn,hm=>by have h1:=hm x (by simp);have d:=hm y (by simp);have k:=hm z (by simp);simp only[List.nodup_cons,Zu,not_or]at hn;obtain⟨⟨u,B,_⟩,⟨E,_⟩,_⟩:=hn;omega
theorem Qfn(a b:Jy)(ad:Addr)(cap:Nat)(w)(U:Kb Jy.cells 3 w (some ad) [a,b])(ha:a.May)(hb:b.May):
  Cl 230 #[.slice (some ad) 2 cap] w fun e w'=>∃(v:Value)(ts:List Int),e=.returned v∧Own (fun x:Int=>[Value.int .u64 x]) 1 29 w' v ts∧ts.length≤3∧(∀x,x∈ts↔x=0∨x=a.l∨x=b.l)∧Qc Qb w w':=by
 have ab:∀c∈[a,b],c.May:=by intro c hc;simp at hc;rcases hc with rfl|rfl<;>assumption
 have M:=O (fun w'(c:Qc Qb w w')=>Ih [a,b] ad cap w' (U.aB c (fun _ _ h=>h)) (by simp) (by simp) ab);obtain⟨l,hl⟩:∃l,[a,b]=l:=⟨_,rfl⟩;have aa:l.length=2:=by rw[←hl];rfl
 have ai:=O ab;rw[hl]at ai M;rw[aa]at M;have HL:=O hl;clear U ab hl;have a3:=fun(w)=>run_makeMap (P:=prog) 304 w;go_enter func230,ntmps230;go_wp2_with fail;refine(M.o _ (Zh (Zg _ _) _)).mono ?_;rintro e w1⟨v,rfl,h1,Z,h3⟩;have R:=h1.row Jy.aF;obtain⟨a1,aj,rfl,ay,a4,af⟩:=R;rw[aa];have ae:w1.ownsMap prog 29 (plainElem (H:=Unit) prog 3) w.heap.size 0 (.map []):=World.ownsMap.kept' (World.ownsMap_made w prog 29 _) Z;have ah:=O Z;have HR:=O (Zt h1 (Zt h3 ae));clear h1 Z h3 af a4 ay a3;go_wp2;go_loopw [5,10] (fun _ i wr=>∃(k n:Nat)(D:DataW Unit),k≤2∧i=.int .i64 k∧n≤k∧wr.ownsMap prog 29 (plainElem prog 3) w.heap.size n D∧Iw (l.take k) D∧Qc (fun b=>b=w.heap.size) w1 wr) (fun _ i _=>2-(intOf i).toNat);case atStart=>exact⟨0,0,.map [],by omega,rfl,by omega,HR.o.2.2,fun x=>by simp[has],Zg _ _⟩
 case round=>
  obtain⟨k,n,D,J,rfl,hn,hm,hD,hc⟩:=hrel;rename_i wr;by_cases Xg:k<2
  ·have u:k<l.length:=by omega
   have K:Own Jy.cells 3 38 wr (.slice a1 l.length aj) l:=HR.o.1.aB hc (fun j hj e=>by have:=HR.o.2.1 j hj;simp at this;omega);obtain⟨a2,a6,e2,_,_,B⟩:=K.row Jy.aF;injection e2 with aw a8 ax;subst aw ax;obtain⟨g,o,rfl,hj⟩:=B k u;have ac:=ai.o l[k] (List.getElem_mem u);have ag:l.take (k+1)=l.take k++[l[k]]:=List.take_succ_eq_append_getElem u;generalize l[k]=c at hj ac ag;have e0:=hj 0 _ rfl;have e1:=hj 1 _ rfl;have e2:=hj 2 _ rfl;simp only[Nat.add_zero]at e0;have k0:(0:Int)≤(k:Int):=by omega
   have k1:(k:Int)<2:=by omega
   have d:=Qui c.l (by have:=ac.hl;omega);have I:=O (Zt hm (Zt hD (Zt hc ag)));clear hm hD hc ac K B hj ag;go_wp2_with (first
    |(at_lookup;refine wpList_lookup_own_int _ rfl (.tmp 14) (.tmp 16) 304 rfl 29 3 .i64 law64 underlying304 underlying3 (Quh _) _ n D rfl (I.o.1.alloc _) _ _ rfl d ?_;intro cc a9 ba)
    |(at_mapUpdate;refine wpList_mapUpdate_own _ rfl (.tmp 14) (.tmp 16) (.tmp 18) 304 rfl 29 3 law64 underlying304 (plainElem prog 3) _ n D rfl (I.o.1.alloc _) (by simp[maxLen];omega) _ _ _ rfl rfl d _ [] (plainElem_int underlying3 (Go.RowKit.wrap64_wf _)) ?_;intro w5 ap ao))
   have d5:=((Zg Qb wr).alloc (.cells #[.int .u64 c.f,.int .u64 c.l,.int .u64 c.r] 38)).mono (S':=fun b=>b=w.heap.size) (fun k h=>h.elim);have c5:=I.o.2.2.1.aA (d5.grown ao (fun k J=>.inl (by simpa using J.symm)));have l5:=I.o.2.1.put I.o.1.isMap c (law64.key d) (.lit (.int .i64 (Go.RowKit.wrap64 (cc+1))));rw[←I.o.2.2.2]at l5;have H5:=O (Zt ap (Zt l5 c5));clear ap ao d5 c5 l5;go_wp2;go_roundw;case rel=>exact⟨k+1,n+1,_,by omega,by go_num,by omega,H5.o.1,H5.o.2.1,H5.o.2.2⟩
   case measure=>simp[intOf];omega
  ·obtain rfl:k=2:=by omega
   have I:=O (Zt hm (Zt hD hc));clear hm hD hc;go_wp2_with (at_delete;refine wpList_delete_own _ rfl (.tmp 20) (.const (.int .u64 0)) 304 29 rfl 3 law64 underlying304 (plainElem prog 3) _ n D rfl I.o.1 _ _ rfl (Qui 0 (by decide)) ?_;intro w6 aq au);have c6:=(I.o.2.2.grown au.grown (fun k J=>.inl (by simpa using J.symm)));have al:∀x:Int,has (D.del (.int .u64 ((0:Nat):Int))) (.int .u64 x)=true↔x≠0∧(x=(a.l:Int)∨x=(b.l:Int)):=by
    intro x;have am:=I.o.2.1 x;rw[←aa,List.take_length,←HL.o]at am;by_cases hx:x=0;·subst hx;rw[show(Lit.int .u64 ((0:Nat):Int))=.int .u64 0 from rfl,has_del_same];simp
    ·rw[has_del_other (by simpa using hx),am];simp[hx]
   have V:=O (Zt aq (Zt al c6));clear aq au c6 al;go_wp2_with fail;refine(callsIn_wide.1 (Qrx Fence.wide 0 trivial rfl _ _)).mono ?_;rintro e w7⟨rfl,rfl⟩;have SS:=O (Qfw (w6.heap.size+1) w.heap.size n (D.del (.int .u64 ((0:Nat):Int))) ((w6.alloc (.cells #[.int .u64 0] 29)).alloc (.cells #[.map (some w.heap.size)] 304)) (by have:=V.o.1.size_le;simp only[maxLen];omega) (by have:=V.o.1.size_le;omega)
    (fun ss h1 Z=>Qu1 (p:=a.l) (q:=b.l) ss h1 (fun x hx=>(((V.o.2.1 x).1 ((Z x).1 hx)).2))) (by simp) ((Qh.new' (w:=w6.alloc (.cells #[.int .u64 0] 29)) (n:=w6.heap.size+1) #[.map (some w.heap.size)] 304 (by simp)).cell 0) ((V.o.1.alloc _).alloc _))
   go_wp2_with fail;refine(SS.o).mono ?_;rintro e w8⟨v,ss,rfl,h1,Z,h3,h4⟩;obtain⟨av,ak,az,_,ar,E⟩:=(Qia h1).row u64T.hc;subst az;have hO:Own (fun x:Int=>[Value.int .u64 x]) 1 29 w8 (.slice (some ⟨w6.heap.size,0,none⟩) 1 1) [0]:=Qr9 (((Qh.new w6 #[.int .u64 0] 29).alloc (.cells #[.map (some w.heap.size)] 304))|>(Qc.ofBelow (S:=Qb) h4).blk <|(fun h=>h));have c8:Qc Qb w w8:=by have d2:Qc Qb w w6:=(((Zg Qb w).alloc (.map #[] 0)).aA ah.o).trans V.o.2.2 (fun k J=>.inr (by have a0:k=w.heap.size:=J;omega));exact((d2.alloc _).alloc _).aA (Qc.ofBelow h4)
   have HH:=O (Zt E (Zt ar (Zt hO (Zt h3 c8))));have a7:=Z;clear h1 h3 h4 E ar hO c8;go_wp2_with (at_builtin;refine Jj u64T rfl (.tmp 21) (.tmp 24) rfl (.slice (some ⟨w6.heap.size,0,none⟩) 1 1) [0] rfl HH.o.2.2.1 av ak ss rfl HH.o.2.1 HH.o.1 (by simp[maxLen];omega) (by simp;omega) ?_;intro v' w9 z an a5);have H9:=O (Zt z an);clear z an a5;go_wp2;go_ret;refine⟨_,[0]++ss,rfl,H9.o.1,by simp;omega,fun x=>?_,?_⟩;·rw[Zl,HH.o.2.2.2.1 x,V.o.2.1 x];simp only[Zu,List.not_mem_nil,or_false];by_cases hx:x=0<;>simp[hx]
   ·refine HH.o.2.2.2.2.trans H9.o.2 (fun k J=>.inr ?_);have a0:w6.heap.size=k:=by simpa[Value.ownBlock]using J
    have h5:w.heap.size+1≤w1.heap.size:=by simpa using ah.o.size
    have h6:w1.heap.size≤w6.heap.size:=V.o.2.2.size;omega
structure Qcr(w:World)(g:Nat)(a b:Jy):Prop where
 a:Qh w g #[.int .u64 a.f,.int .u64 a.l,.int .u64 a.r] 38
 b:Qh w (g+1) #[.int .u64 b.f,.int .u64 b.l,.int .u64 b.r] 38
theorem Qcr.aB{w w'}{g:Nat}{a b:Jy}(h:Qcr w g a b)(c:Qc Qb w w'):Qcr w' g a b:=⟨c.blk h.a (fun h=>h),c.blk h.b (fun h=>h)⟩
theorem Qcr.cells{w}{g:Nat}{a b:Jy}(h:Qcr w g a b):w.cell? ⟨g,0,none⟩=some (.int .u64 a.f)∧w.cell? ⟨g,1,none⟩=some (.int .u64 a.l)∧w.cell? ⟨g,2,none⟩=some (.int .u64 a.r)∧
  w.cell? ⟨g+1,0,none⟩=some (.int .u64 b.f)∧w.cell? ⟨g+1,1,none⟩=some (.int .u64 b.l)∧w.cell? ⟨g+1,2,none⟩=some (.int .u64 b.r):=
 ⟨h.a.cell 0,h.a.cell 1,h.a.cell 2,h.b.cell 0,h.b.cell 1,h.b.cell 2⟩
theorem Ql5{w}{g:Nat}{l:List Jy}{t:TypeId}(h:Qh w g (Jm Jy.cells l).toArray t):Kb Jy.cells 3 w (some ⟨g,0,none⟩) l:=RowBlk.row Jy.aF h
theorem Qmb(a b:Jy)(ha:a.May)(hb:b.May)(w):
  Cl 218 #[.agg #[.int .u64 a.f,.int .u64 a.l,.int .u64 a.r],.agg #[.int .u64 b.f,.int .u64 b.l,.int .u64 b.r]] w
   fun e w'=>e=.returned (.bool (decide (a.r≤b.r)&&(a.leAt b a.l&&a.leAt b b.l)))∧Qc Qb w w':=by
 have MA:=O (fun w=>K8 a w);have MB:=O (fun w=>K8 b w);rw[Px ha]at MA;rw[Px hb]at MB;have d:=O (Zt ha hb);have T0:Qcr ((w.alloc (.cells #[.int .u64 a.f,.int .u64 a.l,.int .u64 a.r] 38)).alloc (.cells #[.int .u64 b.f,.int .u64 b.l,.int .u64 b.r] 38)) w.heap.size a b:=⟨(Qh.new _ _ _).alloc _,Qh.new' _ _ (by simp)⟩;have T0:=O T0;clear ha hb;by_cases hr:a.r≤b.r
 ·have B:decide (a.r≤b.r)=true:=by simpa using hr
  have ai:decide (b.r<a.r)=false:=by simp;omega
  rw[B,Bool.true_and];clear B hr;go_enter func218,ntmps218;go_wp2_with fail;refine Zz (MA.o _) ?_;intro w1 V;have T1:=O (T0.o.aB V);have C1:=O ((((Zg Qb w).alloc (.cells #[.int .u64 a.f,.int .u64 a.l,.int .u64 a.r] 38)).alloc (.cells #[.int .u64 b.f,.int .u64 b.l,.int .u64 b.r] 38)).aA V);clear V;obtain⟨k0,k1,k2,k3,k4,k5⟩:=T1.o.cells;go_wp2_with fail;refine Zz (MB.o _) ?_;intro w2 Z;have T2:=O (T1.o.aB Z);have C2:=O (C1.o.aA Z);clear Z k0 k1 k2 k3 k4 k5;obtain⟨k0,k1,k2,k3,k4,k5⟩:=T2.o.cells;have CC:=O (Qfn a b ⟨w2.heap.size,0,none⟩ 2 (w2.alloc (.cells #[.int .u64 a.f,.int .u64 a.l,.int .u64 a.r,.int .u64 b.f,.int .u64 b.l,.int .u64 b.r] 38)) (Ql5 (l:=[a,b]) (Qh.new w2 #[.int .u64 a.f,.int .u64 a.l,.int .u64 a.r,.int .u64 b.f,.int .u64 b.l,.int .u64 b.r] 38)) d.o.1 d.o.2);go_wp2_with fail;refine Zo CC ?_;rintro e w3⟨v,u,rfl,h1,h2,h3,h4⟩;obtain⟨tv,tc,rfl,_,ah,E⟩:=h1.row u64T.hc;have T3:=O ((T2.o.aB ((Zg _ _).alloc (.cells #[.int .u64 a.f,.int .u64 a.l,.int .u64 a.r,.int .u64 b.f,.int .u64 b.l,.int .u64 b.r] 38))).aB h4);have C3:=O ((C2.o.alloc (.cells #[.int .u64 a.f,.int .u64 a.l,.int .u64 a.r,.int .u64 b.f,.int .u64 b.l,.int .u64 b.r] 38)).aA h4);have HR:=O (Zt E h3);have aj:=h2;clear h1 h3 h4 E ah k0 k1 k2 k3 k4 k5;go_wp2;go_loopw [6,27] (fun _ i wr=>∃k:Nat,k≤u.length∧i=.int .i64 k∧Qc Qb w3 wr∧∀x∈u.take k,a.leAt b x.toNat=true) (fun _ i _=>u.length-(intOf i).toNat);case atStart=>exact⟨0,by omega,rfl,Zg _ _,by simp⟩
  case round=>
   obtain⟨k,hk,rfl,hc,q⟩:=hrel;rename_i wr;have TR:=O (T3.o.aB hc);by_cases Xg:k<u.length
   ·obtain⟨g,o,rfl,hj⟩:=HR.o.1 k Xg;have e0:=hc.same (hj 0 _ rfl);have z:=(HR.o.2 u[k]).1 (List.getElem_mem Xg);have ab:u.take (k+1)=u.take k++[u[k]]:=List.take_succ_eq_append_getElem Xg;have aa:u[k]∈u:=List.getElem_mem Xg;generalize u[k]=x at e0 z ab aa;obtain⟨n,rfl⟩:∃n:Nat,x=(n:Int):=⟨x.toNat,by omega⟩;have hn:n<18446744073709551616:=by have h5:=d.o.1.hl;have h6:=d.o.2.hl;omega
    have AA:=fun(g':Nat)(w')(h:Qh w' g' #[.int .u64 a.f,.int .u64 a.l,.int .u64 a.r] 38)=>Qnq [a] ⟨g',0,none⟩ 1 n w' (Ql5 (l:=[a]) h) (by simp) (by simp) (by intro c hc;simp at hc;subst hc;exact d.o.1) hn;have BB:=fun(g':Nat)(w')(h:Qh w' g' #[.int .u64 b.f,.int .u64 b.l,.int .u64 b.r] 38)=>Qnq [b] ⟨g',0,none⟩ 1 n w' (Ql5 (l:=[b]) h) (by simp) (by simp) (by intro c hc;simp at hc;subst hc;exact d.o.2) hn;have sa:Jy.sum [a] n=a.at n:=by simp[Jy.sum]
    have sb:Jy.sum [b] n=b.at n:=by simp[Jy.sum]
    rw[sa]at AA;rw[sb]at BB;have K:a.leAt b n=decide (a.at n≤b.at n):=rfl;have R:=Qb5 (a.at n) (b.at n);have cg:=Quy (a.at n) (b.at n);generalize a.at n=x1 at AA K R cg;generalize b.at n=x2 at BB K R cg;generalize((x1/18446744073709551616:Nat):Int)=y1 at AA R;generalize((x1%18446744073709551616:Nat):Int)=y2 at AA R;generalize((x2/18446744073709551616:Nat):Int)=y3 at BB R;generalize((x2%18446744073709551616:Nat):Int)=y4 at BB R;have HA:=O AA;have ac:=O BB;have ae:=O R;have I:=O (Zt hc (Zt q (Zt ab (Zt z aa))));have k0:(0:Int)≤(k:Int):=by omega
    have k1:(k:Int)<(u.length:Int):=by omega
    have af:decide ((0:Int)<Io x1 x2)=!(a.leAt b n):=by rw[cg,K]
    have U:=O (fun(w')(h:Qc Qb wr w')=>(TR.o.aB h).cells);clear hc q ab z aa AA BB R cg K sa sb hn hj;simp only[Nat.add_zero,Nat.mul_one]at e0;cases J:a.leAt b n with
    |true=>
     rw[J]at af;have HL:=O J;clear J;go_wp2;go_region_held3 (fun w':World=>w'.cell? ⟨w.heap.size,0,none⟩=some (.int .u64 a.f)∧w'.cell? ⟨w.heap.size,1,none⟩=some (.int .u64 a.l)∧w'.cell? ⟨w.heap.size,2,none⟩=some (.int .u64 a.r)∧w'.cell? ⟨w.heap.size+1,0,none⟩=some (.int .u64 b.f)∧w'.cell? ⟨w.heap.size+1,1,none⟩=some (.int .u64 b.l)∧w'.cell? ⟨w.heap.size+1,2,none⟩=some (.int .u64 b.r)) (exact U.o _ (by(repeat' (first|(with_reducible first|exact Zg _ _|assumption|refine Zh ?_ _|refine Zi ?_ _|refine Zj ?_|refine Zk ?_ _ ?_|(apply Or.inl;rfl))|(apply Or.inl;simp;done)|(apply Or.inr;simp;first|done|omega))))) (first|(go_at_call 231;refine Calls.mono (HA.o _ _ ?_) ?_;(focus ((repeat' (first|(with_reducible refine Qh.new' _ _ ?_;first|rfl|(simp;done))|(with_reducible refine Qh.alloc ?_ _)|(with_reducible refine Qh.drew ?_)|(with_reducible refine Qh.drewN ?_ _)));done));rintro e w5⟨rfl,c5⟩;have d5:Qc Qb wr w5:=Qc.aA (by(repeat' (first|(with_reducible first|exact Zg _ _|assumption|refine Zh ?_ _|refine Zi ?_ _|refine Zj ?_|refine Zk ?_ _ ?_|(apply Or.inl;rfl))|(apply Or.inl;simp;done)|(apply Or.inr;simp;first|done|omega)))) c5)|(go_at_call 231;refine Calls.mono (ac.o _ _ ?_) ?_;(focus ((repeat' (first|(with_reducible refine Qh.new' _ _ ?_;first|rfl|(simp;done))|(with_reducible refine Qh.alloc ?_ _)|(with_reducible refine Qh.drew ?_)|(with_reducible refine Qh.drewN ?_ _)|(with_reducible refine Qc.blk c5 ?_ (fun h=>h))));done));rintro e w6⟨rfl,c6⟩;have d6:Qc Qb wr w6:=Qc.aA (by(repeat' (first|(with_reducible first|exact Zg _ _|assumption|refine Zh ?_ _|refine Zi ?_ _|refine Zj ?_|refine Zk ?_ _ ?_|(apply Or.inl;rfl))|(apply Or.inl;simp;done)|(apply Or.inr;simp;first|done|omega)))) c6)|(go_at_call 232;refine(ae.o _).mono ?_;rintro e w7⟨rfl,c7⟩;have d7:Qc Qb wr w7:=Qc.aA (by(repeat' (first|(with_reducible first|exact Zg _ _|assumption|refine Zh ?_ _|refine Zi ?_ _|refine Zj ?_|refine Zk ?_ _ ?_|(apply Or.inl;rfl))|(apply Or.inl;simp;done)|(apply Or.inr;simp;first|done|omega)))) c7));all_goals
      go_wp2;go_roundw
      case rel=>
       refine⟨k+1,by omega,by go_num,I.o.1.aA d7,fun x hx=>?_⟩;rw[I.o.2.2.1]at hx;rcases Zl.1 hx with h|h;·exact I.o.2.1 x h
       ·simp only[Zu,List.not_mem_nil,or_false]at h;subst h;simpa using HL.o
      case measure=>simp[intOf];omega
    |false=>
     rw[J]at af;have ag:(a.leAt b a.l&&a.leAt b b.l)=false:=by
      rcases I.o.2.2.2.1 with h|h|h
      ·have h0:n=0:=by omega
       subst h0;simp[Jy.leAt,Jy.at]at J
      ·have h0:n=a.l:=by omega
       subst h0;rw[J];rfl
      ·have h0:n=b.l:=by omega
       subst h0;rw[J];cases a.leAt b a.l<;>rfl
     have HL:=O (Zt J ag);clear J ag;go_wp2;go_region_held3 (fun w':World=>w'.cell? ⟨w.heap.size,0,none⟩=some (.int .u64 a.f)∧w'.cell? ⟨w.heap.size,1,none⟩=some (.int .u64 a.l)∧w'.cell? ⟨w.heap.size,2,none⟩=some (.int .u64 a.r)∧w'.cell? ⟨w.heap.size+1,0,none⟩=some (.int .u64 b.f)∧w'.cell? ⟨w.heap.size+1,1,none⟩=some (.int .u64 b.l)∧w'.cell? ⟨w.heap.size+1,2,none⟩=some (.int .u64 b.r)) (exact U.o _ (by(repeat' (first|(with_reducible first|exact Zg _ _|assumption|refine Zh ?_ _|refine Zi ?_ _|refine Zj ?_|refine Zk ?_ _ ?_|(apply Or.inl;rfl))|(apply Or.inl;simp;done)|(apply Or.inr;simp;first|done|omega))))) (first|(go_at_call 231;refine Calls.mono (HA.o _ _ ?_) ?_;(focus ((repeat' (first|(with_reducible refine Qh.new' _ _ ?_;first|rfl|(simp;done))|(with_reducible refine Qh.alloc ?_ _)|(with_reducible refine Qh.drew ?_)|(with_reducible refine Qh.drewN ?_ _)));done));rintro e w5⟨rfl,c5⟩;have d5:Qc Qb wr w5:=Qc.aA (by(repeat' (first|(with_reducible first|exact Zg _ _|assumption|refine Zh ?_ _|refine Zi ?_ _|refine Zj ?_|refine Zk ?_ _ ?_|(apply Or.inl;rfl))|(apply Or.inl;simp;done)|(apply Or.inr;simp;first|done|omega)))) c5)|(go_at_call 231;refine Calls.mono (ac.o _ _ ?_) ?_;(focus ((repeat' (first|(with_reducible refine Qh.new' _ _ ?_;first|rfl|(simp;done))|(with_reducible refine Qh.alloc ?_ _)|(with_reducible refine Qh.drew ?_)|(with_reducible refine Qh.drewN ?_ _)|(with_reducible refine Qc.blk c5 ?_ (fun h=>h))));done));rintro e w6⟨rfl,c6⟩;have d6:Qc Qb wr w6:=Qc.aA (by(repeat' (first|(with_reducible first|exact Zg _ _|assumption|refine Zh ?_ _|refine Zi ?_ _|refine Zj ?_|refine Zk ?_ _ ?_|(apply Or.inl;rfl))|(apply Or.inl;simp;done)|(apply Or.inr;simp;first|done|omega)))) c6)|(go_at_call 232;refine(ae.o _).mono ?_;rintro e w7⟨rfl,c7⟩;have d7:Qc Qb wr w7:=Qc.aA (by(repeat' (first|(with_reducible first|exact Zg _ _|assumption|refine Zh ?_ _|refine Zi ?_ _|refine Zj ?_|refine Zk ?_ _ ?_|(apply Or.inl;rfl))|(apply Or.inl;simp;done)|(apply Or.inr;simp;first|done|omega)))) c7));all_goals go_wp2
     all_goals go_ret
     all_goals exact⟨by rw[HL.o.2];rfl,(C3.o.aA I.o.1).aA d7⟩
   ·obtain rfl:k=u.length:=by omega
    rw[List.take_length]at q;have I:=O (Zt hc q);clear hc q;go_wp2;go_ret;have e1:=I.o.2 a.l ((HR.o.2 _).2 (by simp));have e2:=I.o.2 b.l ((HR.o.2 _).2 (by simp));simp only[Int.toNat_natCast]at e1 e2;exact⟨by rw[e1,e2];rfl,C3.o.aA I.o.1⟩
 ·have B:decide (a.r≤b.r)=false:=by simpa using hr
  have ai:decide (b.r<a.r)=true:=by simp;omega
  rw[B,Bool.false_and];clear B hr;go_enter func218,ntmps218;go_wp2_with fail;refine Zz (MA.o _) ?_;intro w1 V;have T1:=O (T0.o.aB V);have C1:=O ((((Zg Qb w).alloc (.cells #[.int .u64 a.f,.int .u64 a.l,.int .u64 a.r] 38)).alloc (.cells #[.int .u64 b.f,.int .u64 b.l,.int .u64 b.r] 38)).aA V);clear V;obtain⟨k0,k1,k2,k3,k4,k5⟩:=T1.o.cells;go_wp2_with fail;refine Zz (MB.o _) ?_;intro w2 Z;have T2:=O (T1.o.aB Z);have C2:=O (C1.o.aA Z);clear Z k0 k1 k2 k3 k4 k5;obtain⟨k0,k1,k2,k3,k4,k5⟩:=T2.o.cells;go_wp2;go_ret;exact⟨rfl,C2.o⟩
end
section
attribute [local go_sem] Qp
def Xx(w:World)(g:Nat)(s:Yk):Prop:=Qh w g (Z4 s.leaf s) 40
theorem Xx.aB{w w'}{g:Nat}{s:Yk}(h:Xx w g s)(c:Qc Qb w w'):Xx w' g s:=c.blk h (fun h=>h)
theorem Xx.cells{w}{g:Nat}{s:Yk}(h:Xx w g s):w.cell? ⟨g,0,none⟩=some (.int .i64 s.id)∧w.cell? ⟨g,1,none⟩=some (.int .i64 s.par)∧w.cell? ⟨g,2,none⟩=some (.bool s.leaf)∧w.cell? ⟨g,3,none⟩=some (.int .u64 s.real.f)∧w.cell? ⟨g,4,none⟩=some (.int .u64 s.real.l)∧w.cell? ⟨g,5,none⟩=some (.int .u64 s.real.r)∧w.cell? ⟨g,6,none⟩=some (.int .u64 s.share.f)∧w.cell? ⟨g,7,none⟩=some (.int .u64 s.share.l)∧w.cell? ⟨g,8,none⟩=some (.int .u64 s.share.r)∧w.cell? ⟨g,9,none⟩=some (.int .u64 s.aN.f)∧w.cell? ⟨g,10,none⟩=some (.int .u64 s.aN.l)∧w.cell? ⟨g,11,none⟩=some (.int .u64 s.aN.r)∧w.cell? ⟨g,12,none⟩=some (.int .i64 s.pk)∧w.cell? ⟨g,13,none⟩=some (.int .i64 s.bt):=
 ⟨Qh.cell h 0,Qh.cell h 1,Qh.cell h 2,Qh.cell h 3,Qh.cell h 4,Qh.cell h 5,Qh.cell h 6,Qh.cell h 7,Qh.cell h 8,Qh.cell h 9,Qh.cell h 10,Qh.cell h 11,Qh.cell h 12,Qh.cell h 13⟩
theorem Xx.new(w:World)(s:Yk):Xx (w.alloc (.cells (Z4 s.leaf s) 40)) w.heap.size s:=Qh.new _ _ _
theorem Qic(s:Yk)(w):Cl 180 #[.agg (Z4 s.leaf s)] w fun e w'=>e=.returned (.bool (decide s.real.May&&(decide s.share.May&&decide s.aN.May)))∧Qc Qb w w':=by
 have S0:=O (Xx.new w s);have C0:=O ((Zg Qb w).alloc (.cells (Z4 s.leaf s) 40));have H1:=O (K8 s.real);have H2:=O (K8 s.share);have H3:=O (K8 s.aN);generalize decide s.real.May=x at H1⊢;generalize decide s.share.May=y at H2⊢;generalize decide s.aN.May=z at H3⊢;cases x with
 |false=> obtain⟨u,a1,B,E,I,J,K,R,U,V,c,d,k,q⟩:=S0.o.cells;go_enter func180,ntmps180;go_wp2_with fail;refine Zz (H1.o _) ?_;intro w1 Z;have S1:=O (S0.o.aB Z);have C1:=O (C0.o.aA Z);clear Z u a1 B E I J K R U V c d k q;obtain⟨u,a1,B,E,I,J,K,R,U,V,c,d,k,q⟩:=S1.o.cells;go_wp2;go_ret;exact⟨rfl,C1.o⟩
 |true=>
  cases y with
  |false=> obtain⟨u,a1,B,E,I,J,K,R,U,V,c,d,k,q⟩:=S0.o.cells;go_enter func180,ntmps180;go_wp2_with fail;refine Zz (H1.o _) ?_;intro w1 Z;have S1:=O (S0.o.aB Z);have C1:=O (C0.o.aA Z);clear Z u a1 B E I J K R U V c d k q;obtain⟨u,a1,B,E,I,J,K,R,U,V,c,d,k,q⟩:=S1.o.cells;go_wp2_with fail;refine Zz (H2.o _) ?_;intro w2 c2;have S2:=O (S1.o.aB c2);have C2:=O (C1.o.aA c2);clear c2 u a1 B E I J K R U V c d k q;obtain⟨u,a1,B,E,I,J,K,R,U,V,c,d,k,q⟩:=S2.o.cells;go_wp2;go_ret;exact⟨rfl,C2.o⟩
  |true=> obtain⟨u,a1,B,E,I,J,K,R,U,V,c,d,k,q⟩:=S0.o.cells;go_enter func180,ntmps180;go_wp2_with fail;refine Zz (H1.o _) ?_;intro w1 Z;have S1:=O (S0.o.aB Z);have C1:=O (C0.o.aA Z);clear Z u a1 B E I J K R U V c d k q;obtain⟨u,a1,B,E,I,J,K,R,U,V,c,d,k,q⟩:=S1.o.cells;go_wp2_with fail;refine Zz (H2.o _) ?_;intro w2 c2;have S2:=O (S1.o.aB c2);have C2:=O (C1.o.aA c2);clear c2 u a1 B E I J K R U V c d k q;obtain⟨u,a1,B,E,I,J,K,R,U,V,c,d,k,q⟩:=S2.o.cells;go_wp2_with fail;refine Zz (H3.o _) ?_;intro w3 c3;have S3:=O (S2.o.aB c3);have C3:=O (C2.o.aA c3);clear c3 u a1 B E I J K R U V c d k q;obtain⟨u,a1,B,E,I,J,K,R,U,V,c,d,k,q⟩:=S3.o.cells;go_wp2;go_ret;exact⟨rfl,C3.o⟩
def Jy.goes(c:Jy):Bool:=c.none||decide (0<c.r)
theorem Qd4(c:Jy)(w):Cl 217 #[.agg #[.int .u64 c.f,.int .u64 c.l,.int .u64 c.r]] w fun e w'=>e=.returned (.bool c.goes)∧Qc Qb w w':=by
 have z:=O (Qh.new w #[.int .u64 c.f,.int .u64 c.l,.int .u64 c.r] 38);have u:=O (Kz c);unfold Jy.goes;have B:decide ((0:Int)<(c.r:Int))=decide (0<c.r):=by simp
 generalize c.none=x at u⊢;cases x with
 |true=> go_enter func217,ntmps217;go_wp2_with fail;refine Zz (u.o _) ?_;intro w1 d;have k:=O (((Zg Qb w).alloc (.cells #[.int .u64 c.f,.int .u64 c.l,.int .u64 c.r] 38)).aA d);clear d;go_wp2;go_ret;exact⟨rfl,k.o⟩
 |false=> rw[←B];go_enter func217,ntmps217;go_wp2_with fail;refine Zz (u.o _) ?_;intro w1 d;have k:=O (((Zg Qb w).alloc (.cells #[.int .u64 c.f,.int .u64 c.l,.int .u64 c.r] 38)).aA d);have q:=(d.blk z.o (fun h=>h)).cell 2;simp at q;clear d;go_wp2;go_ret;exact⟨by simp,k.o⟩
theorem Qie(s:Yk)(w):Cl 182 #[.agg (Z4 s.leaf s)] w fun e w'=>e=.returned (.bool (s.share.goes&&(s.aN.goes&&(s.aN.none||!s.share.none))))∧Qc Qb w w':=by
 have S0:=O (Xx.new w s);have C0:=O ((Zg Qb w).alloc (.cells (Z4 s.leaf s) 40));have H1:=O (Qd4 s.share);have H2:=O (Qd4 s.aN);have H3:=O (Kz s.aN);have H4:=O (Kz s.share);generalize s.share.goes=x at H1⊢;generalize s.aN.goes=y at H2⊢;generalize s.aN.none=z at H3⊢;generalize s.share.none=u at H4⊢;cases x with
 |false=> obtain⟨B,a1,E,I,J,K,R,U,V,Z,c,d,k,q⟩:=S0.o.cells;go_enter func182,ntmps182;go_wp2_with fail;refine Zz (H1.o _) ?_;intro w1 c1;have S1:=O (S0.o.aB c1);have C1:=O (C0.o.aA c1);clear c1 B a1 E I J K R U V Z c d k q;obtain⟨B,a1,E,I,J,K,R,U,V,Z,c,d,k,q⟩:=S1.o.cells;go_wp2;go_ret;exact⟨rfl,C1.o⟩
 |true=>
  cases y with
  |false=> obtain⟨B,a1,E,I,J,K,R,U,V,Z,c,d,k,q⟩:=S0.o.cells;go_enter func182,ntmps182;go_wp2_with fail;refine Zz (H1.o _) ?_;intro w1 c1;have S1:=O (S0.o.aB c1);have C1:=O (C0.o.aA c1);clear c1 B a1 E I J K R U V Z c d k q;obtain⟨B,a1,E,I,J,K,R,U,V,Z,c,d,k,q⟩:=S1.o.cells;go_wp2_with fail;refine Zz (H2.o _) ?_;intro w2 c2;have S2:=O (S1.o.aB c2);have C2:=O (C1.o.aA c2);clear c2 B a1 E I J K R U V Z c d k q;obtain⟨B,a1,E,I,J,K,R,U,V,Z,c,d,k,q⟩:=S2.o.cells;go_wp2;go_ret;exact⟨rfl,C2.o⟩
  |true=>
   cases z with
   |true=> obtain⟨B,a1,E,I,J,K,R,U,V,Z,c,d,k,q⟩:=S0.o.cells;go_enter func182,ntmps182;go_wp2_with fail;refine Zz (H1.o _) ?_;intro w1 c1;have S1:=O (S0.o.aB c1);have C1:=O (C0.o.aA c1);clear c1 B a1 E I J K R U V Z c d k q;obtain⟨B,a1,E,I,J,K,R,U,V,Z,c,d,k,q⟩:=S1.o.cells;go_wp2_with fail;refine Zz (H2.o _) ?_;intro w2 c2;have S2:=O (S1.o.aB c2);have C2:=O (C1.o.aA c2);clear c2 B a1 E I J K R U V Z c d k q;obtain⟨B,a1,E,I,J,K,R,U,V,Z,c,d,k,q⟩:=S2.o.cells;go_wp2_with fail;refine Zz (H3.o _) ?_;intro w3 c3;have S3:=O (S2.o.aB c3);have C3:=O (C2.o.aA c3);clear c3 B a1 E I J K R U V Z c d k q;obtain⟨B,a1,E,I,J,K,R,U,V,Z,c,d,k,q⟩:=S3.o.cells;go_wp2;go_ret;exact⟨rfl,C3.o⟩
   |false=> obtain⟨B,a1,E,I,J,K,R,U,V,Z,c,d,k,q⟩:=S0.o.cells;go_enter func182,ntmps182;go_wp2_with fail;refine Zz (H1.o _) ?_;intro w1 c1;have S1:=O (S0.o.aB c1);have C1:=O (C0.o.aA c1);clear c1 B a1 E I J K R U V Z c d k q;obtain⟨B,a1,E,I,J,K,R,U,V,Z,c,d,k,q⟩:=S1.o.cells;go_wp2_with fail;refine Zz (H2.o _) ?_;intro w2 c2;have S2:=O (S1.o.aB c2);have C2:=O (C1.o.aA c2);clear c2 B a1 E I J K R U V Z c d k q;obtain⟨B,a1,E,I,J,K,R,U,V,Z,c,d,k,q⟩:=S2.o.cells;go_wp2_with fail;refine Zz (H3.o _) ?_;intro w3 c3;have S3:=O (S2.o.aB c3);have C3:=O (C2.o.aA c3);clear c3 B a1 E I J K R U V Z c d k q;obtain⟨B,a1,E,I,J,K,R,U,V,Z,c,d,k,q⟩:=S3.o.cells;go_wp2_with fail;refine Zz (H4.o _) ?_;intro w4 c4;have S4:=O (S3.o.aB c4);have C4:=O (C3.o.aA c4);clear c4 B a1 E I J K R U V Z c d k q;obtain⟨B,a1,E,I,J,K,R,U,V,Z,c,d,k,q⟩:=S4.o.cells;go_wp2;go_ret;exact⟨rfl,C4.o⟩
def Yk.aM(s:Yk):Bool:=s.real.none||(s.aN.none||(decide (s.real.r≤s.aN.r)&&(s.real.leAt s.aN s.real.l&&s.real.leAt s.aN s.aN.l)))
theorem Qlg(s:Yk)(hr:s.real.May)(hu:s.aN.May)(w):Cl 183 #[.agg (Z4 s.leaf s)] w fun e w'=>e=.returned (.bool s.aM)∧Qc Qb w w':=by
 have S0:=O (Xx.new w s);have C0:=O ((Zg Qb w).alloc (.cells (Z4 s.leaf s) 40));have H1:=O (Kz s.real);have H2:=O (Kz s.aN);have H3:=O (Qmb s.real s.aN hr hu);unfold Yk.aM;clear hr hu;generalize(decide (s.real.r≤s.aN.r)&&(s.real.leAt s.aN s.real.l&&s.real.leAt s.aN s.aN.l))=z at H3⊢;generalize s.real.none=x at H1⊢;generalize s.aN.none=y at H2⊢;cases x with
 |true=> obtain⟨u,a1,B,E,I,J,K,R,U,V,c,d,k,q⟩:=S0.o.cells;go_enter func183,ntmps183;go_wp2_with fail;refine Zz (H1.o _) ?_;intro w1 Z;have S1:=O (S0.o.aB Z);have C1:=O (C0.o.aA Z);clear Z u a1 B E I J K R U V c d k q;obtain⟨u,a1,B,E,I,J,K,R,U,V,c,d,k,q⟩:=S1.o.cells;go_wp2;go_ret;exact⟨rfl,C1.o⟩
 |false=>
  cases y with
  |true=> obtain⟨u,a1,B,E,I,J,K,R,U,V,c,d,k,q⟩:=S0.o.cells;go_enter func183,ntmps183;go_wp2_with fail;refine Zz (H1.o _) ?_;intro w1 Z;have S1:=O (S0.o.aB Z);have C1:=O (C0.o.aA Z);clear Z u a1 B E I J K R U V c d k q;obtain⟨u,a1,B,E,I,J,K,R,U,V,c,d,k,q⟩:=S1.o.cells;go_wp2_with fail;refine Zz (H2.o _) ?_;intro w2 c2;have S2:=O (S1.o.aB c2);have C2:=O (C1.o.aA c2);clear c2 u a1 B E I J K R U V c d k q;obtain⟨u,a1,B,E,I,J,K,R,U,V,c,d,k,q⟩:=S2.o.cells;go_wp2;go_ret;exact⟨rfl,C2.o⟩
  |false=> obtain⟨u,a1,B,E,I,J,K,R,U,V,c,d,k,q⟩:=S0.o.cells;go_enter func183,ntmps183;go_wp2_with fail;refine Zz (H1.o _) ?_;intro w1 Z;have S1:=O (S0.o.aB Z);have C1:=O (C0.o.aA Z);clear Z u a1 B E I J K R U V c d k q;obtain⟨u,a1,B,E,I,J,K,R,U,V,c,d,k,q⟩:=S1.o.cells;go_wp2_with fail;refine Zz (H2.o _) ?_;intro w2 c2;have S2:=O (S1.o.aB c2);have C2:=O (C1.o.aA c2);clear c2 u a1 B E I J K R U V c d k q;obtain⟨u,a1,B,E,I,J,K,R,U,V,c,d,k,q⟩:=S2.o.cells;go_wp2_with fail;refine Zz (H3.o _) ?_;intro w3 c3;have S3:=O (S2.o.aB c3);have C3:=O (C2.o.aA c3);clear c3 u a1 B E I J K R U V c d k q;obtain⟨u,a1,B,E,I,J,K,R,U,V,c,d,k,q⟩:=S3.o.cells;go_wp2;go_ret;exact⟨rfl,C3.o⟩
end
end Go.Proofs.YtnnhmpehkbihnaaGreat
