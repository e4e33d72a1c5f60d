/- A part of the proof: no condition. -/
import Derived.Test.YtnnhmpehkbihnaaGreatPp08
namespace Go.Proofs.YtnnhmpehkbihnaaGreat
set_option linter.unusedVariables false
set_option maxRecDepth 100000
set_option maxHeartbeats 4000000
open Go.RowKit
open Go.Proofs.Tryz
section
attribute [local go_sem] Qq
theorem Qpt{w:World}{b:Nat}{x y z:Nd}{c cy E:Bool}{yl yr d q:Tr}(hs:Yj w b (.node x c (.node y cy yl yr) (.node z E d q)))(J:d.red=false):
  Cl 245 #[ptr b,ptr x.a] w fun e w'=>e=.returned (ptr x.a)∧Yj w' b (.node x (!c) (.node y (!cy) yl yr) (.node z (!E) d q))∧Qc (fun k=>k∈(Tr.node x c (.node y cy yl yr) (.node z E d q)).addrs) w w':=by
 have R:=O (Ut hs);unfold ptr at*;clear hs;go_enter func245,ntmps245;go_wp2_with fail;refine R.out.mono ?_;rintro e w1⟨rfl,u,K⟩;have I:=Yk d u.at'.2.2.2.1;rw[J]at I;obtain⟨a0,a1,a2,a3,a4,a5,a6,a7⟩:=Q7 u.at'.1;obtain⟨b0,b1,b2,b3,b4,b5,b6,b7⟩:=Q7 u.at'.2.2.1;have B:(Tr.node z (!E) d q).ptrV=.pointer (some ⟨z.a,0,none⟩):=rfl;rw[B]at a7;have U:=O u;have Z:=O (show Qc (fun k=>k∈(Tr.node x c (.node y cy yl yr) (.node z E d q)).addrs) w w1 from K.sub fun k V=>by rcases V with rfl|rfl|rfl<;>simp[Tr.addrs]);clear u K B J;go_wp2_with fail;refine I.mono ?_;rintro e w2⟨rfl,rfl⟩;go_wp2;go_ret;exact⟨rfl,U.out,Z.out⟩
theorem Qmt{w:World}{b:Nat}{x y z:Nd}{c cy B:Bool}{yl yr E u:Tr}(hs:Yj w b (.node x c (.node y cy yl yr) (.node z B E u)))(J:yl.red=false):
  Cl 248 #[ptr b,ptr x.a] w fun e w'=>e=.returned (ptr x.a)∧Yj w' b (.node x (!c) (.node y (!cy) yl yr) (.node z (!B) E u))∧Qc (fun k=>k∈(Tr.node x c (.node y cy yl yr) (.node z B E u)).addrs) w w':=by
 have U:=O (Ut hs);unfold ptr at*;clear hs;go_enter func248,ntmps248;go_wp2_with fail;refine U.out.mono ?_;rintro e w1⟨rfl,d,K⟩;have I:=Yk yl d.at'.2.1.2.1;rw[J]at I;obtain⟨a0,a1,a2,a3,a4,a5,R,a7⟩:=Q7 d.at'.1;obtain⟨b0,b1,b2,b3,b4,b5,b6,b7⟩:=Q7 d.at'.2.1.1;have q:(Tr.node y (!cy) yl yr).ptrV=.pointer (some ⟨y.a,0,none⟩):=rfl;rw[q]at R;have V:=O d;have C1:=O (show Qc (fun k=>k∈(Tr.node x c (.node y cy yl yr) (.node z B E u)).addrs) w w1 from K.sub fun k Z=>by rcases Z with rfl|rfl|rfl<;>simp[Tr.addrs]);clear d K q J;go_wp2_with fail;refine I.mono ?_;rintro e w2⟨rfl,rfl⟩;go_wp2;go_ret;exact⟨rfl,V.out,C1.out⟩
theorem Qpu{w:World}{b:Nat}{x y z u:Nd}{c cy U:Bool}{yl yr B q R:Tr}(hs:Yj w b (.node x c (.node y cy yl yr) (.node z U (.node u true B q) R))):
  Cl 245 #[ptr b,ptr x.a] w fun e w'=>e=.returned (ptr u.a)∧Yj w' b (Qc4 (Qbx (.node x (!c) (.node y (!cy) yl yr) (Qa1 (.node z (!U) (.node u true B q) R)))))∧Qc (fun k=>k∈(Tr.node x c (.node y cy yl yr) (.node z U (.node u true B q) R)).addrs) w w':=by
 have HC:=O (Ut hs);unfold ptr at*;clear hs;go_enter func245,ntmps245;go_wp2_with fail;refine HC.out.mono ?_;rintro e w1⟨rfl,J,c1⟩;have HI:=Yk (.node u true B q) J.at'.2.2.2.1;have E:(Tr.node u true B q).ptrV=.pointer (some ⟨u.a,0,none⟩):=rfl;have aa:(Tr.node u true B q).red=true:=rfl;rw[aa,E]at HI;obtain⟨a0,a1,a2,a3,a4,a5,a6,a7⟩:=Q7 J.at'.1;obtain⟨b0,b1,b2,b3,b4,b5,b6,b7⟩:=Q7 J.at'.2.2.1;have V:(Tr.node z (!U) (.node u true B q) R).ptrV=.pointer (some ⟨z.a,0,none⟩):=rfl;rw[V]at a7;rw[E]at b6;have I1:=O J;have HR:=O (Qa4 J.right);have C1:=O (show Qc (fun k=>k∈(Tr.node x c (.node y cy yl yr) (.node z U (.node u true B q) R)).addrs) w w1 from c1.sub fun k d=>by rcases d with rfl|rfl|rfl<;>simp[Tr.addrs]);have Z:¬(x.a=z.a∨x.a=u.a):=by have:=J.nd;simp only[Tr.addrs,List.nodup_cons,List.mem_append,List.mem_cons,not_or,List.nodup_append]at this;grind
 have ac:=O Z;unfold ptr at*;clear J c1 V aa E Z;go_wp2_with fail;refine HI.mono ?_;rintro e w2⟨rfl,rfl⟩;go_wp2_with fail;refine HR.out.mono ?_;rintro e w2⟨rfl,i2,c2⟩;have B2:=c2.blk I1.out.at'.1 ac.out;have f2:=B2.frozen;obtain⟨d0,d1,d2,d3,d4,d5,d6,d7⟩:=Q7 B2;have FX:=O (fun w3(e:w3=w2.setCell ⟨x.a,7,none⟩ (.pointer (some ⟨u.a,0,none⟩)))=>I1.out.setR i2 c2 (fun k d=>by rcases d with rfl|rfl<;>simp[Tr.addrs]) (fun k d=>.inl (by rw[Gx]at d;exact d)) e);clear i2 c2 B2 a0 a1 a2 a3 a4 a5 a6 a7 b0 b1 b2 b3 b4 b5 b6 b7;go_wp2_with fail;obtain⟨w3,I⟩:=Zx (w2.setCell ⟨x.a,7,none⟩ (.pointer (some ⟨u.a,0,none⟩)));rw[←I];obtain⟨i3,c3⟩:=FX.out _ I;have hb:=Qjf i3;unfold ptr at hb;clear I d0 d1 d2 d3 d4 d5 d6 d7 f2;refine hb.mono ?_;rintro e w4⟨rfl,i4,c4⟩;have K:=Ut i4;unfold ptr at K;go_wp2_with fail;refine K.mono ?_;rintro e w5⟨rfl,i5,c5⟩;have ab:=O (show Qc (fun k=>k∈(Tr.node x c (.node y cy yl yr) (.node z U (.node u true B q) R)).addrs) w w5 from((C1.out.trans' (c3.sub fun k d=>d)).trans' (c4.sub fun k d=>by rcases d with rfl|rfl<;>simp[Tr.addrs,Nd.re])).trans' (c5.sub fun k d=>by rcases d with rfl|rfl|rfl<;>simp[Tr.addrs,Nd.re]));have I5:=O i5;clear i3 c3 i4 c4 i5 c5 hb K;go_wp2;go_ret;exact⟨rfl,I5.out,ab.out⟩
theorem Qmu{w:World}{b:Nat}{x y z u:Nd}{c cy U:Bool}{q d yr Z I:Tr}(hs:Yj w b (.node x c (.node y cy (.node u true q d) yr) (.node z U Z I))):
  Cl 248 #[ptr b,ptr x.a] w fun e w'=>e=.returned (ptr y.a)∧Yj w' b (Qc4 (Qa1 (.node x (!c) (.node y (!cy) (.node u true q d) yr) (.node z (!U) Z I))))∧Qc (fun k=>k∈(Tr.node x c (.node y cy (.node u true q d) yr) (.node z U Z I)).addrs) w w':=by
 have HC:=O (Ut hs);unfold ptr at*;clear hs;go_enter func248,ntmps248;go_wp2_with fail;refine HC.out.mono ?_;rintro e w1⟨rfl,J,c1⟩;have HI:=Yk (.node u true q d) J.at'.2.1.2.1;have B:(Tr.node u true q d).ptrV=.pointer (some ⟨u.a,0,none⟩):=rfl;have V:(Tr.node u true q d).red=true:=rfl;rw[V,B]at HI;obtain⟨a0,a1,a2,a3,a4,a5,a6,a7⟩:=Q7 J.at'.1;obtain⟨b0,b1,b2,b3,b4,b5,b6,b7⟩:=Q7 J.at'.2.1.1;have R:(Tr.node y (!cy) (.node u true q d) yr).ptrV=.pointer (some ⟨y.a,0,none⟩):=rfl;rw[R]at a6;rw[B]at b6;have HR:=O (Qa4 J);have C1:=O (show Qc (fun k=>k∈(Tr.node x c (.node y cy (.node u true q d) yr) (.node z U Z I)).addrs) w w1 from c1.sub fun k K=>by rcases K with rfl|rfl|rfl<;>simp[Tr.addrs]);unfold ptr at*;clear J c1 R V B;go_wp2_with fail;refine HI.mono ?_;rintro e w2⟨rfl,rfl⟩;go_wp2_with fail;refine HR.out.mono ?_;rintro e w4⟨rfl,i4,c4⟩;have E:=Ut i4;unfold ptr at E;clear a0 a1 a2 a3 a4 a5 a6 a7 b0 b1 b2 b3 b4 b5 b6 b7;go_wp2_with fail;refine E.mono ?_;rintro e w5⟨rfl,i5,c5⟩;have aa:=O (show Qc (fun k=>k∈(Tr.node x c (.node y cy (.node u true q d) yr) (.node z U Z I)).addrs) w w5 from(C1.out.trans' (c4.sub fun k K=>by rcases K with rfl|rfl<;>simp[Tr.addrs])).trans' (c5.sub fun k K=>by rcases K with rfl|rfl|rfl<;>simp[Tr.addrs,Nd.re]));have I5:=O i5;clear i4 c4 i5 c5 E;go_wp2;go_ret;exact⟨rfl,I5.out,aa.out⟩
inductive Qd8:Tr→Tr→Prop
 |no (x:Nd) (c:Bool) (l r:Tr):(l.red||l.left.red)=true→Qd8 (.node x c l r) (.node x c l r)
 |A (x y z:Nd) (yl yr zl zr:Tr):yl.red=false→zl.red=false→Qd8 (.node x true (.node y false yl yr) (.node z false zl zr)) (.node x false (.node y true yl yr) (.node z true zl zr))
 |B (x y z u:Nd) (yl yr ul ur zr:Tr):yl.red=false→Qd8 (.node x true (.node y false yl yr) (.node z false (.node u true ul ur) zr)) (.node (u.re (mk x true (.node y true yl yr) ul) (mk z true ur zr)) true (mk x false (.node y true yl yr) ul) (mk z false ur zr))
theorem Qd8.addrs{t c:Tr}(h:Qd8 t c):c.addrs=t.addrs:=by
 cases h with
 |no=>rfl
 |A=>simp[Tr.addrs]
 |B=>simp[Tr.addrs,mk,Nd.re]
theorem Qaq{w:World}{b:Nat}{x:Nd}{c:Bool}{l r d:Tr}(I:Qd8 (.node x c l r) d)(hc:(l.red||l.left.red)=false)(hs:Yj w b (.node x c l r)):
  Cl 245 #[ptr b,ptr x.a] w fun e w'=>e=.returned d.ptrV∧Yj w' b d∧Qc (fun k=>k∈(Tr.node x c l r).addrs) w w':=by
 cases I with
 |no _ _ _ _ h=>rw[h]at hc;cases hc
 |A _ y z yl yr R q h1 E=>exact Qpt hs E
 |B _ y z u yl yr J K q h1=>exact Qpu hs
inductive Qda:Tr→Tr→Prop
 |no (x:Nd) (c:Bool) (l r:Tr):l.red=false→Qda (.node x c l r) (.node x c l r)
 |up (x y:Nd) (c:Bool) (yl yr r:Tr):Qda (.node x c (.node y true yl yr) r) (.node (y.re yl (mk x true yr r)) c yl (mk x true yr r))
inductive Qa7:Tr→Tr→Prop
 |no (x:Nd) (c:Bool) (l r:Tr):(r.red||r.left.red)=true→Qa7 (.node x c l r) (.node x c l r)
 |A (x y z:Nd) (yl yr zl zr:Tr):yl.red=false→zl.red=false→Qa7 (.node x true (.node y false yl yr) (.node z false zl zr)) (.node x false (.node y true yl yr) (.node z true zl zr))
 |B (x y z u:Nd) (ul ur yr zl zr:Tr):zl.red=false→Qa7 (.node x true (.node y false (.node u true ul ur) yr) (.node z false zl zr)) (.node (y.re (.node u true ul ur) (mk x true yr (.node z true zl zr))) true (.node u false ul ur) (mk x false yr (.node z true zl zr)))
theorem Qda.addrs{t c:Tr}(h:Qda t c):c.addrs=t.addrs:=by
 cases h with
 |no=>rfl
 |up=>simp[Tr.addrs,mk,Nd.re]
theorem Qa7.addrs{t c:Tr}(h:Qa7 t c):c.addrs=t.addrs:=by
 cases h with
 |no=>rfl
 |A=>simp[Tr.addrs]
 |B=>simp[Tr.addrs,mk,Nd.re]
theorem Qmv{w:World}{b:Nat}{x:Nd}{c:Bool}{l r d:Tr}(q:Qda (.node x c l r) d)(hc:l.red=true)(hs:Yj w b (.node x c l r)):
  Cl 247 #[ptr b,ptr x.a] w fun e w'=>e=.returned d.ptrV∧Yj w' b d∧Qc (fun k=>k∈(Tr.node x c l r).addrs) w w':=by
 have h:=Qjh hs hc;cases q with
 |no _ _ _ _ h=>rw[h]at hc;cases hc
 |up _ y _ yl yr _=>exact h
theorem Qgd{w:World}{b:Nat}{x:Nd}{c:Bool}{l r d:Tr}(I:Qa7 (.node x c l r) d)(hc:(r.red||r.left.red)=false)(hs:Yj w b (.node x c l r)):
  Cl 248 #[ptr b,ptr x.a] w fun e w'=>e=.returned d.ptrV∧Yj w' b d∧Qc (fun k=>k∈(Tr.node x c l r).addrs) w w':=by
 cases I with
 |no _ _ _ _ h=>rw[h]at hc;cases hc
 |A _ y z yl yr E q h1 K=>exact Qmt hs h1
 |B _ y z u J R yr E q h1=>exact Qmu hs
theorem Qer{w:World}{b:Nat}{x:Nd}{c:Bool}{r:Tr}(hs:Yj w b (.node x c .nil r)):
  Cl 249 #[ptr b,ptr x.a] w fun e w'=>e=.returned (.pointer none)∧w=w':=by
 obtain⟨q,a1,B,z,E,I,k,u⟩:=Q7 hs.at'.1;unfold ptr at*;have d:Tr.nil.ptrV=.pointer none:=rfl;rw[d]at k;clear hs d;go_enter func249,ntmps249;go_wp2;go_ret;exact⟨rfl,rfl⟩
theorem Dn{w:World}{b:Nat}{x E y:Nd}{c c1 cy:Bool}{yl yr r l1 r1 l':Tr}(hs:Yj w b (.node x c (.node y cy yl yr) r))(hp:Qd8 (.node x c (.node y cy yl yr) r) (.node E c1 l1 r1))(R:∀k,k∈l'.addrs→k∈l1.addrs)
  (ih:∀w',Yj w' b l1→Cl 249 #[ptr b,l1.ptrV] w' fun e w2=>e=.returned l'.ptrV∧Yj w2 b l'∧Qc (fun k=>k∈l1.addrs) w' w2):
  Cl 249 #[ptr b,ptr x.a] w fun e w'=>e=.returned (On (.node E c1 l' r1)).ptrV∧Yj w' b (On (.node E c1 l' r1))∧Qc (fun k=>k∈(Tr.node x c (.node y cy yl yr) r).addrs) w w':=by
 have HL:=O (Yk _ hs.at'.2.1);have ab:=O (Yk yl hs.at'.2.1.2.1);have hX:=hs.at'.1;have hY:=hs.at'.2.1.1;have H0:=O hs;have HP:=O hp;have ac:=O hp.addrs;have IH:=O ih;have I:=O R;obtain⟨a0,a1,a2,a3,a4,a5,V,a7⟩:=Q7 hX;obtain⟨b0,b1,b2,b3,b4,b5,b6,b7⟩:=Q7 hY;have ae:(Tr.node y cy yl yr).ptrV=.pointer (some ⟨y.a,0,none⟩):=rfl;have ah:(Tr.node y cy yl yr).red=cy:=rfl;rw[ae]at V HL;rw[ah]at HL;unfold ptr at*;clear hs hX hY hp ae ah ih R;go_enter func249,ntmps249;go_upto_region 3 with fail;go_cut [26] (fun am wz=>am=.bool (!(cy||yl.red))∧wz=w)
 case first=>
  cases hc:cy<;>cases hl:yl.red;all_goals rw[hc]at HL
  all_goals rw[hl]at ab
  all_goals
   go_wp2_with fail;refine HL.out.mono ?_;rintro e w1⟨rfl,rfl⟩;go_wp2_with fail;try
    refine ab.out.mono ?_;rintro e w1⟨rfl,rfl⟩;go_wp2_with fail
   go_meet;exact⟨by rw[hc,hl];rfl,rfl⟩
 case rest=>
  obtain⟨rfl,ak⟩:=hcut;rw[ak];clear ak wc a0 a1 a2 a3 a4 a5 V a7 b0 b1 b2 b3 b4 b5 b6 b7 HL ab;go_upto_if 26 with fail;go_cut [1] (fun v1 wz=>v1=.pointer (some ⟨E.a,0,none⟩)∧Yj wz b (.node E c1 l1 r1)∧Qc (fun k=>k∈(Tr.node x c (.node y cy yl yr) r).addrs) w wz)
  case first=>
   cases K:(cy||yl.red);·have HC:=O (Qaq HP.out K H0.out);unfold ptr at HC;clear K;go_wp2_with fail;refine HC.out.mono ?_;rintro e w1⟨rfl,d,c1⟩;have I1:=O (And.intro d c1);clear d c1;go_wp2_with fail;go_meet;exact⟨rfl,I1.out⟩
   ·have hh:=HP.out;cases hh with
    |A _ y z yl yr zl zr h1 h2=>simp[h1]at K
    |B _ y z u yl yr ul ur zr h1=>simp[h1]at K
    |no _ _ _ _ h=> clear h K;go_wp2_with fail;go_meet;exact⟨rfl,H0.out,Qc.refl _ _⟩
  case rest=>
   obtain⟨rfl,d,U⟩:=hcut;obtain⟨w1,ai⟩:=Zx wc;rw[←ai]at d U⊢;have I1:=O d;have C1:=O U;have hX:=d.at'.1;obtain⟨a0,a1,a2,a3,a4,a5,V,a7⟩:=Q7 hX;have Z:=IH.out _ d.left;have ag:=d.nd;simp only[Tr.addrs,List.nodup_cons,List.mem_append,List.mem_cons,not_or,List.nodup_append]at ag;have al:=O (show E.a∉l1.addrs by grind);obtain⟨pl,aj⟩:=l1.ptrV_any;rw[aj]at V Z;clear ai H0 HP IH ag d U hX aj;go_wp2_with fail;refine Z.mono ?_;rintro e w6⟨rfl,i6,c6⟩;have B6:=c6.blk I1.out.at'.1 al.out;clear a0 a1 a2 a3 a4 a5 V a7 Z;obtain⟨a0,a1,a2,a3,a4,a5,V,a7⟩:=Q7 B6;have f6:=B6.frozen;have FX:=O (fun w7(e:w7=w6.setCell ⟨E.a,6,none⟩ l'.ptrV)=>I1.out.setL i6 c6 (fun _ h=>h) (fun k J=>.inl (I.out k J)) e);obtain⟨q,K⟩:=l'.ptrV_any;rw[K]at FX⊢;clear i6 c6 B6 K;go_wp2_with fail;obtain⟨w7,aa⟩:=Zx (w6.setCell ⟨E.a,6,none⟩ (.pointer q));rw[←aa];obtain⟨i7,c7⟩:=FX.out _ aa;have hb:=Ga i7;unfold ptr at hb;clear aa a0 a1 a2 a3 a4 a5 V a7 f6 FX;refine hb.mono ?_;rintro e w8⟨rfl,i8,c8⟩;have af:Qc (fun k=>k∈(Tr.node x c (.node y cy yl yr) r).addrs) w w8:=by
    rw[ac.out]at c7;refine(C1.out.trans' c7).trans' (c8.sub fun k J=>?_);rw[←ac.out];simp only[Tr.addrs,List.mem_append,List.mem_cons]at J⊢;rcases J with J|rfl|J;·exact .inl (I.out _ J)
    ·exact .inr (.inl rfl)
    ·exact .inr (.inr J)
   have HF:=O af;have HI:=O i8;clear i8 c8 af i7 c7 hb;go_wp2;go_ret;exact⟨rfl,HI.out,HF.out⟩
theorem Lz{b:Nat}{t E:Tr}(d:DropFirst t E):∀{w:World}(hs:Yj w b t),Cl 249 #[ptr b,t.ptrV] w fun e w'=>e=.returned E.ptrV∧Yj w' b E∧Qc (fun k=>k∈t.addrs) w w':=by
 induction d with
 |last x c r=> intro w hs;refine(Qer hs).mono ?_;rintro e w'⟨rfl,rfl⟩;exact⟨rfl,⟨hs.top,by have:=hs.nd;simp[Tr.addrs],trivial⟩,Qc.refl _ _⟩
 |stay x c l r l' J d q=>
  intro w hs;cases l with
  |nil=>simp[Tr.red,Tr.left]at J
  |node y cy yl yr=>exact Dn hs (.no x c _ r J) (fun k B=>(Ym d).subset B) fun w' h=>q h
 |turnA x y z yl yr V I l' h1 R d q=>exact fun hs=>Dn hs (.A x y z yl yr V I h1 R) (fun k B=>(Ym d).subset B) fun w' h=>q h
 |turnB x y z u yl yr K U I l' h1 d q=>exact fun hs=>Dn hs (.B x y z u yl yr K U I h1) (fun k B=>(Ym d).subset B) fun w' h=>q h
theorem Qkp{w:World}{b:Nat}{x Z y:Nd}{c c1 cy:Bool}{yl yr r l1 r1 l':Tr}(n:Nat)(i:Int)(Jl:lt n i x=true)(hs:Yj w b (.node x c (.node y cy yl yr) r))(hp:Qd8 (.node x c (.node y cy yl yr) r) (.node Z c1 l1 r1))(V:∀k,k∈l'.addrs→k∈l1.addrs)
  (ih:∀w',Yj w' b l1→Cl 236 #[ptr b,l1.ptrV,Xi n i] w' fun e w2=>e=.returned l'.ptrV∧Yj w2 b l'∧Qc (fun k=>k∈l1.addrs) w' w2):
  Cl 236 #[ptr b,ptr x.a,Xi n i] w fun e w'=>e=.returned (On (.node Z c1 l' r1)).ptrV∧Yj w' b (On (.node Z c1 l' r1))∧Qc (fun k=>k∈(Tr.node x c (.node y cy yl yr) r).addrs) w w':=by
 obtain⟨k,E⟩:=Zx (w.heap.size);have K0:=O (Qh.new w #[.int .u64 (n:Int),.int .i64 i] 204);have C0:=O ((Qc.refl Qb w).alloc (.cells #[.int .u64 (n:Int),.int .i64 i] 204));have HS:=O (fun w'(hc:Qc Qb w w')=>hs.keep hc (fun _ _ h=>h));have d:=O (fun w=>Oo n i x w);rw[Jl]at d;have HP:=O hp;have af:=O hp.addrs;have IH:=O ih;have U:=O V;have an:=Jk.lt _ hs.at';have ar:=O (show∀a∈(Tr.node x c (.node y cy yl yr) r).addrs,a≠k from fun a ha e=>by have:=an a ha;omega);simp only[←E]at K0;have aj:(Tr.node y cy yl yr).ptrV=.pointer (some ⟨y.a,0,none⟩):=rfl;have al:(Tr.node y cy yl yr).red=cy:=rfl;have ap:=O aj;have ak:=O al;unfold ptr Xi at*;clear hs hp ih Jl an V aj al;go_enter func236,ntmps236;go_wp2_with fail;rw[←E];obtain⟨W,hW⟩:=Zx (w.alloc (.cells #[.int .u64 (n:Int),.int .i64 i] 204));rw[←hW]at K0 C0⊢;clear hW E;have S0:=HS.out _ C0.out;have E1:=fun x=>Qz (Qk (S:=Qb) K0.out (fun h=>h) x);have E2:=fun x=>Q7 (Qk (S:=Qb) S0.at'.1 (fun h=>h) x);clear S0;refine Qr [] [0,1,2,3,4] [5] [] (Qw (Qb) (W)) (by kernel_rfl) (by kernel_rfl) ?_ (Qd (by(repeat' (first|(with_reducible first|exact Zg _ _|assumption|refine Zh ?_ _|refine Zi ?_ _|refine Zj ?_ |refine Zk ?_ _ ?_ |(apply Or.inl;rfl))|(apply Or.inl;simp;done)|(apply Or.inr;simp;first|done|omega))))) ?_;·exact fun _ _ _ _ _ h=>h
 simp only[pick,Zf,Ze,Zd];refine Qf ?_;iterate 5 (refine Ql (fun K R=>?_);go_simp;refine R _ ?_;clear R K)
 refine Qf ?_;intro _ aa;obtain⟨xo,I⟩:=aa;subst I;simp only[Zn];have c3:=O (Qu Qb W xo);generalize Qw Qb W xo=w3 at c3⊢;clear E1 E2;go_wp2_with fail;refine(d.out _).mono ?_;rintro e w4⟨rfl,d4⟩;have c4:=O (c3.out.trans' d4);clear d4;go_wp2;refine⟨Qd c4.out,?_⟩;go_upto_region 2 with fail;have K4:=O (c4.out.blk K0.out (fun h=>h));have C4:=O (C0.out.trans' c4.out);have S4:=O (HS.out _ C4.out);clear c3 c4 K0 C0 d HS;go_cut [30] (fun aq wz=>aq=.bool (!(cy||yl.red))∧wz=w4)
 case first=>
  have HL:=O (Yk _ S4.out.at'.2.1);have ai:=O (Yk yl S4.out.at'.2.1.2.1);obtain⟨a0,a1,a2,a3,a4,a5,a6,a7⟩:=Q7 S4.out.at'.1;obtain⟨b0,b1,b2,b3,b4,b5,b6,b7⟩:=Q7 S4.out.at'.2.1.1;rw[ap.out]at a6 HL;rw[ak.out]at HL;cases hc:cy<;>cases hl:yl.red;all_goals rw[hc]at HL
  all_goals rw[hl]at ai
  all_goals
   go_wp2_with fail;refine HL.out.mono ?_;rintro e w1⟨rfl,rfl⟩;go_wp2_with fail;try
    refine ai.out.mono ?_;rintro e w1⟨rfl,rfl⟩;go_wp2_with fail
   go_meet;exact⟨by rw[hc,hl];rfl,rfl⟩
 case rest=>
  obtain⟨rfl,am⟩:=hcut;rw[am];clear am wc ap ak;go_upto_if 30 with fail;go_cut [1] (fun v1 wz=>v1=.pointer (some ⟨Z.a,0,none⟩)∧Yj wz b (.node Z c1 l1 r1)∧Qc (fun k=>k∈(Tr.node x c (.node y cy yl yr) r).addrs) w4 wz)
  case first=>
   cases hq:(cy||yl.red);·have HC:=O (Qaq HP.out hq S4.out);unfold ptr at HC;clear hq;go_wp2_with fail;refine HC.out.mono ?_;rintro e w1⟨rfl,i1,c1⟩;have I1:=O (And.intro i1 c1);clear i1 c1;go_wp2_with fail;go_meet;exact⟨rfl,I1.out⟩
   ·have hh:=HP.out;cases hh with
    |A _ y z yl yr zl zr h1 h2=>simp[h1]at hq
    |B _ y z u yl yr ul ur zr h1=>simp[h1]at hq
    |no _ _ _ _ h=> clear h hq;go_wp2_with fail;go_meet;exact⟨rfl,S4.out,Qc.refl _ _⟩
  case rest=>
   obtain⟨rfl,i1,J⟩:=hcut;obtain⟨w1,ao⟩:=Zx wc;rw[←ao]at i1 J⊢;have K1:=O (J.blk K4.out (fun h=>ar.out _ h rfl));have I1:=O i1;have C1:=O (C4.out.none.trans' J);have ah:=i1.nd;simp only[Tr.addrs,List.nodup_cons,List.mem_append,List.mem_cons,not_or,List.nodup_append]at ah;have au:=O (show Z.a∉l1.addrs by grind);obtain⟨pl,ae⟩:=l1.ptrV_any;have av:=O ae;have E1:=fun x=>Qz (Qk (S:=Qb) K1.out (fun h=>h) x);have E2:=fun x=>Q7 (Qk (S:=Qb) I1.out.at'.1 (fun h=>h) x);rw[ae]at E2;clear ao HP ah i1 J ae K4 C4 S4;go_wp2_with fail;refine Yf [1,2,3,4,5,6] [0] [7,8,9,10] (Qw (Qb) (w1)) (by kernel_rfl) (by kernel_rfl) ?_ (Qd (by(repeat' (first|(with_reducible first|exact Zg _ _|assumption|refine Zh ?_ _|refine Zi ?_ _|refine Zj ?_ |refine Zk ?_ _ ?_ |(apply Or.inl;rfl))|(apply Or.inl;simp;done)|(apply Or.inr;simp;first|done|omega))))) ?_;·exact fun _ _ _ _ _ h=>h
   simp only[pick,Zf,Ze,Zd];iterate 6 (refine Ql (fun K R=>?_);go_simp;refine R _ ?_;clear R K)
   refine Qf ?_;iterate 1 (refine Ql (fun K R=>?_);go_simp;refine R _ ?_;clear R K)
   refine Qf ?_;intro _ aa;obtain⟨xo,I⟩:=aa;subst I;have c5:=O (Qu Qb w1 xo);generalize Qw Qb w1 xo=w5 at c5⊢;clear E1 E2;have C5:=O (C1.out.trans' c5.out.none);have I5:=O (I1.out.keep c5.out (fun _ _ h=>h));have ab:=IH.out _ I5.out.left;rw[av.out]at ab;clear IH K1 c5 C1 I1;go_wp2_with fail;refine ab.mono ?_;rintro e w6⟨rfl,i6,c6⟩;have B6:=c6.blk I5.out.at'.1 au.out;obtain⟨a0,a1,a2,a3,a4,a5,a6,a7⟩:=Q7 B6;have f6:=B6.frozen;have FX:=O (fun w7(e:w7=w6.setCell ⟨Z.a,6,none⟩ l'.ptrV)=>I5.out.setL i6 c6 (fun _ h=>h) (fun k E=>.inl (U.out k E)) e);obtain⟨q,hq⟩:=l'.ptrV_any;rw[hq]at FX⊢;clear i6 c6 B6 hq ab;go_wp2_with fail;obtain⟨w7,ac⟩:=Zx (w6.setCell ⟨Z.a,6,none⟩ (.pointer q));rw[←ac];obtain⟨i7,c7⟩:=FX.out _ ac;have hb:=Ga i7;unfold ptr at hb;clear ac a0 a1 a2 a3 a4 a5 a6 a7 f6 FX;refine hb.mono ?_;rintro e w8⟨rfl,i8,c8⟩;have ag:Qc (fun k=>k∈(Tr.node x c (.node y cy yl yr) r).addrs) w w8:=by
    rw[af.out]at c7;refine(C5.out.trans' c7).trans' (c8.sub fun k E=>?_);rw[←af.out];simp only[Tr.addrs,List.mem_append,List.mem_cons]at E⊢;rcases E with E|rfl|E;·exact .inl (U.out _ E)
    ·exact .inr (.inl rfl)
    ·exact .inr (.inr E)
   have HF:=O ag;have HI:=O i8;clear i8 c8 ag i7 c7 hb;go_wp2;go_ret;exact⟨rfl,HI.out,HF.out⟩
end
section
attribute [local go_sem] Qq
theorem Qmw:prog.eqGuardType prog.depth 204=false:=by kernel_rfl
theorem Qtb:prog.stoodInHeld 204=false:=by kernel_rfl
section
attribute [local go_sem] Qmw Qtb
theorem Kl(a b c d:Int)(w:World):(binOp .eql 204 (.agg #[.int .u64 a,.int .i64 b]) (.agg #[.int .u64 c,.int .i64 d])).run prog w=.ok (.bool ((a==c)&&(b==d))) w:=by
 by_cases h:a=c
 ·by_cases k:b=d;·subst h k;go_simp
  ·subst h;have e:(a==a&&b==d)=false:=by simpa using k
   rw[e];go_simp;try simp[k]
 ·have e:(a==c&&b==d)=false:=by simp[h]
  rw[e];go_simp;try simp[h]
theorem Km(a b c d:Int)(w:World):(binOp .neq 204 (.agg #[.int .u64 a,.int .i64 b]) (.agg #[.int .u64 c,.int .i64 d])).run prog w=.ok (.bool (!((a==c)&&(b==d)))) w:=by
 by_cases h:a=c
 ·by_cases k:b=d;·subst h k;go_simp
  ·subst h;have e:(a==a&&b==d)=false:=by simpa using k
   rw[e];go_simp;try simp[k]
 ·have e:(a==c&&b==d)=false:=by simp[h]
  rw[e];go_simp;try simp[h]
end
attribute [local go_sem ↓] Kl Km
theorem Qmx{x:Nd}{n:Nat}{i:Int}(h:¬(x.n=n∧x.i=i)):(((x.n:Int)==(n:Int))&&(x.i==i))=false:=by
 cases c:(((x.n:Int)==(n:Int))&&(x.i==i))with
 |false=>rfl
 |true=> simp only[Bool.and_eq_true,beq_iff_eq]at c;exact absurd ⟨by omega,c.2⟩ h
theorem Qdb{x:Nd}{n:Nat}{i:Int}(h:x.n=n∧x.i=i):(((x.n:Int)==(n:Int))&&(x.i==i))=true:=by obtain⟨rfl,rfl⟩:=h;simp
theorem Yj.take{w w1 w2:World}{b:Nat}{x:Nd}{c:Bool}{l r:Tr}{e:Nat×Int×Nat}(hs:Yj w b (.node x c l r))(h0:Qc Qb w w1)
  (q:w2=((w1.setCell ⟨x.a,0,none⟩ (.int .u64 (e.1:Int))).setCell ⟨x.a,1,none⟩ (.int .i64 e.2.1)).setCell ⟨x.a,2,none⟩ (.int .u64 (e.2.2:Int))):
  Yj w2 b (.node (x.as e) c l r)∧Qc (fun k=>k∈(Tr.node x c l r).addrs) w w2:=by
 subst q;have hc:Qc (fun k=>k=x.a) w (((w1.setCell ⟨x.a,0,none⟩ (.int .u64 (e.1:Int))).setCell ⟨x.a,1,none⟩ (.int .i64 e.2.1)).setCell ⟨x.a,2,none⟩ (.int .u64 (e.2.2:Int))):=(((h0.none (F:=fun k=>k=x.a)).setCell (a:=⟨x.a,0,none⟩) _ (.inl rfl)).setCell (a:=⟨x.a,1,none⟩) _ (.inl rfl)).setCell (a:=⟨x.a,2,none⟩) _ (.inl rfl);have d:=hs.nd;simp only[Tr.addrs,List.nodup_cons,List.mem_append,List.mem_cons,not_or,List.nodup_append]at d;refine⟨⟨hs.top.keep hc (by grind),hs.nd,(((h0.blk hs.at'.1 (fun h=>h)).set' 0 _ rfl).set' 1 _ rfl).set' 2 _ rfl,Jk.keep hc l hs.at'.2.1 (by grind),Jk.keep hc r hs.at'.2.2 (by grind)⟩,hc.sub ?_⟩;rintro k rfl;simp[Tr.addrs]
theorem Qpv{w:World}{b:Nat}{x:Nd}{c:Bool}{l:Tr}(n:Nat)(i:Int)(Jl:lt n i x=false)(hl:l.red=false)(hx:x.n=n∧x.i=i)(hs:Yj w b (.node x c l .nil)):
  Cl 236 #[ptr b,ptr x.a,Xi n i] w fun e w'=>e=.returned (.pointer none)∧Qc Qb w w':=by
 obtain⟨k,hk⟩:=Zx (w.heap.size);have I:=O (Qh.new w #[.int .u64 (n:Int),.int .i64 i] 204);have U:=O ((Qc.refl Qb w).alloc (.cells #[.int .u64 (n:Int),.int .i64 i] 204));have HS:=O (fun w'(hc:Qc Qb w w')=>hs.keep hc (fun _ _ h=>h));have d:=O (fun w=>Oo n i x w);rw[Jl]at d;have B:=Jk.lt _ hs.at';have ac:=O (Qdb hx);have aa:=O hl;have af:=O (show∀a∈(Tr.node x c l .nil).addrs,a≠k from fun a ha e=>by have:=B a ha;omega);simp only[←hk]at I;have E:Tr.nil.ptrV=.pointer none:=rfl;have ab:=O E;unfold ptr Xi at*;clear hs Jl B hx hl E;go_enter func236,ntmps236;go_wp2_with fail;rw[←hk];obtain⟨W,hW⟩:=Zx (w.alloc (.cells #[.int .u64 (n:Int),.int .i64 i] 204));rw[←hW]at I U⊢;clear hW hk;have S0:=HS.out _ U.out;have E1:=fun x=>Qz (Qk (S:=Qb) I.out (fun h=>h) x);have R:=fun x=>Q7 (Qk (S:=Qb) S0.at'.1 (fun h=>h) x);clear S0;refine Qr [] [0,1,2,3,4] [5] [] (Qw (Qb) (W)) (by kernel_rfl) (by kernel_rfl) ?_ (Qd (by(repeat' (first|(with_reducible first|exact Zg _ _|assumption|refine Zh ?_ _|refine Zi ?_ _|refine Zj ?_ |refine Zk ?_ _ ?_ |(apply Or.inl;rfl))|(apply Or.inl;simp;done)|(apply Or.inr;simp;first|done|omega))))) ?_;·exact fun _ _ _ _ _ h=>h
 simp only[pick,Zf,Ze,Zd];refine Qf ?_;iterate 5 (refine Ql (fun K J=>?_);go_simp;refine J _ ?_;clear J K)
 refine Qf ?_;intro _ u;obtain⟨z,q⟩:=u;subst q;simp only[Zn];have c3:=O (Qu Qb W z);generalize Qw Qb W z=w3 at c3⊢;clear E1 R;go_wp2_with fail;refine(d.out _).mono ?_;rintro e Z⟨rfl,d4⟩;have V:=O (c3.out.trans' d4);clear d4;go_wp2;refine⟨Qd V.out,?_⟩;go_upto_region 6 with fail;have K4:=O (V.out.blk I.out (fun h=>h));have C4:=O (U.out.trans' V.out);have S4:=O (HS.out _ C4.out);clear c3 V I U d;have HL:=O (Yk _ S4.out.at'.2.1);rw[aa.out]at HL;obtain⟨a0,a1,a2,a3,a4,a5,a6,a7⟩:=Q7 S4.out.at'.1;go_wp2_with fail;refine HL.out.mono ?_;rintro e w5⟨rfl,rfl⟩;clear a0 a1 a2 a3 a4 a5 a6 a7;have E1:=fun x=>Qz (Qk (S:=Qb) K4.out (fun h=>h) x);have R:=fun x=>Q7 (Qk (S:=Qb) S4.out.at'.1 (fun h=>h) x);rw[ab.out]at R;have ae:=ac.out;go_wp2_with fail;refine Qr [] [0,1,2,3,4,5,6,7,8,9,10,11,12] [] [] (Qw (Qb) (Z)) (by kernel_rfl) (by kernel_rfl) ?_ (Qd (by(repeat' (first|(with_reducible first|exact Zg _ _|assumption|refine Zh ?_ _|refine Zi ?_ _|refine Zj ?_ |refine Zk ?_ _ ?_ |(apply Or.inl;rfl))|(apply Or.inl;simp;done)|(apply Or.inr;simp;first|done|omega))))) ?_;·exact fun _ _ _ _ _ h=>h
 simp only[pick,Zf,Ze,Zd];refine Qf ?_;iterate 13 (refine Ql (fun K J=>?_);go_simp;refine J _ ?_;clear J K)
 refine Qf ?_;intro _ u;obtain⟨z,q⟩:=u;subst q;simp only[Zn];have c5:=O (Qu Qb Z z);generalize Qw Qb Z z=w5 at c5⊢;clear E1 R ae;go_wp2;go_ret;exact⟨rfl,C4.out.trans' c5.out⟩
theorem E7{w:World}{b:Nat}{x x1 x2 x3 z:Nd}{c c1 c2 cz:Bool}{l r l1 zl zr l2 E r':Tr}(n:Nat)(i:Int)(Jl:lt n i x=false)(hs:Yj w b (.node x c l r))
  (aq:Qda (.node x c l r) (.node x1 c1 l1 (.node z cz zl zr))) (av:Qa7 (.node x1 c1 l1 (.node z cz zl zr)) (.node x2 c2 l2 E)) (bo:E≠ .nil) (au:∀k,k∈r'.addrs→k∈E.addrs)
  (hE:(¬(x2.n=n∧x2.i=i)∧x3=x2∧∀w',Yj w' b E→Cl 236 #[ptr b,E.ptrV,Xi n i] w' fun e w2=>e=.returned r'.ptrV∧Yj w2 b r'∧Qc (fun k=>k∈E.addrs) w' w2)∨
   ((x2.n=n∧x2.i=i)∧x3=x2.as E.first∧∀w',Yj w' b E→Cl 249 #[ptr b,E.ptrV] w' fun e w2=>e=.returned r'.ptrV∧Yj w2 b r'∧Qc (fun k=>k∈E.addrs) w' w2)):
  Cl 236 #[ptr b,ptr x.a,Xi n i] w fun e w'=>e=.returned (On (.node x3 c2 l2 r')).ptrV∧Yj w' b (On (.node x3 c2 l2 r'))∧Qc (fun k=>k∈(Tr.node x c l r).addrs) w w':=by
 obtain⟨k,R⟩:=Zx (w.heap.size);have K0:=O (Qh.new w #[.int .u64 (n:Int),.int .i64 i] 204);have C0:=O ((Qc.refl Qb w).alloc (.cells #[.int .u64 (n:Int),.int .i64 i] 204));have HS:=O (fun w'(hc:Qc Qb w w')=>hs.keep hc (fun _ _ h=>h));have ac:=O (fun w=>Oo n i x w);rw[Jl]at ac;have bn:=Jk.lt _ hs.at';have bh:=O (show∀a∈(Tr.node x c l r).addrs,a≠k from fun a ha e=>by have:=bn a ha;omega);simp only[←R]at K0;have a9:=O aq;have ay:=O av;have ar:=O aq.addrs;have ai:=O (av.addrs.trans aq.addrs);have HE:=O hE;have af:=O au;have bg:=O bo;unfold ptr Xi at*;clear hs Jl bn aq av hE au bo;go_enter func236,ntmps236;go_wp2_with fail;rw[←R];obtain⟨W,hW⟩:=Zx (w.alloc (.cells #[.int .u64 (n:Int),.int .i64 i] 204));rw[←hW]at K0 C0⊢;clear hW R;have S0:=HS.out _ C0.out;have E1:=fun x=>Qz (Qk (S:=Qb) K0.out (fun h=>h) x);have E2:=fun x=>Q7 (Qk (S:=Qb) S0.at'.1 (fun h=>h) x);clear S0;refine Qr [] [0,1,2,3,4] [5] [] (Qw (Qb) (W)) (by kernel_rfl) (by kernel_rfl) ?_ (Qd (by(repeat' (first|(with_reducible first|exact Zg _ _|assumption|refine Zh ?_ _|refine Zi ?_ _|refine Zj ?_ |refine Zk ?_ _ ?_ |(apply Or.inl;rfl))|(apply Or.inl;simp;done)|(apply Or.inr;simp;first|done|omega))))) ?_;·exact fun _ _ _ _ _ h=>h
 simp only[pick,Zf,Ze,Zd];refine Qf ?_;iterate 5 (refine Ql (fun K J=>?_);go_simp;refine J _ ?_;clear J K)
 refine Qf ?_;intro _ I;obtain⟨xo,d⟩:=I;subst d;simp only[Zn];have c3:=O (Qu Qb W xo);generalize Qw Qb W xo=w3 at c3⊢;clear E1 E2;go_wp2_with fail;refine(ac.out _).mono ?_;rintro e w4⟨rfl,d4⟩;have c4:=O (c3.out.trans' d4);clear d4;go_wp2;refine⟨Qd c4.out,?_⟩;go_upto_region 6 with fail;have K4:=O (c4.out.blk K0.out (fun h=>h));have C4:=O (C0.out.trans' c4.out);have S4:=O (HS.out _ C4.out);clear c3 c4 K0 C0 ac HS;have HL:=O (Yk _ S4.out.at'.2.1);obtain⟨a0,a1,a2,a3,a4,a5,a6,a7⟩:=Q7 S4.out.at'.1;obtain⟨pl,bq⟩:=l.ptrV_any;rw[bq]at a6 HL;clear bq;go_wp2_with fail;refine HL.out.mono ?_;rintro e w5⟨rfl,rfl⟩;clear a0 a1 a2 a3 a4 a5 a6 a7 HL;go_upto_if 51 with fail;go_cut [1] (fun v1 wz=>v1=.pointer (some ⟨x1.a,0,none⟩)∧Yj wz b (.node x1 c1 l1 (.node z cz zl zr))∧Qc (fun k=>k∈(Tr.node x c l r).addrs) w4 wz)
 case first=>
  cases hq:l.red
  ·have hh:=a9.out;cases hh with
   |up _ y _ yl yr _=>simp[Tr.red]at hq
   |no _ _ _ _ h=> clear h hq;go_wp2_with fail;go_meet;exact⟨rfl,S4.out,Qc.refl _ _⟩
  ·have HC:=O (Qmv a9.out hq S4.out);unfold ptr at HC;clear hq;go_wp2_with fail;refine HC.out.mono ?_;rintro e w1⟨rfl,i1,c1⟩;have I1:=O (And.intro i1 c1);clear i1 c1;go_wp2_with fail;go_meet;exact⟨rfl,I1.out⟩
 case rest=>
  obtain⟨rfl,i1,U⟩:=hcut;obtain⟨w1,ao⟩:=Zx wc;rw[←ao]at i1 U⊢;have K1:=O (U.blk K4.out (fun h=>bh.out _ h rfl));have I1:=O i1;have C1:=O (C4.out.none.trans' U);clear ao i1 U K4 C4 S4 a9;have E1:=fun x=>Qz (Qk (S:=Qb) K1.out (fun h=>h) x);have E2:=fun x=>Q7 (Qk (S:=Qb) I1.out.at'.1 (fun h=>h) x);have am:(Tr.node z cz zl zr).ptrV=.pointer (some ⟨z.a,0,none⟩):=rfl;rw[am]at E2;clear am;go_upto_region 8 with fail;go_cut [67] (fun bt wz=>bt=.bool false∧Qc Qb w1 wz)
  case first=>
   cases an:(((x1.n:Int)==(n:Int))&&(x1.i==i));all_goals
    refine Qr [] [0,1,2,3,4,5,6,7,8,9,10,11,12] [] [] (Qw (Qb) (w1)) (by kernel_rfl) (by kernel_rfl) ?_ (Qd (by(repeat' (first|(with_reducible first|exact Zg _ _|assumption|refine Zh ?_ _|refine Zi ?_ _|refine Zj ?_ |refine Zk ?_ _ ?_ |(apply Or.inl;rfl))|(apply Or.inl;simp;done)|(apply Or.inr;simp;first|done|omega))))) ?_;·exact fun _ _ _ _ _ h=>h
    simp only[pick,Zf,Ze,Zd];refine Qf ?_;iterate 13 (refine Ql (fun K J=>?_);go_simp;refine J _ ?_;clear J K)
    refine Qf ?_;intro _ I;obtain⟨xo,d⟩:=I;subst d;simp only[Zn];have c5:=O (Qu Qb w1 xo);generalize Qw Qb w1 xo=w5 at c5⊢;clear E1 E2 an;go_wp2_with fail;go_meet;exact⟨rfl,c5.out⟩
  case rest=>
   obtain⟨rfl,cc⟩:=hcut;obtain⟨w5,be⟩:=Zx wc;rw[←be]at cc⊢;have K5:=O (cc.blk K1.out (fun h=>h));have V:=O (I1.out.keep cc (fun _ _ h=>h));have C5:=O (C1.out.trans' cc.none);clear E1 E2 be cc K1 I1 C1;have HL:=O (Yk _ V.out.at'.2.2);have az:=O (Yk zl V.out.at'.2.2.2.1);obtain⟨a0,a1,a2,a3,a4,a5,a6,a7⟩:=Q7 V.out.at'.1;obtain⟨b0,b1,b2,b3,b4,b5,b6,b7⟩:=Q7 V.out.at'.2.2.1;have am:(Tr.node z cz zl zr).ptrV=.pointer (some ⟨z.a,0,none⟩):=rfl;have bi:(Tr.node z cz zl zr).red=cz:=rfl;rw[am]at a7 HL;rw[bi]at HL;clear am bi;go_upto_region 10 with fail;go_cut [84] (fun bu wz=>bu=.bool (!(cz||zl.red))∧wz=w5)
   case first=>
    cases hc:cz<;>cases hl:zl.red;all_goals rw[hc]at HL
    all_goals rw[hl]at az
    all_goals
     go_wp2_with fail;refine HL.out.mono ?_;rintro e w1⟨rfl,rfl⟩;go_wp2_with fail;try
      refine az.out.mono ?_;rintro e w1⟨rfl,rfl⟩;go_wp2_with fail
     go_meet;exact⟨by rw[hc,hl];rfl,rfl⟩
   case rest=>
    obtain⟨rfl,bm⟩:=hcut;rw[bm];clear bm wc a0 a1 a2 a3 a4 a5 a6 a7 b0 b1 b2 b3 b4 b5 b6 b7 HL az;go_upto_if 84 with fail;go_cut [1] (fun v1 wz=>v1=.pointer (some ⟨x2.a,0,none⟩)∧Yj wz b (.node x2 c2 l2 E)∧Qc (fun k=>k∈(Tr.node x c l r).addrs) w5 wz)
    case first=>
     cases hq:(cz||zl.red);·have HC:=O (Qgd ay.out hq V.out);rw[ar.out]at HC;unfold ptr at HC;clear hq;go_wp2_with fail;refine HC.out.mono ?_;rintro e w1⟨rfl,i1,c1⟩;have I1:=O (And.intro i1 c1);clear i1 c1;go_wp2_with fail;go_meet;exact⟨rfl,I1.out⟩
     ·have hh:=ay.out;cases hh with
      |A _ y _ yl yr _ _ h1 h2=>simp[h2]at hq
      |B _ y _ u ul ur yr _ _ h1=>simp[h1]at hq
      |no _ _ _ _ h=> clear h hq;go_wp2_with fail;go_meet;exact⟨rfl,V.out,Qc.refl _ _⟩
    case rest=>
     obtain⟨rfl,i1,U⟩:=hcut;obtain⟨w1,ao⟩:=Zx wc;rw[←ao]at i1 U⊢;have K1:=O (U.blk K5.out (fun h=>bh.out _ h rfl));have I1:=O i1;have C1:=O (C5.out.trans' U);clear ao i1 U K5 C5 V ay ar;have E1:=fun x=>Qz (Qk (S:=Qb) K1.out (fun h=>h) x);have E2:=fun x=>Q7 (Qk (S:=Qb) I1.out.at'.1 (fun h=>h) x);obtain⟨pr,ax⟩:=E.ptrV_any;have aa:=O ax;rw[ax]at E2;clear ax;go_upto_region 12 with fail;have bw:=HE.out;rcases bw with⟨bk,rfl,ih⟩|⟨bp,rfl,ih⟩
     ·have an:=Qmx bk;have IH:=O ih;clear bk ih HE bg;refine Qr [] [0,1,2,3,4,5] [] [] (Qw (Qb) (w1)) (by kernel_rfl) (by kernel_rfl) ?_ (Qd (by(repeat' (first|(with_reducible first|exact Zg _ _|assumption|refine Zh ?_ _|refine Zi ?_ _|refine Zj ?_ |refine Zk ?_ _ ?_ |(apply Or.inl;rfl))|(apply Or.inl;simp;done)|(apply Or.inr;simp;first|done|omega))))) ?_;·exact fun _ _ _ _ _ h=>h
      simp only[pick,Zf,Ze,Zd];refine Qf ?_;iterate 6 (refine Ql (fun K J=>?_);go_simp;refine J _ ?_;clear J K)
      refine Qf ?_;intro _ I;obtain⟨xo,d⟩:=I;subst d;simp only[Zn];have Z:=O (Qu Qb w1 xo);generalize Qw Qb w1 xo=w6 at Z⊢;clear E1 E2 an;have K6:=O (Z.out.blk K1.out (fun h=>h));have I6:=O (I1.out.keep Z.out (fun _ _ h=>h));have C6:=O (C1.out.trans' Z.out.none);have E1:=fun x=>Qz (Qk (S:=Qb) K6.out (fun h=>h) x);have E2:=fun x=>Q7 (Qk (S:=Qb) I6.out.at'.1 (fun h=>h) x);rw[aa.out]at E2;clear K1 I1 C1 Z;go_wp2_with fail;refine Yf [1,2,3,4,5,6] [0] [7,8,9,10] (Qw (Qb) (w6)) (by kernel_rfl) (by kernel_rfl) ?_ (Qd (by(repeat' (first|(with_reducible first|exact Zg _ _|assumption|refine Zh ?_ _|refine Zi ?_ _|refine Zj ?_ |refine Zk ?_ _ ?_ |(apply Or.inl;rfl))|(apply Or.inl;simp;done)|(apply Or.inr;simp;first|done|omega))))) ?_;·exact fun _ _ _ _ _ h=>h
      simp only[pick,Zf,Ze,Zd];iterate 6 (refine Ql (fun K J=>?_);go_simp;refine J _ ?_;clear J K)
      refine Qf ?_;iterate 1 (refine Ql (fun K J=>?_);go_simp;refine J _ ?_;clear J K)
      refine Qf ?_;intro _ I;obtain⟨xo,d⟩:=I;subst d;have c5:=O (Qu Qb w6 xo);generalize Qw Qb w6 xo=w7 at c5⊢;clear E1 E2;have C5:=O (C6.out.trans' c5.out.none);have V:=O (I6.out.keep c5.out (fun _ _ h=>h));have ab:=IH.out _ V.out.right;rw[aa.out]at ab;clear IH K6 c5 C6 I6;have ag:=V.out.nd;simp only[Tr.addrs,List.nodup_cons,List.mem_append,List.mem_cons,not_or,List.nodup_append]at ag;have ba:=O (show x3.a∉E.addrs by grind);clear ag;go_wp2_with fail;refine ab.mono ?_;rintro e w8⟨rfl,i6,Z⟩;have B6:=Z.blk V.out.at'.1 ba.out;obtain⟨a0,a1,a2,a3,a4,a5,a6,a7⟩:=Q7 B6;have f6:=B6.frozen;have FX:=O (fun w7(e:w7=w8.setCell ⟨x3.a,7,none⟩ r'.ptrV)=>V.out.setR i6 Z (fun _ h=>h) (fun k R=>.inl (af.out k R)) e);obtain⟨q,hq⟩:=r'.ptrV_any;rw[hq]at FX⊢;clear i6 Z B6 hq ab;go_wp2_with fail;obtain⟨w9,ae⟩:=Zx (w8.setCell ⟨x3.a,7,none⟩ (.pointer q));rw[←ae];obtain⟨i7,c7⟩:=FX.out _ ae;have hb:=Ga i7;unfold ptr at hb;clear ae a0 a1 a2 a3 a4 a5 a6 a7 f6 FX;refine hb.mono ?_;rintro e bd⟨rfl,i8,c8⟩;have al:Qc (fun k=>k∈(Tr.node x c l r).addrs) w bd:=by
       have ah:(Tr.node x3 c2 l2 E).addrs=(Tr.node x c l r).addrs:=ai.out;rw[ah]at c7;refine(C5.out.trans' c7).trans' (c8.sub fun k R=>?_);rw[←ah];simp only[Tr.addrs,List.mem_append,List.mem_cons]at R⊢;rcases R with R|rfl|R;·exact .inl R
       ·exact .inr (.inl rfl)
       ·exact .inr (.inr (af.out _ R))
      have HF:=O al;have HI:=O i8;clear i8 c8 al i7 c7 hb;go_wp2;go_ret;exact⟨rfl,HI.out,HF.out⟩
     ·have an:=Qdb bp;have IH:=O ih;clear bp ih HE;refine Qr [] [0,1,2,3,4,5] [] [] (Qw (Qb) (w1)) (by kernel_rfl) (by kernel_rfl) ?_ (Qd (by(repeat' (first|(with_reducible first|exact Zg _ _|assumption|refine Zh ?_ _|refine Zi ?_ _|refine Zj ?_ |refine Zk ?_ _ ?_ |(apply Or.inl;rfl))|(apply Or.inl;simp;done)|(apply Or.inr;simp;first|done|omega))))) ?_;·exact fun _ _ _ _ _ h=>h
      simp only[pick,Zf,Ze,Zd];refine Qf ?_;iterate 6 (refine Ql (fun K J=>?_);go_simp;refine J _ ?_;clear J K)
      refine Qf ?_;intro _ I;obtain⟨xo,d⟩:=I;subst d;simp only[Zn];have Z:=O (Qu Qb w1 xo);generalize Qw Qb w1 xo=w6 at Z⊢;clear E1 E2 an;have I6:=O (I1.out.keep Z.out (fun _ _ h=>h));have C6:=O (C1.out.trans' Z.out.none);clear K1 I1 C1 Z;obtain⟨a0,a1,a2,a3,a4,a5,a6,a7⟩:=Q7 I6.out.at'.1;rw[aa.out]at a7;go_wp2_with fail;clear a0 a1 a2 a3 a4 a5 a6 a7;go_loopg [7] E.size (fun g v wr=>∃s:Tr,v=s.ptrV∧s.size=g∧s≠ .nil∧Jk w6 s∧s.first=E.first∧wr=w6);case atStart=>exact⟨E,aa.out.symm,rfl,bg.out,I6.out.at'.2.2,rfl,rfl⟩
      case round=>
       obtain⟨s,rfl,a8,bc,aj,ap,bf⟩:=hrel;rw[bf];clear bf;cases s with
       |nil=>exact absurd rfl bc
       |node u cu ul ur=>
        obtain⟨b0,b1,b2,b3,b4,b5,b6,b7⟩:=Q7 aj.1;cases ul with
        |nil=>
         have bj:Hid (E.first=(u.n,u.i,u.v)):=O (by rw[←ap];rfl);have bl:=O aj.1;have ak:Tr.nil.ptrV=.pointer none:=rfl;rw[ak]at b6;dsimp only[Tr.ptrV];clear a8 bc aj ap ak;go_wp2_with fail;clear b0 b1 b2 b3 b4 b5 b6 b7;have E1:=fun x=>Q7 (Qk (S:=Qb) bl.out (fun h=>h) x);refine Yf [0,2,3,4,5,6,7,8,9,10,11] [1] [12,13,14,15] (Qw (Qb) (w6)) (by kernel_rfl) (by kernel_rfl) ?_ (Qd (by(repeat' (first|(with_reducible first|exact Zg _ _|assumption|refine Zh ?_ _|refine Zi ?_ _|refine Zj ?_ |refine Zk ?_ _ ?_ |(apply Or.inl;rfl))|(apply Or.inl;simp;done)|(apply Or.inr;simp;first|done|omega))))) ?_;·exact fun _ _ _ _ _ h=>h
         simp only[pick,Zf,Ze,Zd];iterate 11 (refine Ql (fun K J=>?_);go_simp;refine J _ ?_;clear J K)
         refine Qf ?_;iterate 1 (refine Ql (fun K J=>?_);go_simp;refine J _ ?_;clear J K)
         refine Qf ?_;intro _ I;obtain⟨xo,d⟩:=I;subst d;have c7:=O (Qu Qb w6 xo);generalize Qw Qb w6 xo=w7 at c7⊢;clear E1;have X7:=c7.out.blk I6.out.at'.1 (fun h=>h);have f7:=X7.frozen;obtain⟨d0,d1,d2,d3,d4,d5,d6,d7⟩:=Q7 X7;rw[aa.out]at d7;clear X7;go_wp2_with fail;obtain⟨w8,aw⟩:=Zx (((w7.setCell ⟨x2.a,0,none⟩ (.int .u64 (u.n:Int))).setCell ⟨x2.a,1,none⟩ (.int .i64 u.i)).setCell ⟨x2.a,2,none⟩ (.int .u64 (u.v:Int)));rw[←aw];obtain⟨i8,c8⟩:=Yj.take (w2:=w8) (e:=E.first) I6.out c7.out (by rw[bj.out];exact aw);rw[ai.out]at c8;have V:=O i8;have C5:=O (C6.out.trans' c8);clear aw c7 f7 i8 c8 d0 d1 d2 d3 d4 d5 d6 d7 bl bj C6 I6;obtain⟨a0,a1,a2,a3,a4,a5,a6,a7⟩:=Q7 V.out.at'.1;rw[aa.out]at a7;dsimp only[Nd.as]at a0 a1 a2 a3 a4 a5 a6 a7;have ab:=IH.out _ V.out.right;rw[aa.out]at ab;have ag:=V.out.nd;simp only[Tr.addrs,List.nodup_cons,List.mem_append,List.mem_cons,not_or,List.nodup_append]at ag;have ba:=O (show x2.a∉E.addrs by(dsimp only[Nd.as]at ag;grind));clear ag;refine ab.mono ?_;rintro e bb⟨rfl,i6,Z⟩;have B6:=Z.blk V.out.at'.1 ba.out;clear a0 a1 a2 a3 a4 a5 a6 a7;obtain⟨a0,a1,a2,a3,a4,a5,a6,a7⟩:=Q7 B6;dsimp only[Nd.as]at a0 a1 a2 a3 a4 a5 a6 a7;have f6:∀j,bb.frozen? ⟨x2.a,j,none⟩=false:=B6.frozen;have FX:=O (fun w7(e:w7=bb.setCell ⟨x2.a,7,none⟩ r'.ptrV)=>V.out.setR i6 Z (fun _ h=>h) (fun k R=>.inl (af.out k R)) e);obtain⟨q,hq⟩:=r'.ptrV_any;rw[hq]at FX⊢;clear i6 Z B6 hq ab;go_wp2_with fail;obtain⟨w9,ae⟩:=Zx (bb.setCell ⟨x2.a,7,none⟩ (.pointer q));rw[←ae];obtain⟨i7,c7⟩:=FX.out _ ae;have hb:=Ga i7;unfold ptr at hb;clear ae a0 a1 a2 a3 a4 a5 a6 a7 f6 FX;refine hb.mono ?_;rintro e bd⟨rfl,i8,c8⟩;have al:Qc (fun k=>k∈(Tr.node x c l r).addrs) w bd:=by
          have ah:(Tr.node (x2.as E.first) c2 l2 E).addrs=(Tr.node x c l r).addrs:=ai.out;rw[ah]at c7;refine(C5.out.trans' c7).trans' (c8.sub fun k R=>?_);rw[←ah];simp only[Tr.addrs,List.mem_append,List.mem_cons]at R⊢;rcases R with R|rfl|R;·exact .inl R
          ·exact .inr (.inl rfl)
          ·exact .inr (.inr (af.out _ R))
         have HF:=O al;have HI:=O i8;clear i8 c8 al i7 c7 hb;go_wp2;go_ret;exact⟨rfl,HI.out,HF.out⟩
        |node v cv vl vr=>
         have bs:=O (show Jk w6 (.node v cv vl vr)from aj.2.1);have bv:=O (show(Tr.node v cv vl vr).first=E.first from ap);have ak:(Tr.node v cv vl vr).ptrV=.pointer (some ⟨v.a,0,none⟩):=rfl;have br:(Tr.node v cv vl vr).size<gk:=by rw[←a8];simp[Tr.size];omega
         rw[ak]at b6;dsimp only[Tr.ptrV];clear a8 bc aj ap ak;go_wp2;go_roundg (Tr.node v cv vl vr).size;case rel=>exact⟨_,rfl,rfl,nofun,bs.out,bv.out,rfl⟩
         case measure=>exact br
end
structure Qb7(w:World)(F:Fp)(T:Nat)(t:Tr)(l:List J6):Prop where
 top:Qh w T #[O0,Vw,t.ptrV,.int .i64 (l.length:Int)] 254
 sub:Yj w T t
 fine:∃m,Xo t m
 blk:t.red=false
 flat:t.flat=l
 ris:X8 l
 fp:∀a∈T::t.addrs,F a
 bd:Bd F w
def V0(w:World)(F:Fp)(T:Nat)(l:List J6):Prop:=∃t,Qb7 w F T t l
theorem Qb7.keep{w w':World}{F S:Fp}{T:Nat}{t:Tr}{l:List J6}(h:Qb7 w F T t l)(hc:Qc S w w')(c:Je F S):Qb7 w' F T t l:=
 ⟨hc.blk h.top (c _ (h.fp T (by simp))),h.sub.keep hc (fun a ha=>c _ (h.fp a ha)),h.fine,h.blk,h.flat,h.ris,h.fp,h.bd.later hc⟩
theorem V0.obj:Ky V0 where
 bd:=fun⟨t,h⟩=>h.bd
 own:=fun⟨t,h⟩=>h.fp _ (by simp)
 keep:=fun⟨t,h⟩hc d=>⟨t,h.keep hc d⟩
 more:=fun⟨t,h⟩hs c=>⟨t,h.top,h.sub,h.fine,h.blk,h.flat,h.ris,fun a ha=>hs _ (h.fp a ha),c⟩
theorem Qji{k:Int}{v:Value}{L:List (Int×Value)}(h:look k L=some v):(k,v)∈L:=by
 unfold look at h;cases c:Ho k L 0 with
 |none=>rw[c]at h;cases h
 |some q=> obtain⟨n,u⟩:=q;rw[c]at h;obtain rfl:=Option.some.inj h;obtain⟨j,_,_,d⟩:=Hf c;exact List.mem_of_getElem? d
theorem Qtc{k:Int}{L L':List (Int×Value)}(d:L.Perm L')(hn:(L.map (·.1)).Nodup):look k L=look k L':=by
 have c:(L'.map (·.1)).Nodup:=(d.map _).nodup_iff.1 hn;cases h:look k L' with
 |some v=>exact Dw hn (d.mem_iff.2 (Qji h))
 |none=>
  cases q:look k L with
  |none=>rfl
  |some v=>rw[Dw c (d.mem_iff.1 (Qji q))]at h;cases h
def atV(l:List J6):List (Int×Value):=l.map fun e=>(e.2.1,Xi e.1 e.2.1)
theorem Qmy(l:List J6):(atV l).map (·.1)=l.map (·.2.1):=by simp[atV]
theorem L6{id:Int}{l:List J6}{e:J6}(h:Hz id l=some e):e∈l∧e.2.1=id:=⟨List.mem_of_find?_eq_some h,by simpa using List.find?_some h⟩
theorem L7{id:Int}{l:List J6}(h:Hz id l=none):∀e∈l,e.2.1≠id:=by simpa[Hz]using h
theorem Qmz{id:Int}{l:List J6}{L:List (Int×Value)}(c:L.Perm (atV l))(q:Ua l):look id L=(Hz id l).map fun e=>Xi e.1 id:=by
 have hn:(L.map (·.1)).Nodup:=(c.map _).nodup_iff.2 (by rw[Qmy];exact q);rw[Qtc c hn];have d:((atV l).map (·.1)).Nodup:=by rw[Qmy];exact q
 cases h:Hz id l with
 |some e=> obtain⟨k,rfl⟩:=L6 h;exact Dw d (List.mem_map.2 ⟨e,k,rfl⟩)
 |none=>
  rw[Ez];·rfl
  ·intro p c;obtain⟨e,k,rfl⟩:=List.mem_map.1 c;exact L7 h e k
theorem Qv6{id:Int}{l:List J6}{L:List (Int×Value)}(c:L.Perm (atV l)):(Kx id L).Perm (atV (Jc id l)):=by refine(c.filter _).trans ?_;simp only[atV,Jc,List.filter_map];exact .refl _
theorem Qxz{id:Int}{n v:Nat}{l:List J6}{L:List (Int×Value)}(d:L.Perm (atV l))(c:∀e∈l,e.2.1≠id):(Ht id (Xi n id) L).Perm (atV (Vz (n,id,v) l)):=by
 rw[Om (fun p q=>by
  obtain⟨e,k,rfl⟩:=List.mem_map.1 (d.mem_iff.1 q);exact c e k)]
 refine((d.append_right _).trans ?_).trans ((D8 (n,id,v) l).map _).symm;exact List.perm_append_comm
end Go.Proofs.YtnnhmpehkbihnaaGreat
