/- A part of the proof: no condition. -/
import Derived.Test.YtnnhmpehkbihnaaGreatPp07
namespace Go.Proofs.YtnnhmpehkbihnaaGreat
set_option linter.unusedVariables false
set_option maxRecDepth 100000
set_option maxHeartbeats 4000000
open Go.RowKit
open Go.Proofs.Tryz
section
attribute [local go_sem] Qq
def Xz(s:Nat×Int):Array Value:=#[.int .u64 (s.1:Int),.int .i64 s.2]
theorem Qta(a b:Nat×Int)(w:World):Cl 178 #[.agg (Xz a),.agg (Xz b)] w fun e w'=>e=.returned (.agg (Xz (Jp a b)))∧Qc Qb w w':=Qga a b w
theorem D9{w:World}{b:Nat}{x:Nd}{c:Bool}{p q:Value}{n:Int}{pp:Value}(hT:Qh w b #[O0,Vw,pp,.int .i64 n] 254)(hX:Qh w x.a (ndC x c p q) 258)(l r:Tr)(hp:p=l.ptrV)(hq:q=r.ptrV)(hl:Jk w l)(hr:Jk w r):
  Cl 260 #[ptr b,ptr x.a] w fun e w'=>e=.returned (.agg (Xz (E5 x l r)))∧Qc Qb w w':=by
 have HO:=O (fun w=>E6 x.n x.i x.v w);have HL:=O (fun w y z=>Qta y z w);obtain⟨s,ae⟩:=Zx (w.heap.size);have S0:=O (Qh.new w #[.int .u64 0,.int .i64 0] 201);have C0:=O ((Qc.refl Qb w).alloc (.cells #[.int .u64 0,.int .i64 0] 201));have T0:=O (hT.alloc (.cells #[.int .u64 0,.int .i64 0] 201));have X0:=O (hX.alloc (.cells #[.int .u64 0,.int .i64 0] 201));have TL:=O (fun w'(h:Qc Qb w w')=>Jk.keep h l hl (fun _ _ h=>h));have TR:=O (fun w'(h:Qc Qb w w')=>Jk.keep h r hr (fun _ _ h=>h));simp only[←ae]at S0;have ao:=hT.lt;have al:=hX.lt;have ap:=O (Jk.lt r hr);unfold ptr Xi at*;clear hl hr hT hX;go_enter func260,ntmps260;go_wp2;rw[←ae];obtain⟨W,hW⟩:=Zx (w.alloc (.cells #[.int .u64 0,.int .i64 0] 201));rw[←hW]at S0 C0 T0 X0⊢;have HS:=O ae;clear hW ae;dsimp only[ndC,O0,Vw]at T0 X0;have af:=O (fun(w':World)(h:Qc Qb W w')=>(⟨(Xt (h.blk T0.out (fun h=>h))).1,(Q7 (h.blk X0.out (fun h=>h))).1,(Q7 (h.blk X0.out (fun h=>h))).2.1,(Q7 (h.blk X0.out (fun h=>h))).2.2.1⟩:w'.cell? ⟨b,0,none⟩=some (.func (.func 177) #[] #[])∧w'.cell? ⟨x.a,0,none⟩=some (.int .u64 (x.n:Int))∧w'.cell? ⟨x.a,1,none⟩=some (.int .i64 x.i)∧w'.cell? ⟨x.a,2,none⟩=some (.int .u64 (x.v:Int))));go_wp2;go_cut [5] (fun s5 wz=>∃q,s5=.pointer (some ⟨q,0,none⟩)∧W.heap.size≤q∧Qh wz q (Xz (x.v,x.i)) 201∧Qc Qb W wz)
 case first=>
  go_region_held3 (fun w':World=>w'.cell? ⟨b,0,none⟩=some (.func (.func 177) #[] #[])∧w'.cell? ⟨x.a,0,none⟩=some (.int .u64 (x.n:Int))∧w'.cell? ⟨x.a,1,none⟩=some (.int .i64 x.i)∧w'.cell? ⟨x.a,2,none⟩=some (.int .u64 (x.v:Int))) (exact af.out _ (by(repeat' (first|(with_reducible first|exact Zg _ _|assumption|refine Zh ?_ _|refine Zi ?_ _|refine Zj ?_ |refine Zk ?_ _ ?_ |(apply Or.inl;rfl))|(apply Or.inl;simp;done)|(apply Or.inr;simp;first|done|omega))))) (first|(go_at_call 177;with_reducible refine(HO.out _).mono ?_;rintro e w2⟨rfl,d2⟩;have c2:Qc Qb W w2:=Qc.trans' (by(repeat' (first|(with_reducible first|exact Zg _ _|assumption|refine Zh ?_ _|refine Zi ?_ _|refine Zj ?_ |refine Zk ?_ _ ?_ |(apply Or.inl;rfl))|(apply Or.inl;simp;done)|(apply Or.inr;simp;first|done|omega)))) d2;have z2:=c2.size;(try(first|have g2:=d2.blk (Qh.new _ #[.int .u64 0,.int .i64 0] 201) (fun h=>h)|have g2:=d2.blk (Qh.new _ #[.int .u64 0,.int .i64 0] 201).drew (fun h=>h));obtain⟨u2,v2⟩:=Qz g2;have f2:=g2.frozen);clear d2));all_goals go_wp2_with fail
  all_goals go_meet
  all_goals refine⟨_,rfl,?_,?_,?_⟩
  all_goals first|exact(g2.set' 0 _ rfl).set' 1 _ rfl|exact Qh.new _ _ _|skip
  all_goals first|omega|skip
  all_goals(repeat' (first|(with_reducible first|exact Zg _ _|assumption|refine Zh ?_ _|refine Zi ?_ _|refine Zj ?_ |refine Zk ?_ _ ?_ |(apply Or.inl;rfl))|(apply Or.inl;simp;done)|(apply Or.inr;simp;first|done|omega)))
 case rest=>
  obtain⟨B,rfl,aj,ag,J⟩:=hcut;obtain⟨W1,hW1⟩:=Zx wc;rw[←hW1]at ag J⊢;clear hW1 af HO;have T1:=O (J.blk T0.out (fun h=>h));have X1:=O (J.blk X0.out (fun h=>h));have S1:=O (J.blk S0.out (fun h=>h));have C1:=O (C0.out.trans' J);have Q1:=O ag;have ai:s<B:=Nat.lt_of_lt_of_le S0.out.lt aj;have d:=O ai;have ab:=O (show w.heap.size<B from HS.out▸ai);have an:=O (show¬b=B by have:=ao;have:=ab.out;omega);have aa:=O (show¬x.a=B by have:=al;have:=ab.out;omega);have ac:=O (show s=w.heap.size from HS.out);clear ag J ai aj T0 X0 S0 C0 HS;subst hp hq;cases l with
  |nil=>
   cases r with
   |nil=>
    unfold Tr.ptrV at*;obtain⟨a0,a1,Z,a3,a4,a5,a6,a7⟩:=Q7 X1.out;obtain⟨y0,y1⟩:=Qz Q1.out;obtain⟨y2,y3⟩:=Qz S1.out;have y4:=S1.out.frozen;have n1:¬s=B:=by have:=d.out;omega
    have n2:¬B=s:=by have:=d.out;omega
    go_wp2;refine bodyPost_ret (v:=.agg (Xz ((x.v,x.i)))) ?_ rfl ⟨rfl,?_⟩;·simp[*,results,Tryz.results260,go_sem,Xz]
    ·have cw:=C1.out;have ah:=ac.out;clear y0 y1 y2 y3 y4 n1 n2;(repeat' (first|(with_reducible first|exact Zg _ _|assumption|refine Zh ?_ _|refine Zi ?_ _|refine Zj ?_ |refine Zk ?_ _ ?_ |(apply Or.inl;rfl))|(apply Or.inl;simp;done)|(apply Or.inr;simp;first|done|omega)))
   |node z zc zl zr=>
    have R1:=O ((TR.out _ C1.out).1);unfold Tr.ptrV at*;dsimp only[Xz,ndC]at*;obtain⟨a0,a1,Z,a3,a4,a5,a6,a7⟩:=Q7 X1.out;have E1:=fun x=>Xt (Qk (S:=Qb) T1.out (fun h=>h) x);have E2:=fun x=>Q7 (Qk (S:=Qb) X1.out (fun h=>h) x);have E3:=fun x=>Q7 (Qk (S:=Qb) R1.out (fun h=>h) x);have E4:=fun x=>Qz (Qk (S:=Qb) Q1.out (fun h=>h) x);go_wp2;refine Qr [] [0,1,2,3,4,5,6,7,8,9,10,11] [12] [13] (Qw (Qb) (W1)) (by kernel_rfl) (by kernel_rfl) ?_ (Qd (by(repeat' (first|(with_reducible first|exact Zg _ _|assumption|refine Zh ?_ _|refine Zi ?_ _|refine Zj ?_ |refine Zk ?_ _ ?_ |(apply Or.inl;rfl))|(apply Or.inl;simp;done)|(apply Or.inr;simp;first|done|omega))))) ?_;·exact fun _ _ _ _ _ h=>h
    simp only[pick,Zf,Ze,Zd];refine Qf ?_;iterate 12 (refine Ql (fun K hK=>?_);go_simp;refine hK _ ?_;clear hK K)
    refine Qf ?_;intro _ I;obtain⟨xo,E⟩:=I;subst E;simp only[Zn];have V:=O (Qu Qb W1 xo);generalize Qw Qb W1 xo=U1 at V⊢;clear E1 E2 E3 E4 a0 a1 Z a3 a4 a5 a6 a7;go_wp2_with fail;with_reducible refine(HL.out _ (x.v,x.i) (z.sv,z.si)).mono ?_
    rintro e Y1⟨rfl,d3⟩;have u:=O (V.out.trans' d3);have U:=O (u.out.blk Q1.out (fun h=>h));obtain⟨y1,y2⟩:=Qz U.out;have y3:=U.out.frozen;clear d3;dsimp only[Xz];go_wp2;refine⟨Qd u.out,?_⟩;have R:=O (u.out.blk S1.out (fun h=>h));obtain⟨y5,y6⟩:=Qz R.out;have y7:=R.out.frozen;have n1:¬s=B:=by have:=d.out;omega
    have n2:¬B=s:=by have:=d.out;omega
    go_wp2;refine bodyPost_ret (v:=.agg (Xz (Jp (x.v,x.i) (z.sv,z.si)))) ?_ rfl ⟨rfl,?_⟩;·simp[*,results,Tryz.results260,go_sem,Xz]
    ·have cw:=C1.out.trans' u.out;have ah:=ac.out;have ak:=d.out;clear y1 y2 y3 y5 y6 y7 n1 n2;(repeat' (first|(with_reducible first|exact Zg _ _|assumption|refine Zh ?_ _|refine Zi ?_ _|refine Zj ?_ |refine Zk ?_ _ ?_ |(apply Or.inl;rfl))|(apply Or.inl;simp;done)|(apply Or.inr;simp;first|done|omega)))
  |node y yc yl yr=>
   have L1:=O ((TL.out _ C1.out).1);cases r with
   |nil=>
    unfold Tr.ptrV at*;dsimp only[Xz,ndC]at*;obtain⟨a0,a1,Z,a3,a4,a5,a6,a7⟩:=Q7 X1.out;have E1:=fun x=>Xt (Qk (S:=Qb) T1.out (fun h=>h) x);have E2:=fun x=>Q7 (Qk (S:=Qb) X1.out (fun h=>h) x);have E3:=fun x=>Q7 (Qk (S:=Qb) L1.out (fun h=>h) x);have E4:=fun x=>Qz (Qk (S:=Qb) Q1.out (fun h=>h) x);go_wp2;refine Qr [] [0,1,2,3,4,5,6,7,8,9,10,11] [12] [13] (Qw (Qb) (W1)) (by kernel_rfl) (by kernel_rfl) ?_ (Qd (by(repeat' (first|(with_reducible first|exact Zg _ _|assumption|refine Zh ?_ _|refine Zi ?_ _|refine Zj ?_ |refine Zk ?_ _ ?_ |(apply Or.inl;rfl))|(apply Or.inl;simp;done)|(apply Or.inr;simp;first|done|omega))))) ?_;·exact fun _ _ _ _ _ h=>h
    simp only[pick,Zf,Ze,Zd];refine Qf ?_;iterate 12 (refine Ql (fun K hK=>?_);go_simp;refine hK _ ?_;clear hK K)
    refine Qf ?_;intro _ I;obtain⟨xo,E⟩:=I;subst E;simp only[Zn];have V:=O (Qu Qb W1 xo);generalize Qw Qb W1 xo=U1 at V⊢;clear E1 E2 E3 E4 a0 a1 Z a3 a4 a5 a6 a7;go_wp2_with fail;with_reducible refine(HL.out _ (y.sv,y.si) (x.v,x.i)).mono ?_
    rintro e Y1⟨rfl,d3⟩;have u:=O (V.out.trans' d3);have U:=O (u.out.blk Q1.out (fun h=>h));obtain⟨y1,y2⟩:=Qz U.out;have y3:=U.out.frozen;clear d3;dsimp only[Xz];go_wp2;refine⟨Qd u.out,?_⟩;have R:=O (u.out.blk S1.out (fun h=>h));obtain⟨y5,y6⟩:=Qz R.out;have y7:=R.out.frozen;have n1:¬s=B:=by have:=d.out;omega
    have n2:¬B=s:=by have:=d.out;omega
    obtain⟨a0,a1,Z,a3,a4,a5,a6,a7⟩:=Q7 (u.out.blk X1.out (fun h=>h));have n3:¬x.a=B:=aa.out;have n4:¬B=x.a:=fun h=>aa.out h.symm;go_wp2;refine bodyPost_ret (v:=.agg (Xz (Jp (y.sv,y.si) (x.v,x.i)))) ?_ rfl ⟨rfl,?_⟩;·simp[*,results,Tryz.results260,go_sem,Xz]
    ·have cw:=C1.out.trans' u.out;have ah:=ac.out;have ak:=d.out;clear n3 n4 a0 a1 Z a3 a4 a5 a6 a7 y1 y2 y3 y5 y6 y7 n1 n2;(repeat' (first|(with_reducible first|exact Zg _ _|assumption|refine Zh ?_ _|refine Zi ?_ _|refine Zj ?_ |refine Zk ?_ _ ?_ |(apply Or.inl;rfl))|(apply Or.inl;simp;done)|(apply Or.inr;simp;first|done|omega)))
   |node z zc zl zr=>
    have R1:=O ((TR.out _ C1.out).1);have am:=O (show¬z.a=B from fun h=>by have:=ab.out;have:=ap.out z.a (by simp[Tr.addrs]);omega);unfold Tr.ptrV at*;dsimp only[Xz,ndC]at*;obtain⟨a0,a1,Z,a3,a4,a5,a6,a7⟩:=Q7 X1.out;have E1:=fun x=>Xt (Qk (S:=Qb) T1.out (fun h=>h) x);have E2:=fun x=>Q7 (Qk (S:=Qb) X1.out (fun h=>h) x);have E3:=fun x=>Q7 (Qk (S:=Qb) L1.out (fun h=>h) x);have E4:=fun x=>Qz (Qk (S:=Qb) Q1.out (fun h=>h) x);go_wp2;refine Qr [] [0,1,2,3,4,5,6,7,8,9,10,11] [12] [13] (Qw (Qb) (W1)) (by kernel_rfl) (by kernel_rfl) ?_ (Qd (by(repeat' (first|(with_reducible first|exact Zg _ _|assumption|refine Zh ?_ _|refine Zi ?_ _|refine Zj ?_ |refine Zk ?_ _ ?_ |(apply Or.inl;rfl))|(apply Or.inl;simp;done)|(apply Or.inr;simp;first|done|omega))))) ?_;·exact fun _ _ _ _ _ h=>h
    simp only[pick,Zf,Ze,Zd];refine Qf ?_;iterate 12 (refine Ql (fun K hK=>?_);go_simp;refine hK _ ?_;clear hK K)
    refine Qf ?_;intro _ I;obtain⟨xo,E⟩:=I;subst E;simp only[Zn];have V:=O (Qu Qb W1 xo);generalize Qw Qb W1 xo=U1 at V⊢;clear E1 E2 E3 E4 a0 a1 Z a3 a4 a5 a6 a7;go_wp2_with fail;with_reducible refine(HL.out _ (y.sv,y.si) (x.v,x.i)).mono ?_
    rintro e Y1⟨rfl,d3⟩;have u:=O (V.out.trans' d3);have U:=O (u.out.blk Q1.out (fun h=>h));obtain⟨y1,y2⟩:=Qz U.out;have y3:=U.out.frozen;clear d3;dsimp only[Xz];go_wp2;refine⟨Qd u.out,?_⟩;have R:=O (u.out.blk S1.out (fun h=>h));obtain⟨y5,y6⟩:=Qz R.out;have y7:=R.out.frozen;have n1:¬s=B:=by have:=d.out;omega
    have n2:¬B=s:=by have:=d.out;omega
    obtain⟨a0,a1,Z,a3,a4,a5,a6,a7⟩:=Q7 (u.out.blk X1.out (fun h=>h));have n3:¬x.a=B:=aa.out;have n4:¬B=x.a:=fun h=>aa.out h.symm;go_wp2;clear y1 y2 y3 y5 y6 y7 n1 n2 n3 n4 a0 a1 Z a3 a4 a5 a6 a7;have Q2:=O ((U.out.set' 0 (.int .u64 ((Jp (y.sv,y.si) (x.v,x.i)).1:Int)) rfl).set' 1 (.int .i64 (Jp (y.sv,y.si) (x.v,x.i)).2) rfl);have D5:=O ((((Qc.refl (fun k=>k=B) Y1).setCell (a:=⟨B,0,none⟩) (.int .u64 ((Jp (y.sv,y.si) (x.v,x.i)).1:Int)) (.inl rfl)).setCell (a:=⟨B,1,none⟩) (.int .i64 (Jp (y.sv,y.si) (x.v,x.i)).2) (.inl rfl)));obtain⟨W2,hW2⟩:=Zx ((Y1.setCell ⟨B,0,none⟩ (.int .u64 ((Jp (y.sv,y.si) (x.v,x.i)).1:Int))).setCell ⟨B,1,none⟩ (.int .i64 (Jp (y.sv,y.si) (x.v,x.i)).2));rw[←hW2]at Q2 D5⊢;clear hW2;have T2:=O (D5.out.blk (u.out.blk T1.out (fun h=>h)) an.out);have X2:=O (D5.out.blk (u.out.blk X1.out (fun h=>h)) aa.out);have R2:=O (D5.out.blk (u.out.blk R1.out (fun h=>h)) am.out);have S2:=O (D5.out.blk R.out (by have:=d.out;omega));have C2:=O (show Qc Qb w W2 from(C1.out.trans' u.out).trans D5.out (fun k hk=>.inr (by have:=ab.out;omega)));clear D5 V u U R;obtain⟨a0,a1,Z,a3,a4,a5,a6,a7⟩:=Q7 X2.out;have E1:=fun x=>Xt (Qk (S:=Qb) T2.out (fun h=>h) x);have E2:=fun x=>Q7 (Qk (S:=Qb) X2.out (fun h=>h) x);have E3:=fun x=>Q7 (Qk (S:=Qb) R2.out (fun h=>h) x);have E4:=fun x=>Qz (Qk (S:=Qb) Q2.out (fun h=>h) x);go_wp2;refine Qr [] [0,1,2,3,4,5,6,7,8,9,10,11] [12] [13] (Qw (Qb) (W2)) (by kernel_rfl) (by kernel_rfl) ?_ (Qd (by(repeat' (first|(with_reducible first|exact Zg _ _|assumption|refine Zh ?_ _|refine Zi ?_ _|refine Zj ?_ |refine Zk ?_ _ ?_ |(apply Or.inl;rfl))|(apply Or.inl;simp;done)|(apply Or.inr;simp;first|done|omega))))) ?_;·exact fun _ _ _ _ _ h=>h
    simp only[pick,Zf,Ze,Zd];refine Qf ?_;iterate 12 (refine Ql (fun K hK=>?_);go_simp;refine hK _ ?_;clear hK K)
    refine Qf ?_;intro _ I;obtain⟨xo,E⟩:=I;subst E;simp only[Zn];have V:=O (Qu Qb W2 xo);generalize Qw Qb W2 xo=U2 at V⊢;clear E1 E2 E3 E4 a0 a1 Z a3 a4 a5 a6 a7;go_wp2_with fail;with_reducible refine(HL.out _ (Jp (y.sv,y.si) (x.v,x.i)) (z.sv,z.si)).mono ?_
    rintro e Y2⟨rfl,d3⟩;have u:=O (V.out.trans' d3);have U:=O (u.out.blk Q2.out (fun h=>h));obtain⟨y1,y2⟩:=Qz U.out;have y3:=U.out.frozen;clear d3;dsimp only[Xz];go_wp2;refine⟨Qd u.out,?_⟩;have R:=O (u.out.blk S2.out (fun h=>h));obtain⟨y5,y6⟩:=Qz R.out;have y7:=R.out.frozen;have n1:¬s=B:=by have:=d.out;omega
    have n2:¬B=s:=by have:=d.out;omega
    go_wp2;refine bodyPost_ret (v:=.agg (Xz (Jp (Jp (y.sv,y.si) (x.v,x.i)) (z.sv,z.si)))) ?_ rfl ⟨rfl,?_⟩;·simp[*,results,Tryz.results260,go_sem,Xz]
    ·have cw:=C2.out.trans' u.out;have ah:=ac.out;have ak:=d.out;clear y1 y2 y3 y5 y6 y7 n1 n2;(repeat' (first|(with_reducible first|exact Zg _ _|assumption|refine Zh ?_ _|refine Zi ?_ _|refine Zj ?_ |refine Zk ?_ _ ?_ |(apply Or.inl;rfl))|(apply Or.inl;simp;done)|(apply Or.inr;simp;first|done|omega)))
theorem Qa4{w:World}{b:Nat}{h x:Nd}{c xc:Bool}{u d r:Tr}(hs:Yj w b (.node h c (.node x xc u d) r)):
  Cl 247 #[ptr b,ptr h.a] w fun e w'=>e=.returned (ptr x.a)∧Yj w' b (Qa1 (.node h c (.node x xc u d) r))∧Qc (fun k=>k=h.a∨k=x.a) w w':=by
 have hN:(b::(Qa1 (.node h c (.node x xc u d) r)).addrs).Nodup:=by rw[Gx];exact hs.nd
 have B:=hs.top;obtain⟨⟨pp,nn,hT⟩,ac,hH,hA,hB⟩:=hs;obtain⟨hX,af,ag⟩:=hA;simp only[Tr.addrs,List.nodup_cons,List.mem_append,List.mem_cons,not_or,List.nodup_append]at ac;have z:h.a≠x.a:=by grind
 have aj:b≠h.a:=by grind
 have ab:b≠x.a:=by grind
 have sl:∀a∈u.addrs,¬(a=h.a∨a=x.a):=by grind
 have sr:∀a∈d.addrs,¬(a=h.a∨a=x.a):=by grind
 have so:∀a∈r.addrs,¬(a=h.a∨a=x.a):=by grind
 clear ac;have KL:=O (fun w'(hc:Qc (fun k=>k=h.a∨k=x.a) w w')=>Jk.keep hc u af sl);have KR:=O (fun w'(hc:Qc (fun k=>k=h.a∨k=x.a) w w')=>Jk.keep hc d ag sr);have KO:=O (fun w'(hc:Qc (fun k=>k=h.a∨k=x.a) w w')=>Jk.keep hc r hB so);have KT:=O (fun w'(hc:Qc (fun k=>k=h.a∨k=x.a) w w')=>hc.blk hT (fun e=>e.elim aj ab));have ah:=O (fun w'(hc:Qc (fun k=>k=h.a∨k=x.a) w w')=>B.keep hc (fun e=>e.elim aj ab));have HN:=O hN;have E:x.a≠h.a:=Ne.symm z;have F1:∀J,J=(((w.setCell ⟨h.a,6,none⟩ d.ptrV).setCell ⟨x.a,7,none⟩ (.pointer (some ⟨h.a,0,none⟩))).setCell ⟨x.a,5,none⟩ (.bool c)).setCell ⟨h.a,5,none⟩ (.bool true)→Qh J h.a (ndC h true d.ptrV r.ptrV) 258∧Qh J x.a (ndC x c u.ptrV (.pointer (some ⟨h.a,0,none⟩))) 258∧Qc (fun k=>k=h.a∨k=x.a) w J:=by
  rintro J rfl;refine⟨?_,?_,?_⟩;·exact(((hH.set' 6 _ rfl).other _ E).other _ E).set' 5 _ rfl
  ·exact(((hX.other _ z).set' 7 _ rfl).set' 5 _ rfl).other _ z
  ·exact((((Qc.refl _ w).setCell _ (.inl (.inl rfl))).setCell _ (.inl (.inr rfl))).setCell _ (.inl (.inr rfl))).setCell _ (.inl (.inl rfl))
 have am:=O F1;obtain⟨a0,a1,a2,a3,a4,a5,a6,a7⟩:=Q7 hH;obtain⟨b0,b1,b2,b3,b4,b5,b6,b7⟩:=Q7 hX;have z1:=hH.frozen;have z2:=hX.frozen;have N1:=O z;obtain⟨pm,I⟩:∃pm,d.ptrV=.pointer pm:=by cases d<;>exact⟨_,rfl⟩
 have ar:=O I;unfold ptr at*;dsimp only[Tr.ptrV]at a0 a1 a2 a3 a4 a5 a6 a7;rw[I]at am b7;clear I;clear af ag hB hT hH hX B hN sl sr so F1;go_enter func247,ntmps247;go_wp2_with fail;generalize hW1:(((w.setCell ⟨h.a,6,none⟩ (.pointer pm)).setCell ⟨x.a,7,none⟩ (.pointer (some ⟨h.a,0,none⟩))).setCell ⟨x.a,5,none⟩ (.bool c)).setCell ⟨h.a,5,none⟩ (.bool true)=J;obtain⟨H1,X1,U⟩:=am.out _ hW1.symm;rw[←ar.out]at H1;have T1:=KT.out _ U;clear hW1 a0 a1 a2 a3 a4 a5 a6 a7 b0 b1 b2 b3 b4 b5 b6 b7 z1 z2;have ak:=KR.out _ U;have ae:=KO.out _ U;refine(D9 (p:=d.ptrV) (q:=r.ptrV) T1 H1 d r rfl rfl ak ae).mono ?_;rintro e w2⟨rfl,c2⟩;have H2:=O (c2.blk H1 (fun h=>h));have X2:=O (c2.blk X1 (fun h=>h));have C2:=O (U.trans c2 (fun k h=>h.elim));clear T1 H1 X1 U ak ae c2;dsimp only[Xz];have FX:∀K,K=(w2.setCell ⟨h.a,3,none⟩ (.int .u64 ((E5 h d r).1:Int))).setCell ⟨h.a,4,none⟩ (.int .i64 (E5 h d r).2)→Qh K h.a (ndC (h.re d r) true d.ptrV r.ptrV) 258∧Qh K x.a (ndC x c u.ptrV (.pointer (some ⟨h.a,0,none⟩))) 258∧Qc (fun k=>k=h.a∨k=x.a) w K:=by rintro K rfl;exact⟨(H2.out.set' 3 _ rfl).set' 4 _ rfl,(X2.out.other _ N1.out).other _ N1.out,(C2.out.setCell _ (.inl (.inl rfl))).setCell _ (.inl (.inl rfl))⟩
 have au:=O FX;have y1:=H2.out.frozen;obtain⟨a0,a1,a2,a3,a4,a5,a6,a7⟩:=Q7 H2.out;clear FX z E;go_wp2_with fail;generalize al:(w2.setCell ⟨h.a,3,none⟩ (.int .u64 ((E5 h d r).1:Int))).setCell ⟨h.a,4,none⟩ (.int .i64 (E5 h d r).2)=K;obtain⟨H3,X3,R⟩:=au.out _ al.symm;have T3:=KT.out _ R;clear al a0 a1 a2 a3 a4 a5 a6 a7 y1 H2 X2 C2;have aa:=KL.out _ R;have ai:=KR.out _ R;have Z:=KO.out _ R;refine(D9 T3 X3 u (mk h true d r) rfl rfl aa ⟨H3,ai,Z⟩).mono ?_;rintro e w4⟨rfl,c4⟩;have H4:=O (c4.blk H3 (fun h=>h));have X4:=O (c4.blk X3 (fun h=>h));have C4:=O (R.trans c4 (fun k h=>h.elim));clear T3 H3 X3 R aa ai Z c4;dsimp only[Xz];have FY:∀W5,W5=(w4.setCell ⟨x.a,3,none⟩ (.int .u64 ((E5 x u (mk h true d r)).1:Int))).setCell ⟨x.a,4,none⟩ (.int .i64 (E5 x u (mk h true d r)).2)→Yj W5 b (Qa1 (.node h c (.node x xc u d) r))∧Qc (fun k=>k=h.a∨k=x.a) w W5:=by rintro W5 rfl;have V:=(C4.out.setCell (a:=⟨x.a,3,none⟩) (.int .u64 ((E5 x u (mk h true d r)).1:Int)) (.inl (.inr rfl))).setCell (a:=⟨x.a,4,none⟩) (.int .i64 (E5 x u (mk h true d r)).2) (.inl (.inr rfl));have X5:=(X4.out.set' 3 (.int .u64 ((E5 x u (mk h true d r)).1:Int)) rfl).set' 4 (.int .i64 (E5 x u (mk h true d r)).2) rfl;have H5:=(H4.out.other (a:=⟨x.a,3,none⟩) (.int .u64 ((E5 x u (mk h true d r)).1:Int)) (Ne.symm N1.out)).other (a:=⟨x.a,4,none⟩) (.int .i64 (E5 x u (mk h true d r)).2) (Ne.symm N1.out);have ao:=KL.out _ V;have an:=KR.out _ V;have aq:=KO.out _ V;exact⟨⟨ah.out _ V,HN.out,X5,ao,H5,an,aq⟩,V⟩
 have ap:=O FY;have y1:=X4.out.frozen;obtain⟨a0,a1,a2,a3,a4,a5,a6,a7⟩:=Q7 X4.out;clear FY;go_wp2;go_ret;exact⟨rfl,ap.out _ rfl⟩
theorem Qjf{w:World}{b:Nat}{h x:Nd}{c xc:Bool}{l d u:Tr}(hs:Yj w b (.node h c l (.node x xc d u))):
  Cl 259 #[ptr b,ptr h.a] w fun e w'=>e=.returned (ptr x.a)∧Yj w' b (Qbx (.node h c l (.node x xc d u)))∧Qc (fun k=>k=h.a∨k=x.a) w w':=by
 have hN:(b::(Qbx (.node h c l (.node x xc d u))).addrs).Nodup:=by rw[Qa2];exact hs.nd
 have B:=hs.top;obtain⟨⟨pp,nn,hT⟩,ac,hH,hA,hB⟩:=hs;obtain⟨hX,af,ag⟩:=hB;simp only[Tr.addrs,List.nodup_cons,List.mem_append,List.mem_cons,not_or,List.nodup_append]at ac;have z:h.a≠x.a:=by grind
 have aj:b≠h.a:=by grind
 have ab:b≠x.a:=by grind
 have sl:∀a∈d.addrs,¬(a=h.a∨a=x.a):=by grind
 have sr:∀a∈u.addrs,¬(a=h.a∨a=x.a):=by grind
 have so:∀a∈l.addrs,¬(a=h.a∨a=x.a):=by grind
 clear ac;have KL:=O (fun w'(hc:Qc (fun k=>k=h.a∨k=x.a) w w')=>Jk.keep hc d af sl);have KR:=O (fun w'(hc:Qc (fun k=>k=h.a∨k=x.a) w w')=>Jk.keep hc u ag sr);have KO:=O (fun w'(hc:Qc (fun k=>k=h.a∨k=x.a) w w')=>Jk.keep hc l hA so);have KT:=O (fun w'(hc:Qc (fun k=>k=h.a∨k=x.a) w w')=>hc.blk hT (fun e=>e.elim aj ab));have ah:=O (fun w'(hc:Qc (fun k=>k=h.a∨k=x.a) w w')=>B.keep hc (fun e=>e.elim aj ab));have HN:=O hN;have E:x.a≠h.a:=Ne.symm z;have F1:∀J,J=(((w.setCell ⟨h.a,7,none⟩ d.ptrV).setCell ⟨x.a,6,none⟩ (.pointer (some ⟨h.a,0,none⟩))).setCell ⟨x.a,5,none⟩ (.bool c)).setCell ⟨h.a,5,none⟩ (.bool true)→Qh J h.a (ndC h true l.ptrV d.ptrV) 258∧Qh J x.a (ndC x c (.pointer (some ⟨h.a,0,none⟩)) u.ptrV) 258∧Qc (fun k=>k=h.a∨k=x.a) w J:=by
  rintro J rfl;refine⟨?_,?_,?_⟩;·exact(((hH.set' 7 _ rfl).other _ E).other _ E).set' 5 _ rfl
  ·exact(((hX.other _ z).set' 6 _ rfl).set' 5 _ rfl).other _ z
  ·exact((((Qc.refl _ w).setCell _ (.inl (.inl rfl))).setCell _ (.inl (.inr rfl))).setCell _ (.inl (.inr rfl))).setCell _ (.inl (.inl rfl))
 have am:=O F1;obtain⟨a0,a1,a2,a3,a4,a5,a6,a7⟩:=Q7 hH;obtain⟨b0,b1,b2,b3,b4,b5,b6,b7⟩:=Q7 hX;have z1:=hH.frozen;have z2:=hX.frozen;have N1:=O z;obtain⟨pm,I⟩:∃pm,d.ptrV=.pointer pm:=by cases d<;>exact⟨_,rfl⟩
 have ar:=O I;unfold ptr at*;dsimp only[Tr.ptrV]at a0 a1 a2 a3 a4 a5 a6 a7;rw[I]at am b6;clear I;clear af ag hA hT hH hX B hN sl sr so F1;go_enter func259,ntmps259;go_wp2_with fail;generalize hW1:(((w.setCell ⟨h.a,7,none⟩ (.pointer pm)).setCell ⟨x.a,6,none⟩ (.pointer (some ⟨h.a,0,none⟩))).setCell ⟨x.a,5,none⟩ (.bool c)).setCell ⟨h.a,5,none⟩ (.bool true)=J;obtain⟨H1,X1,U⟩:=am.out _ hW1.symm;rw[←ar.out]at H1;have T1:=KT.out _ U;clear hW1 a0 a1 a2 a3 a4 a5 a6 a7 b0 b1 b2 b3 b4 b5 b6 b7 z1 z2;have ak:=KO.out _ U;have ae:=KL.out _ U;refine(D9 (p:=l.ptrV) (q:=d.ptrV) T1 H1 l d rfl rfl ak ae).mono ?_;rintro e w2⟨rfl,c2⟩;have H2:=O (c2.blk H1 (fun h=>h));have X2:=O (c2.blk X1 (fun h=>h));have C2:=O (U.trans c2 (fun k h=>h.elim));clear T1 H1 X1 U ak ae c2;dsimp only[Xz];have FX:∀K,K=(w2.setCell ⟨h.a,3,none⟩ (.int .u64 ((E5 h l d).1:Int))).setCell ⟨h.a,4,none⟩ (.int .i64 (E5 h l d).2)→Qh K h.a (ndC (h.re l d) true l.ptrV d.ptrV) 258∧Qh K x.a (ndC x c (.pointer (some ⟨h.a,0,none⟩)) u.ptrV) 258∧Qc (fun k=>k=h.a∨k=x.a) w K:=by rintro K rfl;exact⟨(H2.out.set' 3 _ rfl).set' 4 _ rfl,(X2.out.other _ N1.out).other _ N1.out,(C2.out.setCell _ (.inl (.inl rfl))).setCell _ (.inl (.inl rfl))⟩
 have au:=O FX;have y1:=H2.out.frozen;obtain⟨a0,a1,a2,a3,a4,a5,a6,a7⟩:=Q7 H2.out;clear FX z E;go_wp2_with fail;generalize al:(w2.setCell ⟨h.a,3,none⟩ (.int .u64 ((E5 h l d).1:Int))).setCell ⟨h.a,4,none⟩ (.int .i64 (E5 h l d).2)=K;obtain⟨H3,X3,R⟩:=au.out _ al.symm;have T3:=KT.out _ R;clear al a0 a1 a2 a3 a4 a5 a6 a7 y1 H2 X2 C2;have aa:=KL.out _ R;have ai:=KR.out _ R;have Z:=KO.out _ R;refine(D9 T3 X3 (mk h true l d) u rfl rfl ⟨H3,Z,aa⟩ ai).mono ?_;rintro e w4⟨rfl,c4⟩;have H4:=O (c4.blk H3 (fun h=>h));have X4:=O (c4.blk X3 (fun h=>h));have C4:=O (R.trans c4 (fun k h=>h.elim));clear T3 H3 X3 R aa ai Z c4;dsimp only[Xz];have FY:∀W5,W5=(w4.setCell ⟨x.a,3,none⟩ (.int .u64 ((E5 x (mk h true l d) u).1:Int))).setCell ⟨x.a,4,none⟩ (.int .i64 (E5 x (mk h true l d) u).2)→Yj W5 b (Qbx (.node h c l (.node x xc d u)))∧Qc (fun k=>k=h.a∨k=x.a) w W5:=by rintro W5 rfl;have V:=(C4.out.setCell (a:=⟨x.a,3,none⟩) (.int .u64 ((E5 x (mk h true l d) u).1:Int)) (.inl (.inr rfl))).setCell (a:=⟨x.a,4,none⟩) (.int .i64 (E5 x (mk h true l d) u).2) (.inl (.inr rfl));have X5:=(X4.out.set' 3 (.int .u64 ((E5 x (mk h true l d) u).1:Int)) rfl).set' 4 (.int .i64 (E5 x (mk h true l d) u).2) rfl;have H5:=(H4.out.other (a:=⟨x.a,3,none⟩) (.int .u64 ((E5 x (mk h true l d) u).1:Int)) (Ne.symm N1.out)).other (a:=⟨x.a,4,none⟩) (.int .i64 (E5 x (mk h true l d) u).2) (Ne.symm N1.out);have ao:=KL.out _ V;have an:=KR.out _ V;have aq:=KO.out _ V;exact⟨⟨ah.out _ V,HN.out,X5,⟨H5,aq,ao⟩,an⟩,V⟩
 have ap:=O FY;have y1:=X4.out.frozen;obtain⟨a0,a1,a2,a3,a4,a5,a6,a7⟩:=Q7 X4.out;clear FY;go_wp2;go_ret;exact⟨rfl,ap.out _ rfl⟩
end
section
variable{P:Program}{ops:Array Oper}{Q:Exit→Act→World→Prop}{C:World→Prop}
def Qa5(P:Program)(ops:Array Oper)(Q:Exit→Act→World→Prop)(C:World→Prop)(late:Nat→Bool):Nat→Array Bool→Act→World→Prop
 |0,listed,a,w=>Region.ready .any ops listed=[]∧Q .normal a w
 |f+1,listed,a,w=>(Region.ready .any ops listed=[]→Q .normal a w)∧
  ∀i∈Region.ready .any ops listed,wpOp P ops Q i (fun c w'=>(late i=false→C w→C w')∧Qa5 P ops Q C late f (listed.setIfInBounds i true) c w') a w
theorem Qgb{late:Nat→Bool}:∀(f:Nat)(c:Array Bool)(a:Act)(w:World),Qa5 P ops Q C late f c a w→wpAny P .any ops Q f c a w
 |0,_,_,_,h=>h
 |f+1,_,_,_,h=>⟨h.1,fun i hi=>wpOp_mono (fun d w' h'=>Qgb f _ d w' h'.2) (h.2 i hi)⟩
theorem Qko{late:Nat→Bool}{D:World→Prop}{i F:Nat}{V:Oper}{v:Value}(hi:ops[i]? =some V)(R:∀(j:Nat)(o:Oper)cs b,ops[j]? =some o→o.op≠ .select cs b)
  (hQ:∀c a w,Q (.panic c) (a.put V.dst v) w→Q (.panic c) a w) (u:(∀w,D w)∨((∀j z,ops[j]? =some z→late j=true→Jy ops F j i=true)∧D=C)):
  ∀(f:Nat)(d:Array Bool)(a:Act)(w:World),Ji ops d→
   (∀j z,ops[j]? =some z→j≠i→d.getD j true=false→(∀e∈z.after,Region.binds .any e=true→e.on≠i)→V.apart ops z=true)→
   i∈Region.ready .any ops d→YieldsIf P ops D V v a→D w→
   Qa5 P ops Q C late f (d.setIfInBounds i true) (a.put V.dst v) w→Qa5 P ops Q C late (f+1) d a w:=by
 intro f;induction f with
 |zero=>
  intro d a w Z _ hr hy hC H;refine⟨fun h=>(by rw[h]at hr;cases hr),fun j hj=>?_⟩;by_cases q:j=i;·subst q;exact hy.wpOp hi hC ⟨fun _ h=>h,H⟩
  ·have:=ready_mono hj q;rw[H.1]at this;cases this
 |succ f ih=>
  intro d a w Z I hr hy hC H;have B:=(mem_ready.1 hr).1;refine⟨fun h=>(by rw[h]at hr;cases hr),fun j hj=>?_⟩;by_cases q:j=i;·subst q;exact hy.wpOp hi hC ⟨fun _ h=>h,H⟩
  ·have h1:=H.2 j (ready_mono hj q);obtain⟨K,z,E,U⟩:=mem_ready.1 hj;have aa:(∀w,D w)∨(late j=false∧D=C):=by
    rcases u with hD|⟨u,ae⟩;·exact .inl hD
    ·refine .inr ⟨?_,ae⟩;cases hl:late j with
     |false=>rfl
     |true=>
      have h1:=Xp Z F j i (fun o ho e he hb=>by
       have:o=z:=Option.some.inj (ho.symm.trans E);subst this;exact U e he hb) (u j z E hl)
      rw[getD_both B]at h1;cases h1
   have ab:∀e∈z.after,Region.binds .any e=true→e.on≠i:=fun e he hb ag=>by have h1:=U e he hb;rw[ag,getD_both B]at h1;cases h1
   have h2:=wpOp_putIf (S:=D) E (I j z E q K ab) (fun cs b=>R i V cs b hi) (fun cs b=>R j z cs b E) hQ hy h1;have J:∀k ok,ops[k]? =some ok→k≠i→(d.setIfInBounds j true).getD k true=false→
     (∀e∈ok.after,Region.binds .any e=true→e.on≠i)→V.apart ops ok=true:=fun k ok hk ah B af=>by
    refine I k ok hk ah ?_ af;by_cases ac:j=k;·subst ac;exact K
    ·rw[getD_set_ne true ac]at B;exact B
   refine wpOp_mono (fun a' w' h3=>⟨h3.2.1,ih (d.setIfInBounds j true) a' w' (Z.set hj) J (ready_mono hr (Ne.symm q)) h3.1 ?_ ?_⟩) h2
   ·rcases aa with hD|⟨aa,rfl⟩;·exact hD _
    ·exact h3.2.1 aa hC
   ·rw[Array.setIfInBounds_comm _ _ q];exact h3.2.2
theorem Qjg{late:Nat→Bool}:∀(d:List Nat)(c:Array Bool)(a:Act)(w:World),(∀j∈d,late j=true)→Qeq ops d c=true→
  wpList P ops Q (pick ops d) a w→Qa5 P ops Q C late d.length c a w
 |[],c,a,w,_,hB,h=>⟨by simpa[Qeq]using hB,h⟩
 |k::d,c,a,w,hl,hB,h=>by
  obtain⟨h1,⟨o,h0⟩,q⟩:=Qcz hB;refine⟨fun z=>(by rw[h1]at z;cases z),fun i hi=>?_⟩;rw[h1]at hi;have u:i=k:=by simpa using hi
  subst u;rw[Ur h0]at h;have E:wpOp P ops Q i (wpList P ops Q (pick ops d)) a w:=by unfold wpOp;simp only[h0];exact h
  exact wpOp_mono (fun I w' h'=>⟨fun h=>(by rw[hl i (by simp)]at h;cases h),Qjg d _ I w' (fun j B=>hl j (by simp[B])) q h'⟩) E
def Qc9(ops:Array Oper)(B:Array Bool→Bool):List Nat→Array Bool→Bool
 |[],listed=>B listed
 |k::ks,listed=>(Region.ready .any ops listed).contains k&&Region.free .any ops listed k&&((ops[k]?).map (·.dst.isSome)).getD false&&Qc9 ops B ks (listed.setIfInBounds k true)
theorem Qa6{late:Nat→Bool}{D:World→Prop}{B:Array Bool→Bool}{R:Act→Prop}{n:Nat}{w:World}(z:Region.noSelect ops=true)
  (hQ:∀c(a:Act)(d:Tmp)v w,Q (.panic c) (a.put (some d) v) w→Q (.panic c) a w)(V:D w):
  ∀(u:List Nat)(q:Array Bool)(a:Act),((∀w,D w)∨((∀k∈u,∀j,late j=true→Jy ops ops.size j k=true)∧D=C))→Ji ops q→
   Qc9 ops B u q=true→(∀q a,Ji ops q→B q=true→R a→Qa5 P ops Q C late n q a w)→Xk P ops D R (pick ops u) a→
   Qa5 P ops Q C late (u.length+n) q a w
 |[],q,a,_,hcl,hB,hR,h=>by simp only[List.length_nil,Nat.zero_add];exact hR q a hcl (by simpa[Qc9]using hB) h
 |k::u,q,a,hn,hcl,hB,hR,h=>by
  simp only[Qc9,Bool.and_eq_true]at hB;obtain⟨⟨⟨hr,hf⟩,I⟩,U⟩:=hB;have E:k∈Region.ready .any ops q:=by simpa using hr
  obtain⟨_,o,h0,_⟩:=mem_ready.1 E;rw[h0]at I;simp only[Option.map_some,Option.getD_some]at I;obtain⟨d,I⟩:=Option.isSome_iff_exists.1 I;rw[Ur h0]at h;have K:∃v,YieldsIf P ops D o v a∧Xk P ops D R (pick ops u) (a.put o.dst v):=by
   simp only[Xk]at h;by_cases J:Region.wanted o (yielded ops a.tmps)=true;·simp only[J,if_true]at h;obtain⟨v,h1,h2⟩:=h;exact⟨v,.inl ⟨J,h1⟩,h2⟩
   ·simp only[J]at h;exact⟨undef,.inr ⟨by simpa using J,rfl⟩,h⟩
  obtain⟨v,K,hK⟩:=K;have e:(k::u).length+n=(u.length+n)+1:=by simp;omega
  rw[e];refine Qko (D:=D) (F:=ops.size) h0 (Region.noSelect_spec z) (fun c a' w' Z=>by rw[I]at Z;exact hQ c a' d _ w' Z) (hn.imp id fun h=>⟨fun j oj hj hT=>h.1 k (by simp) j hT,h.2⟩) _ q a w hcl (Region.free_spec h0 hf) E K V
   (Qa6 z hQ V u _ _ (hn.imp id fun h=>⟨fun j hj=>h.1 j (by simp[hj]),h.2⟩) (hcl.set E) U hR hK)
def Qy1(ops:Array Oper)(ls ps c:List Nat):Bool:=
 Region.noSelect ops&&decide (ls.length+(ps.length+c.length)=ops.size)&&(c.all fun t=>ls.all fun h=>Jy ops ops.size t h)&&Qc9 ops (Qc9 ops (Qeq ops c) ps) ls (Array.replicate ops.size false)
theorem Yf{id:Nat}{a:Act}{w:World}{l:List Oper}(ls ps z:List Nat)(G:World→World)(hm:P.follows .mixedOrders=true)(hB:Qy1 l.toArray ls ps z=true)
  (hQ:∀c(a:Act)(d:Tmp)v w,Q (.panic c) (a.put (some d) v) w→Q (.panic c) a w)(hG:∃x,w.drew=G x)
  (h:Xk P l.toArray (fun w'=>∃x,w'=G x) (fun B=>Xk P l.toArray (fun _=>True) (fun B=>∀w',(∃x,w'=G x)→wpList P l.toArray Q (pick l.toArray z) B w') (pick l.toArray ps) B) (pick l.toArray ls) a):
  (Code.region id l.toArray true).wp P Q a w:=by
 simp only[Qy1,Bool.and_eq_true,decide_eq_true_eq]at hB;obtain⟨⟨⟨u,J⟩,aa⟩,R⟩:=hB;refine wp_region_any hm ?_;have Z:Ji l.toArray (Array.replicate l.toArray.size false):=fun j oj _ hl=>by rw[getD_replicate_false]at hl;cases hl
 have hn:∀k∈ls,∀j,decide (j∈z)=true→Jy l.toArray l.toArray.size j k=true:=fun k hk j K=>List.all_eq_true.1 (List.all_eq_true.1 aa j (by simpa using K)) k hk;have key:=Qa6 (P:=P) (Q:=Q) (C:=fun w'=>∃x,w'=G x) (D:=fun w'=>∃x,w'=G x) (late:=fun j=>decide (j∈z)) (n:=ps.length+z.length) u hQ hG ls _ a (.inr ⟨hn,rfl⟩) Z R
  (fun q B I ab h'=>Qa6 (D:=fun _=>True) (n:=z.length) u hQ trivial ps q B (.inl fun _=>trivial) I ab (fun q U _ E V=>Qjg z q U _ (fun j K=>by simpa using K) E (V _ hG)) h') h
 rw[J]at key;exact Qgb _ _ _ _ key
end
section
attribute [local go_sem] Qq
theorem Ut{w:World}{b:Nat}{h y z:Nd}{c cy cz:Bool}{yl yr zl R:Tr}(hs:Yj w b (.node h c (.node y cy yl yr) (.node z cz zl R))):
  Cl 258 #[ptr h.a] w fun e w'=>e=.returned (.tuple #[])∧Yj w' b (.node h (!c) (.node y (!cy) yl yr) (.node z (!cz) zl R))∧Qc (fun k=>k=h.a∨k=y.a∨k=z.a) w w':=by
 have hN:=hs.nd;have q:=hs.top;obtain⟨⟨pp,nn,hT⟩,Z,hH,⟨hY,ab,ac⟩,hZ,J,V⟩:=hs;simp only[Tr.addrs,List.nodup_cons,List.mem_append,List.mem_cons,not_or,List.nodup_append]at Z;have B:h.a≠y.a:=by grind
 have u:h.a≠z.a:=by grind
 have E:y.a≠z.a:=by grind
 have nb:¬(b=h.a∨b=y.a∨b=z.a):=by grind
 have s1:∀a∈yl.addrs,¬(a=h.a∨a=y.a∨a=z.a):=by grind
 have s2:∀a∈yr.addrs,¬(a=h.a∨a=y.a∨a=z.a):=by grind
 have s3:∀a∈zl.addrs,¬(a=h.a∨a=y.a∨a=z.a):=by grind
 have s4:∀a∈R.addrs,¬(a=h.a∨a=y.a∨a=z.a):=by grind
 have m1:=Ne.symm B;have m2:=Ne.symm u;have m3:=Ne.symm E;clear Z;have U:∀W w',Qc Qb w W→w'=((W.setCell ⟨h.a,5,none⟩ (.bool (!c))).setCell ⟨y.a,5,none⟩ (.bool (!cy))).setCell ⟨z.a,5,none⟩ (.bool (!cz))→Yj w' b (.node h (!c) (.node y (!cy) yl yr) (.node z (!cz) zl R))∧Qc (fun k=>k=h.a∨k=y.a∨k=z.a) w w':=by
  rintro W w' hc rfl;have I:Qc (fun k=>k=h.a∨k=y.a∨k=z.a) w (((W.setCell ⟨h.a,5,none⟩ (.bool (!c))).setCell ⟨y.a,5,none⟩ (.bool (!cy))).setCell ⟨z.a,5,none⟩ (.bool (!cz))):=(((hc.sub (fun k h=>h.elim)).setCell _ (.inl (.inl rfl))).setCell _ (.inl (.inr (.inl rfl)))).setCell _ (.inl (.inr (.inr rfl)));refine⟨⟨q.keep I nb,hN,?_,⟨?_,Jk.keep I yl ab s1,Jk.keep I yr ac s2⟩,?_,Jk.keep I zl J s3,Jk.keep I R V s4⟩,I⟩;·exact(((hc.blk hH (fun h=>h)).set' 5 _ rfl).other _ m1).other _ m2
  ·exact(((hc.blk hY (fun h=>h)).other _ B).set' 5 _ rfl).other _ m3
  ·exact(((hc.blk hZ (fun h=>h)).other _ u).other _ E).set' 5 _ rfl
 have HF:=O U;have B1:=O hH;have B2:=O hY;have B3:=O hZ;have E1:=fun x=>Q7 (Qk (S:=Qb) hH (fun h=>h) x);have E2:=fun x=>Q7 (Qk (S:=Qb) hY (fun h=>h) x);have E3:=fun x=>Q7 (Qk (S:=Qb) hZ (fun h=>h) x);dsimp only[Tr.ptrV]at E1;unfold ptr;have M:=O (And.intro B (And.intro u E));clear hH hY hZ hT ab ac J V q hN s1 s2 s3 s4 nb U B u E m1 m2 m3;go_enter func258,ntmps258;go_wp2;refine Yf [0,1,2,3,4,5,6,7,8,9,10,11,12,13,14,15,16,17,18,19,20,22,23,24,25,26,27,28,30,31] [21,29] [32,33,34,35,36,37,38] (Qw (Qb) (w)) (by kernel_rfl) (by kernel_rfl) ?_ (Qd (by(repeat' (first|(with_reducible first|exact Zg _ _|assumption|refine Zh ?_ _|refine Zi ?_ _|refine Zj ?_ |refine Zk ?_ _ ?_ |(apply Or.inl;rfl))|(apply Or.inl;simp;done)|(apply Or.inr;simp;first|done|omega))))) ?_;·exact fun _ _ _ _ _ h=>h
 simp only[pick,Zf,Ze,Zd];iterate 30 (refine Ql (fun K hK=>?_);go_simp;refine hK _ ?_;clear hK K)
 refine Qf ?_;iterate 2 (refine Ql (fun K hK=>?_);go_simp;refine hK _ ?_;clear hK K)
 refine Qf ?_;intro _ ae;obtain⟨xo,aa⟩:=ae;subst aa;have d:=O (Qu Qb w xo);generalize Qw Qb w xo=W at d⊢;clear E1 E2 E3;obtain⟨a0,a1,a2,a3,a4,a5,a6,a7⟩:=Q7 (d.out.blk B1.out (fun h=>h));obtain⟨b0,b1,b2,b3,b4,b5,b6,b7⟩:=Q7 (d.out.blk B2.out (fun h=>h));obtain⟨d0,d1,d2,d3,d4,d5,d6,d7⟩:=Q7 (d.out.blk B3.out (fun h=>h));have f1:=(d.out.blk B1.out (fun h=>h)).frozen;have f2:=(d.out.blk B2.out (fun h=>h)).frozen;have f3:=(d.out.blk B3.out (fun h=>h)).frozen;obtain⟨B,u,E⟩:=M.out;have m1:=Ne.symm B;have m2:=Ne.symm u;have m3:=Ne.symm E;go_wp2;exact bodyPost_end (results_none rfl _ _ _) rfl ⟨rfl,HF.out _ _ d.out rfl⟩
theorem Yj.chg{w w':World}{b:Nat}{t d:Tr}{S:Fp}(hc:Qc S w w')(c:∀k,S k→k∈t.addrs):Qc (fun k=>k∈t.addrs) w w':=hc.sub c
theorem Yj.left{w:World}{b:Nat}{x:Nd}{c:Bool}{l r:Tr}(h:Yj w b (.node x c l r)):Yj w b l:=⟨h.top,by
 have:=h.nd;simp only[Tr.addrs,List.nodup_cons,List.mem_append,List.mem_cons,not_or,List.nodup_append]at this⊢;grind,h.at'.2.1⟩
theorem Yj.right{w:World}{b:Nat}{x:Nd}{c:Bool}{l r:Tr}(h:Yj w b (.node x c l r)):Yj w b r:=⟨h.top,by
 have:=h.nd;simp only[Tr.addrs,List.nodup_cons,List.mem_append,List.mem_cons,not_or,List.nodup_append]at this⊢;grind,h.at'.2.2⟩
theorem Qjh{w:World}{b:Nat}{h:Nd}{c:Bool}{l r:Tr}(hs:Yj w b (.node h c l r))(hl:l.red=true):
  Cl 247 #[ptr b,ptr h.a] w fun e w'=>e=.returned (Qa1 (.node h c l r)).ptrV∧Yj w' b (Qa1 (.node h c l r))∧Qc (fun k=>k∈(Tr.node h c l r).addrs) w w':=by
 obtain⟨x,z,u,rfl⟩:=Xa hl;refine(Qa4 hs).mono ?_;rintro e w'⟨rfl,h1,q⟩;exact⟨rfl,h1,q.sub fun k d=>by rcases d with rfl|rfl<;>simp[Tr.addrs]⟩
theorem Qv0{w:World}{b:Nat}{h:Nd}{c:Bool}{l r:Tr}(hs:Yj w b (.node h c l r))(hl:r.red=true):
  Cl 259 #[ptr b,ptr h.a] w fun e w'=>e=.returned (Qbx (.node h c l r)).ptrV∧Yj w' b (Qbx (.node h c l r))∧Qc (fun k=>k∈(Tr.node h c l r).addrs) w w':=by
 obtain⟨x,z,u,rfl⟩:=Xa hl;refine(Qjf hs).mono ?_;rintro e w'⟨rfl,h1,q⟩;exact⟨rfl,h1,q.sub fun k d=>by rcases d with rfl|rfl<;>simp[Tr.addrs]⟩
theorem Qv1{w:World}{b:Nat}{h:Nd}{c:Bool}{l r:Tr}(hs:Yj w b (.node h c l r))(hl:l.red=true)(hr:r.red=true):
  Cl 258 #[ptr h.a] w fun e w'=>e=.returned (.tuple #[])∧Yj w' b (Qc4 (.node h c l r))∧Qc (fun k=>k∈(Tr.node h c l r).addrs) w w':=by
 obtain⟨x,z,u,rfl⟩:=Xa hl;obtain⟨y,yl,yr,rfl⟩:=Xa hr;refine(Ut hs).mono ?_;rintro e w'⟨rfl,h1,q⟩;exact⟨rfl,h1,q.sub fun k d=>by rcases d with rfl|rfl|rfl<;>simp[Tr.addrs]⟩
theorem Qr8(h:Nd)(c:Bool)(l r:Tr):∃h' c' l' d,s1 (.node h c l r)=.node h' c' l' d:=by
 unfold s1;split
 ·unfold Qbx;split;·exact⟨_,_,_,_,rfl⟩
  ·exact⟨_,_,_,_,rfl⟩
 ·exact⟨_,_,_,_,rfl⟩
theorem Qr9(h:Nd)(c:Bool)(l r:Tr):∃h' c' l' d,s2 (.node h c l r)=.node h' c' l' d:=by
 unfold s2;split
 ·unfold Qa1;split;·exact⟨_,_,_,_,rfl⟩
  ·exact⟨_,_,_,_,rfl⟩
 ·exact⟨_,_,_,_,rfl⟩
theorem Qsa(h:Nd)(c:Bool)(l r:Tr):∃h' c' l' d,s3 (.node h c l r)=.node h' c' l' d:=by
 unfold s3;split
 ·unfold Qc4;split;·exact⟨_,_,_,_,rfl⟩
  ·exact⟨_,_,_,_,rfl⟩
 ·exact⟨_,_,_,_,rfl⟩
theorem Qv2(t:Tr):(s1 t).addrs=t.addrs:=by unfold s1;split;exact Qa2 t;rfl
theorem Qv3(t:Tr):(s2 t).addrs=t.addrs:=by unfold s2;split;exact Gx t;rfl
theorem Qv4(t:Tr):(s3 t).addrs=t.addrs:=by unfold s3;split;exact Qfx t;rfl
theorem Yj.left'{w:World}{b:Nat}{t:Tr}(h:Yj w b t):Jk w t.left:=by
 cases t with
 |nil=>trivial
 |node x c l r=>exact h.at'.2.1
theorem Ga{w:World}{b:Nat}{h:Nd}{c:Bool}{l r:Tr}(hs:Yj w b (.node h c l r)):
  Cl 246 #[ptr b,ptr h.a] w fun e w'=>e=.returned (On (.node h c l r)).ptrV∧Yj w' b (On (.node h c l r))∧Qc (fun k=>k∈(Tr.node h c l r).addrs) w w':=by
 have HR:=O (Yk r hs.at'.2.2);have I:=O (Yk l hs.at'.2.1);have hX:=hs.at'.1;obtain⟨a0,a1,a2,a3,a4,a5,a6,a7⟩:=Q7 hX;have H0:=O hs;unfold ptr at*;clear hs hX;go_enter func246,ntmps246;go_upto_region 1 with fail;go_cut [17] (fun aq E=>aq=.bool (r.red&&!l.red)∧E=w)
 case first=>
  cases hr:r.red<;>cases hl:l.red;all_goals rw[hr]at HR
  all_goals rw[hl]at I
  all_goals
   go_wp2_with fail;refine HR.out.mono ?_;rintro e w1⟨rfl,rfl⟩;go_wp2_with fail;try
    refine I.out.mono ?_;rintro e w1⟨rfl,rfl⟩;go_wp2_with fail
   go_meet;exact⟨by rw[hr,hl];rfl,rfl⟩
 case rest=>
  obtain⟨rfl,K⟩:=hcut;rw[K];clear K wc a0 a1 a2 a3 a4 a5 a6 a7 I HR;go_upto_if 17 with fail;go_cut [1] (fun v1 E=>v1=(s1 (.node h c l r)).ptrV∧Yj E b (s1 (.node h c l r))∧Qc (fun k=>k∈(Tr.node h c l r).addrs) w E)
  case first=>
   have V:(Tr.node h c l r).right.red=r.red:=rfl;have e1:(Tr.node h c l r).left.red=l.red:=rfl;cases u:(r.red&&!l.red)
   ·have B:s1 (.node h c l r)=.node h c l r:=by unfold s1;rw[V,e1,u];rfl
    go_wp2_with fail;go_meet;rw[B];exact⟨rfl,H0.out,Qc.refl _ _⟩
   ·have B:s1 (.node h c l r)=Qbx (.node h c l r):=by unfold s1;rw[V,e1,u];rfl
    have HC:=O (Qv0 H0.out (by simp at u;exact u.1));unfold ptr at HC;have ES:=O B;clear B V e1;go_wp2_with fail;refine HC.out.mono ?_;rintro e w1⟨rfl,q,U⟩;have I1:=O (And.intro q U);clear q U;go_wp2_with fail;go_meet;rw[ES.out];exact⟨rfl,I1.out⟩
  case rest=>
   obtain⟨rfl,q,U⟩:=hcut;obtain⟨h1,k1,l1,R,e1⟩:=Qr8 h c l r;have A1:(Tr.node h1 k1 l1 R).addrs=(Tr.node h c l r).addrs:=by rw[←e1];exact Qv2 _
   have B1:On (.node h c l r)=fin (s3 (s2 (.node h1 k1 l1 R))):=by unfold On;rw[e1]
   rw[e1]at q⊢;have ab:=O A1;have af:=O B1;obtain⟨w1,an⟩:=Zx wc;rw[←an]at q U⊢;have ag:=O U;clear an A1 B1 e1 H0 U;have H1:=O q;have I:=O (Yk l1 q.at'.2.1);have aa:=O (Yk l1.left q.left.left');obtain⟨a0,a1,a2,a3,a4,a5,a6,a7⟩:=Q7 q.at'.1;have LB:l1.red=true→∃y yl yr,l1=.node y true yl yr∧Qh w1 y.a (ndC y true yl.ptrV yr.ptrV) 258:=fun hl=>by obtain⟨y,yl,yr,rfl⟩:=Xa hl;exact⟨y,yl,yr,rfl,q.left.at'.1⟩
   have LB:=O LB;clear q;dsimp only[Tr.ptrV];go_upto_region 3 with fail;go_cut [35] (fun vq E=>vq=.bool (l1.red&&l1.left.red)∧E=w1)
   case first=>
    cases hl:l1.red;·rw[hl]at I;go_wp2_with fail;refine I.out.mono ?_;rintro e w2⟨rfl,rfl⟩;go_wp2_with fail;go_meet;exact⟨by rw[hl];rfl,rfl⟩
    ·obtain⟨y,yl,yr,rfl,hy⟩:=LB.out hl;obtain⟨b0,b1,b2,b3,b4,b5,b6,b7⟩:=Q7 hy;rw[hl]at I;have aj:(Tr.node y true yl yr).ptrV=.pointer (some ⟨y.a,0,none⟩):=rfl;rw[aj]at a6 I;dsimp only[Tr.left]at aa;clear hy LB aj;go_wp2_with fail;refine I.out.mono ?_;rintro e w2⟨rfl,rfl⟩;go_wp2_with fail;refine aa.out.mono ?_;rintro e w2⟨rfl,rfl⟩;go_wp2_with fail;go_meet;exact⟨by rw[hl];rfl,rfl⟩
   case rest=>
    obtain⟨rfl,K⟩:=hcut;subst K;clear a0 a1 a2 a3 a4 a5 a6 a7 I aa LB;go_upto_if 35 with fail;go_cut [1] (fun v1 E=>v1=(s2 (.node h1 k1 l1 R)).ptrV∧Yj E b (s2 (.node h1 k1 l1 R))∧Qc (fun k=>k∈(Tr.node h1 k1 l1 R).addrs) wc E)
    case first=>
     have V:(Tr.node h1 k1 l1 R).left.red=l1.red:=rfl;have e1:(Tr.node h1 k1 l1 R).left.left.red=l1.left.red:=rfl;cases u:(l1.red&&l1.left.red)
     ·have B:s2 (.node h1 k1 l1 R)=.node h1 k1 l1 R:=by unfold s2;rw[V,e1,u];rfl
      go_wp2_with fail;go_meet;rw[B];exact⟨rfl,H1.out,Qc.refl _ _⟩
     ·have B:s2 (.node h1 k1 l1 R)=Qa1 (.node h1 k1 l1 R):=by unfold s2;rw[V,e1,u];rfl
      have HC:=O (Qjh H1.out (by simp at u;exact u.1));unfold ptr at HC;have ES:=O B;clear B V e1;go_wp2_with fail;refine HC.out.mono ?_;rintro e w2⟨rfl,q,U⟩;have I1:=O (And.intro q U);clear q U;go_wp2_with fail;go_meet;rw[ES.out];exact⟨rfl,I1.out⟩
    case rest=>
     obtain⟨rfl,i2,c2⟩:=hcut;rw[ab.out]at c2;obtain⟨J,k2,l2,d,e2⟩:=Qr9 h1 k1 l1 R;have A2:(Tr.node J k2 l2 d).addrs=(Tr.node h c l r).addrs:=by rw[←e2,Qv3];exact ab.out
     have B2:On (.node h c l r)=fin (s3 (.node J k2 l2 d)):=by rw[af.out,e2]
     rw[e2]at i2⊢;have ac:=O A2;have ak:=O B2;obtain⟨w2,am⟩:=Zx wc;rw[←am]at i2 c2⊢;have ai:=O (ag.out.trans' c2);clear am A2 B2 e2 ab af H1 ag c2;have H2:=O i2;have I:=O (Yk l2 i2.at'.2.1);have HR:=O (Yk d i2.at'.2.2);obtain⟨a0,a1,a2,a3,a4,a5,a6,a7⟩:=Q7 i2.at'.1;clear i2;dsimp only[Tr.ptrV];go_upto_region 5 with fail;go_cut [50] (fun vq E=>vq=.bool (l2.red&&d.red)∧E=w2)
     case first=>
      cases hl:l2.red<;>cases hr:d.red;all_goals rw[hr]at HR
      all_goals rw[hl]at I
      all_goals
       go_wp2_with fail;refine I.out.mono ?_;rintro e w3⟨rfl,rfl⟩;go_wp2_with fail;try
        refine HR.out.mono ?_;rintro e w3⟨rfl,rfl⟩;go_wp2_with fail
       go_meet;exact⟨by rw[hr,hl];rfl,rfl⟩
     case rest=>
      obtain⟨rfl,K⟩:=hcut;subst K;clear a0 a1 a2 a3 a4 a5 a6 a7 I HR;go_upto_if 50 with fail;go_cut [1] (fun v1 E=>v1=(s3 (.node J k2 l2 d)).ptrV∧Yj E b (s3 (.node J k2 l2 d))∧Qc (fun k=>k∈(Tr.node J k2 l2 d).addrs) wc E)
      case first=>
       have V:(Tr.node J k2 l2 d).left.red=l2.red:=rfl;have e1:(Tr.node J k2 l2 d).right.red=d.red:=rfl;cases u:(l2.red&&d.red)
       ·have B:s3 (.node J k2 l2 d)=.node J k2 l2 d:=by unfold s3;rw[V,e1,u];rfl
        go_wp2_with fail;go_meet;rw[B];exact⟨rfl,H2.out,Qc.refl _ _⟩
       ·have B:s3 (.node J k2 l2 d)=Qc4 (.node J k2 l2 d):=by unfold s3;rw[V,e1,u];rfl
        simp only[Bool.and_eq_true]at u;have HC:=O (Qv1 H2.out u.1 u.2);have hp:(Qc4 (.node J k2 l2 d)).ptrV=.pointer (some ⟨J.a,0,none⟩):=by obtain⟨x,xl,xr,rfl⟩:=Xa u.1;obtain⟨y,yl,yr,rfl⟩:=Xa u.2;rfl
        have HP:=O hp;unfold ptr at HC;have ES:=O B;clear B V e1 hp;go_wp2_with fail;refine HC.out.mono ?_;rintro e w3⟨rfl,q,U⟩;have I1:=O (And.intro q U);clear q U;go_wp2_with fail;go_meet;rw[ES.out,HP.out];exact⟨rfl,I1.out⟩
      case rest=>
       obtain⟨rfl,i3,c3⟩:=hcut;rw[ac.out]at c3;obtain⟨z,k3,l3,r3,e3⟩:=Qsa J k2 l2 d;have A3:(Tr.node z k3 l3 r3).addrs=(Tr.node h c l r).addrs:=by rw[←e3,Qv4];exact ac.out
       have B3:On (.node h c l r)=mk z k3 l3 r3:=by rw[ak.out,e3];rfl
       rw[e3]at i3⊢;have au:=O B3;have ao:=O A3;obtain⟨w3,al⟩:=Zx wc;rw[←al]at i3 c3⊢;have ar:=O (ai.out.trans' c3);clear al A3 B3 e3 ac ak H2 ai c3;have H3:=O i3;obtain⟨pp,nn,hT⟩:=i3.top;have HT:=O (D9 hT i3.at'.1 l3 r3 rfl rfl i3.at'.2.1 i3.at'.2.2);clear i3 hT;have ah:∀w4 w5,Qc Qb w3 w4→w5=(w4.setCell ⟨z.a,3,none⟩ (.int .u64 ((E5 z l3 r3).1:Int))).setCell ⟨z.a,4,none⟩ (.int .i64 (E5 z l3 r3).2)→Yj w5 b (mk z k3 l3 r3)∧Qc (fun k=>k∈(Tr.node h c l r).addrs) w w5:=by rintro w4 w5 hc rfl;have Z:Qc (fun k=>k=z.a) w3 ((w4.setCell ⟨z.a,3,none⟩ (.int .u64 ((E5 z l3 r3).1:Int))).setCell ⟨z.a,4,none⟩ (.int .i64 (E5 z l3 r3).2)):=((hc.sub (F:=fun k=>k=z.a) (fun k h=>h.elim)).setCell (a:=⟨z.a,3,none⟩) _ (.inl rfl)).setCell (a:=⟨z.a,4,none⟩) _ (.inl rfl);have hS:=H3.out;have ap:=hS.nd;simp only[Tr.addrs,List.nodup_cons,List.mem_append,List.mem_cons,not_or,List.nodup_append]at ap;refine⟨⟨hS.top.keep Z (by grind),hS.nd,((hc.blk hS.at'.1 (fun h=>h)).set' 3 _ rfl).set' 4 _ rfl,Jk.keep Z l3 hS.at'.2.1 (by grind),Jk.keep Z r3 hS.at'.2.2 (by grind)⟩,ar.out.trans' (Z.sub ?_)⟩;rintro k rfl;rw[←ao.out];simp[Tr.addrs]
       have HF:=O ah;have HB:=O (H3.out.at'.1);unfold ptr Xz at*;clear ah;dsimp only[Tr.ptrV];go_wp2_with fail;refine HT.out.mono ?_;rintro e w4⟨rfl,c4⟩;have C4:=O c4;have ae:=c4.blk HB.out (fun h=>h);obtain⟨a0,a1,a2,a3,a4,a5,a6,a7⟩:=Q7 ae;have f4:=ae.frozen;clear ae c4;go_wp2;go_ret;rw[au.out];exact⟨rfl,HF.out _ _ C4.out rfl⟩
theorem Yj.setL{w w1 w2:World}{b:Nat}{x:Nd}{c:Bool}{l r l':Tr}{S:Fp}(hs:Yj w b (.node x c l r))(hl:Yj w1 b l')(hc:Qc S w w1)(u:∀k,S k→k∈l.addrs)(ha:∀k∈l'.addrs,k∈l.addrs∨w.heap.size≤k)(J:w2=w1.setCell ⟨x.a,6,none⟩ l'.ptrV):Yj w2 b (.node x c l' r)∧Qc (fun k=>k∈(Tr.node x c l r).addrs) w w2:=by
 subst J;have z:=hs.nd;have Jl:=Jk.lt _ hs.at';simp only[Tr.addrs,List.nodup_cons,List.mem_append,List.mem_cons,not_or,List.nodup_append]at z;simp only[Tr.addrs,List.mem_append,List.mem_cons]at Jl;have I:b<w.heap.size:=by obtain⟨p,n,h⟩:=hs.top;exact h.lt
 have d:=hl.nd;simp only[List.nodup_cons]at d;have K:x.a∉l'.addrs:=fun h=>by
  rcases ha _ h with h|h;·exact absurd h (by grind)
  ·have:=Jl x.a (by simp);omega
 have h1:Qc (fun k=>k=x.a) w1 (w1.setCell ⟨x.a,6,none⟩ l'.ptrV):=(Qc.refl _ w1).setCell (a:=⟨x.a,6,none⟩) _ (.inl rfl);have hr:Jk w1 r:=Jk.keep hc r hs.at'.2.2 fun a R h=>by have:=u a h;grind
 refine⟨⟨hl.top.keep h1 (by grind),?_,(hc.blk hs.at'.1 (fun h=>by have:=u _ h;grind)).set' 6 _ rfl,Jk.keep h1 l' hl.at' (by grind),Jk.keep h1 r hr (by grind)⟩,(hc.sub fun k B=>?_).trans' (h1.sub fun k B=>?_)⟩
 ·simp only[Tr.addrs,List.nodup_cons,List.mem_append,List.mem_cons,not_or,List.nodup_append];refine⟨⟨d.1,by grind,by grind⟩,d.2,⟨by grind,by grind⟩,fun a q c E e=>?_⟩;subst e;rcases E with rfl|h;·exact K q
  ·rcases ha _ q with h'|h';·grind
   ·have:=Jl a (by simp[h]);omega
 ·simp[Tr.addrs,u k B]
 ·subst B;simp[Tr.addrs]
theorem Yj.setR{w w1 w2:World}{b:Nat}{x:Nd}{c:Bool}{l r q:Tr}{S:Fp}(hs:Yj w b (.node x c l r))(hl:Yj w1 b q)(hc:Qc S w w1)(u:∀k,S k→k∈r.addrs)(ha:∀k∈q.addrs,k∈r.addrs∨w.heap.size≤k)(K:w2=w1.setCell ⟨x.a,7,none⟩ q.ptrV):Yj w2 b (.node x c l q)∧Qc (fun k=>k∈(Tr.node x c l r).addrs) w w2:=by
 subst K;have B:=hs.nd;have Jl:=Jk.lt _ hs.at';simp only[Tr.addrs,List.nodup_cons,List.mem_append,List.mem_cons,not_or,List.nodup_append]at B;simp only[Tr.addrs,List.mem_append,List.mem_cons]at Jl;have J:b<w.heap.size:=by obtain⟨p,n,h⟩:=hs.top;exact h.lt
 have d:=hl.nd;simp only[List.nodup_cons]at d;have R:x.a∉q.addrs:=fun h=>by
  rcases ha _ h with h|h;·exact absurd h (by grind)
  ·have:=Jl x.a (by simp);omega
 have h1:Qc (fun k=>k=x.a) w1 (w1.setCell ⟨x.a,7,none⟩ q.ptrV):=(Qc.refl _ w1).setCell (a:=⟨x.a,7,none⟩) _ (.inl rfl);have hr:Jk w1 l:=Jk.keep hc l hs.at'.2.1 fun a U h=>by have:=u a h;grind
 refine⟨⟨hl.top.keep h1 (by grind),?_,(hc.blk hs.at'.1 (fun h=>by have:=u _ h;grind)).set' 7 _ rfl,Jk.keep h1 l hr (by grind),Jk.keep h1 q hl.at' (by grind)⟩,(hc.sub fun k E=>?_).trans' (h1.sub fun k E=>?_)⟩
 ·simp only[Tr.addrs,List.nodup_cons,List.mem_append,List.mem_cons,not_or,List.nodup_append];refine⟨⟨by grind,by grind,d.1⟩,by grind,⟨R,d.2⟩,fun a z c I e=>?_⟩;subst e;rcases I with rfl|h;·grind
  ·rcases ha _ h with h'|h';·grind
   ·have:=Jl a (by simp[z]);omega
 ·simp[Tr.addrs,u k E]
 ·subst E;simp[Tr.addrs]
theorem Ly(n:Nat)(i:Int)(v a:Nat)(t:Tr){k:Nat}(h:k∈(t.put n i v a).addrs):k=a∨k∈t.addrs:=by have:=(Qc6 n i v a t).mem_iff.1 h;simpa using this
theorem Tr.ptrV_any(t:Tr):∃p,t.ptrV=.pointer p:=by cases t<;>exact⟨_,rfl⟩
theorem Qv5{w:World}{b:Nat}(hs:Yj w b .nil)(n:Nat)(i:Int)(v:Nat):
  Cl 237 #[ptr b,.pointer none,Xi n i,.int .u64 (v:Int)] w fun e w'=>∃a,w.heap.size≤a∧e=.returned (Tr.nil.put n i v a).ptrV∧Yj w' b (Tr.nil.put n i v a)∧Qc Qb w w':=by
 obtain⟨pp,nn,R⟩:=hs.top;have B:=R.lt;have HO:=O (fun w=>E6 n i v w);obtain⟨k,E⟩:=Zx (w.heap.size);have I:=O (Qh.new w #[.int .u64 (n:Int),.int .i64 i] 204);have T0:=O (R.alloc (.cells #[.int .u64 (n:Int),.int .i64 i] 204));have V:=O ((Qc.refl Qb w).alloc (.cells #[.int .u64 (n:Int),.int .i64 i] 204));have c:∀w1 w2,Qc Qb w w1→w2=w1.alloc (.cells (ndC ⟨w1.heap.size,n,i,v,v,i⟩ true (.pointer none) (.pointer none)) 258)→Yj w2 b (Tr.nil.put n i v w1.heap.size)∧Qc Qb w w2∧w.heap.size≤w1.heap.size:=by rintro w1 w2 hc rfl;have h1:=hc.size;refine⟨⟨hs.top.keep (hc.alloc _) (fun h=>h),?_,Qh.new _ _ _,trivial,trivial⟩,hc.alloc _,h1⟩;simp[Tr.put,Tr.addrs];omega
 have HF:=O c;simp only[←E]at I;unfold ptr Xi at*;clear hs R B c;go_enter func237,ntmps237;go_wp2_with fail;rw[←E];obtain⟨W,hW⟩:=Zx (w.alloc (.cells #[.int .u64 (n:Int),.int .i64 i] 204));rw[←hW]at I T0 V⊢;clear hW E;have Z:=fun x=>Xt (Qk (S:=Qb) T0.out (fun h=>h) x);have E2:=fun x=>Qz (Qk (S:=Qb) I.out (fun h=>h) x);unfold O0 at Z;try go_wp2
 refine Qr [] [0,1,2,3,4,5,6,7] [8,9,10,11] [] (Qw (Qb) (W)) (by kernel_rfl) (by kernel_rfl) ?_ (Qd (by(repeat' (first|(with_reducible first|exact Zg _ _|assumption|refine Zh ?_ _|refine Zi ?_ _|refine Zj ?_ |refine Zk ?_ _ ?_ |(apply Or.inl;rfl))|(apply Or.inl;simp;done)|(apply Or.inr;simp;first|done|omega))))) ?_;·exact fun _ _ _ _ _ h=>h
 simp only[pick,Zf,Ze,Zd];refine Qf ?_;iterate 8 (refine Ql (fun K hK=>?_);go_simp;refine hK _ ?_;clear hK K)
 refine Qf ?_;intro _ J;obtain⟨U,d⟩:=J;subst d;simp only[Zn];have c3:=O (Qu Qb W U);generalize Qw Qb W U=w3 at c3⊢;clear Z E2;go_wp2_with fail;refine(HO.out _).mono ?_;rintro e w4⟨rfl,d4⟩;have q:=O (c3.out.trans' d4);have u:=O (HF.out _ _ (V.out.trans' q.out) rfl);have z:=O (q.out.alloc (.cells (ndC ⟨w4.heap.size,n,i,v,v,i⟩ true (.pointer none) (.pointer none)) 258));clear d4;dsimp only[ndC]at z u;go_wp2;refine⟨Qd q.out,?_⟩;go_wp2;refine⟨Qd q.out,?_⟩;go_wp2;refine⟨Qd z.out,?_⟩;go_wp2;refine⟨Qd z.out,?_⟩;go_wp2;go_ret;exact⟨_,u.out.2.2,rfl,u.out.1,u.out.2.1⟩
theorem Qza{w:World}{b:Nat}{h:Nd}{c:Bool}{l r:Tr}(hs:Yj w b (.node h c l r))(n:Nat)(i:Int)(v:Nat)(Jl:lt n i h=true)
  (ih:∀w'(ai:Yj w' b l),Cl 237 #[ptr b,l.ptrV,Xi n i,.int .u64 (v:Int)] w' fun e w2=>∃a,w'.heap.size≤a∧e=.returned (l.put n i v a).ptrV∧Yj w2 b (l.put n i v a)∧Qc (fun k=>k∈l.addrs) w' w2):
  Cl 237 #[ptr b,.pointer (some ⟨h.a,0,none⟩),Xi n i,.int .u64 (v:Int)] w fun e w'=>∃a,w.heap.size≤a∧e=.returned (Tr.put n i v a (.node h c l r)).ptrV∧Yj w' b (Tr.put n i v a (.node h c l r))∧Qc (fun k=>k∈(Tr.node h c l r).addrs) w w':=by
 obtain⟨k,d⟩:=Zx (w.heap.size);have hp:∀a,Tr.put n i v a (.node h c l r)=On (.node h c (l.put n i v a) r):=fun a=>by simp[Tr.put,Jl]
 have HP:=O hp;have K0:=O (Qh.new w #[.int .u64 (n:Int),.int .i64 i] 204);have C0:=O ((Qc.refl Qb w).alloc (.cells #[.int .u64 (n:Int),.int .i64 i] 204));have HS:=O (fun w'(hc:Qc Qb w w')=>hs.keep hc (fun _ _ h=>h));have u:=O (fun w=>Oo n i h w);rw[Jl]at u;have ah:=O d;have IH:=O ih;have Z:=Jk.lt _ hs.at';have ag:=O (show∀a∈(Tr.node h c l r).addrs,a≠k from fun a ha e=>by have:=Z a ha;omega);simp only[←d]at K0;have ac:=hs.nd;simp only[Tr.addrs,List.nodup_cons,List.mem_append,List.mem_cons,not_or,List.nodup_append]at ac;have af:=O (show h.a∉l.addrs by grind);obtain⟨pl,ae⟩:=l.ptrV_any;have V:=O ae;unfold ptr Xi at*;clear hs hp ih Jl Z ac;go_enter func237,ntmps237;go_wp2_with fail;rw[←d];obtain⟨W,hW⟩:=Zx (w.alloc (.cells #[.int .u64 (n:Int),.int .i64 i] 204));rw[←hW]at K0 C0⊢;clear hW d;have S0:=HS.out _ C0.out;have E1:=fun x=>Qz (Qk (S:=Qb) K0.out (fun h=>h) x);have E2:=fun x=>Q7 (Qk (S:=Qb) S0.at'.1 (fun h=>h) x);clear S0 ae;refine Qr [] [0,1,2,3,4] [5,6] [] (Qw (Qb) (W)) (by kernel_rfl) (by kernel_rfl) ?_ (Qd (by(repeat' (first|(with_reducible first|exact Zg _ _|assumption|refine Zh ?_ _|refine Zi ?_ _|refine Zj ?_ |refine Zk ?_ _ ?_ |(apply Or.inl;rfl))|(apply Or.inl;simp;done)|(apply Or.inr;simp;first|done|omega))))) ?_;·exact fun _ _ _ _ _ h=>h
 simp only[pick,Zf,Ze,Zd];refine Qf ?_;iterate 5 (refine Ql (fun K B=>?_);go_simp;refine B _ ?_;clear B K)
 refine Qf ?_;intro _ J;obtain⟨U,z⟩:=J;subst z;simp only[Zn];have c3:=O (Qu Qb W U);generalize Qw Qb W U=w3 at c3⊢;clear E1 E2;go_wp2_with fail;refine(u.out _).mono ?_;rintro e w4⟨rfl,d4⟩;have c4:=O (c3.out.trans' d4);clear d4;go_wp2;refine⟨Qd c4.out,?_⟩;go_wp2;refine⟨Qd c4.out,?_⟩;go_wp2;have K4:=O (c4.out.blk K0.out (fun h=>h));have C4:=O (C0.out.trans' c4.out);have S4:=O (HS.out _ C4.out);have E1:=fun x=>Qz (Qk (S:=Qb) K4.out (fun h=>h) x);have E2:=fun x=>Q7 (Qk (S:=Qb) S4.out.at'.1 (fun h=>h) x);rw[V.out]at E2;clear c3 c4;refine Yf [1,2,3,4,5,6,7] [0] [8,9,10,11] (Qw (Qb) (w4)) (by kernel_rfl) (by kernel_rfl) ?_ (Qd (by(repeat' (first|(with_reducible first|exact Zg _ _|assumption|refine Zh ?_ _|refine Zi ?_ _|refine Zj ?_ |refine Zk ?_ _ ?_ |(apply Or.inl;rfl))|(apply Or.inl;simp;done)|(apply Or.inr;simp;first|done|omega))))) ?_;·exact fun _ _ _ _ _ h=>h
 simp only[pick,Zf,Ze,Zd];iterate 7 (refine Ql (fun K B=>?_);go_simp;refine B _ ?_;clear B K)
 refine Qf ?_;iterate 1 (refine Ql (fun K B=>?_);go_simp;refine B _ ?_;clear B K)
 refine Qf ?_;intro _ J;obtain⟨U,z⟩:=J;subst z;have c5:=O (Qu Qb w4 U);generalize Qw Qb w4 U=w5 at c5⊢;clear E1 E2;have C5:=O (C4.out.trans' c5.out);have S5:=O (HS.out _ C5.out);have E:=IH.out _ S5.out.left;rw[V.out]at E;clear K4 C4 S4 K0 C0 c5;go_wp2_with fail;refine E.mono ?_;rintro e w6⟨a,ha,rfl,i6,c6⟩;have B6:=c6.blk S5.out.at'.1 af.out;obtain⟨a0,a1,a2,a3,a4,a5,a6,a7⟩:=Q7 B6;have f6:=B6.frozen;have FX:=O (fun w7(e:w7=w6.setCell ⟨h.a,6,none⟩ (l.put n i v a).ptrV)=>S5.out.setL i6 c6 (fun _ h=>h) (fun k d=>(Ly n i v a l d).elim (fun e=>.inr (e▸ha)) .inl) e);have HA:=O (Nat.le_trans C5.out.size ha);obtain⟨q,hq⟩:=(l.put n i v a).ptrV_any;rw[hq]at FX⊢;clear i6 c6 B6 ha hq E;go_wp2_with fail;obtain⟨w7,I⟩:=Zx (w6.setCell ⟨h.a,6,none⟩ (.pointer q));rw[←I];obtain⟨i7,c7⟩:=FX.out _ I;have hb:=Ga i7;unfold ptr at hb;clear I a0 a1 a2 a3 a4 a5 a6 a7 f6;refine hb.mono ?_;rintro e w8⟨rfl,i8,c8⟩;have ab:(Tr.node h c (l.put n i v a) r).addrs=(Tr.node h c (l.put n i v a) r).addrs:=rfl;have aa:Qc (fun k=>k∈(Tr.node h c l r).addrs) w w8:=by
  refine Qc.trans (C5.out.none.trans' c7) c8 fun k d=>?_;simp only[Tr.addrs,List.mem_append,List.mem_cons]at d⊢;rcases d with d|rfl|d
  ·rcases Ly n i v a l d with rfl|d;·exact .inr HA.out
   ·exact .inl (.inl d)
  ·exact .inl (.inr (.inl rfl))
  ·exact .inl (.inr (.inr d))
 have HF:=O aa;have HI:=O i8;have R:=HP.out a;rw[←R]at HI;rw[←R];clear i8 c8 aa i7 c7 hb ab R;go_wp2;go_ret;exact⟨a,HA.out,rfl,HI.out,HF.out⟩
theorem Qzb{w:World}{b:Nat}{h:Nd}{c:Bool}{l r:Tr}(hs:Yj w b (.node h c l r))(n:Nat)(i:Int)(v:Nat)(Jl:lt n i h=false)
  (ih:∀w'(ai:Yj w' b r),Cl 237 #[ptr b,r.ptrV,Xi n i,.int .u64 (v:Int)] w' fun e w2=>∃a,w'.heap.size≤a∧e=.returned (r.put n i v a).ptrV∧Yj w2 b (r.put n i v a)∧Qc (fun k=>k∈r.addrs) w' w2):
  Cl 237 #[ptr b,.pointer (some ⟨h.a,0,none⟩),Xi n i,.int .u64 (v:Int)] w fun e w'=>∃a,w.heap.size≤a∧e=.returned (Tr.put n i v a (.node h c l r)).ptrV∧Yj w' b (Tr.put n i v a (.node h c l r))∧Qc (fun k=>k∈(Tr.node h c l r).addrs) w w':=by
 obtain⟨k,d⟩:=Zx (w.heap.size);have hp:∀a,Tr.put n i v a (.node h c l r)=On (.node h c l (r.put n i v a)):=fun a=>by simp[Tr.put,Jl]
 have HP:=O hp;have K0:=O (Qh.new w #[.int .u64 (n:Int),.int .i64 i] 204);have C0:=O ((Qc.refl Qb w).alloc (.cells #[.int .u64 (n:Int),.int .i64 i] 204));have HS:=O (fun w'(hc:Qc Qb w w')=>hs.keep hc (fun _ _ h=>h));have u:=O (fun w=>Oo n i h w);rw[Jl]at u;have ah:=O d;have IH:=O ih;have Z:=Jk.lt _ hs.at';have ag:=O (show∀a∈(Tr.node h c l r).addrs,a≠k from fun a ha e=>by have:=Z a ha;omega);simp only[←d]at K0;have ac:=hs.nd;simp only[Tr.addrs,List.nodup_cons,List.mem_append,List.mem_cons,not_or,List.nodup_append]at ac;have af:=O (show h.a∉r.addrs by grind);obtain⟨pl,ae⟩:=r.ptrV_any;have V:=O ae;unfold ptr Xi at*;clear hs hp ih Jl Z ac;go_enter func237,ntmps237;go_wp2_with fail;rw[←d];obtain⟨W,hW⟩:=Zx (w.alloc (.cells #[.int .u64 (n:Int),.int .i64 i] 204));rw[←hW]at K0 C0⊢;clear hW d;have S0:=HS.out _ C0.out;have E1:=fun x=>Qz (Qk (S:=Qb) K0.out (fun h=>h) x);have E2:=fun x=>Q7 (Qk (S:=Qb) S0.at'.1 (fun h=>h) x);clear S0 ae;refine Qr [] [0,1,2,3,4] [5,6] [] (Qw (Qb) (W)) (by kernel_rfl) (by kernel_rfl) ?_ (Qd (by(repeat' (first|(with_reducible first|exact Zg _ _|assumption|refine Zh ?_ _|refine Zi ?_ _|refine Zj ?_ |refine Zk ?_ _ ?_ |(apply Or.inl;rfl))|(apply Or.inl;simp;done)|(apply Or.inr;simp;first|done|omega))))) ?_;·exact fun _ _ _ _ _ h=>h
 simp only[pick,Zf,Ze,Zd];refine Qf ?_;iterate 5 (refine Ql (fun K B=>?_);go_simp;refine B _ ?_;clear B K)
 refine Qf ?_;intro _ J;obtain⟨U,z⟩:=J;subst z;simp only[Zn];have c3:=O (Qu Qb W U);generalize Qw Qb W U=w3 at c3⊢;clear E1 E2;go_wp2_with fail;refine(u.out _).mono ?_;rintro e w4⟨rfl,d4⟩;have c4:=O (c3.out.trans' d4);clear d4;go_wp2;refine⟨Qd c4.out,?_⟩;go_wp2;refine⟨Qd c4.out,?_⟩;go_wp2;have K4:=O (c4.out.blk K0.out (fun h=>h));have C4:=O (C0.out.trans' c4.out);have S4:=O (HS.out _ C4.out);have E1:=fun x=>Qz (Qk (S:=Qb) K4.out (fun h=>h) x);have E2:=fun x=>Q7 (Qk (S:=Qb) S4.out.at'.1 (fun h=>h) x);rw[V.out]at E2;clear c3 c4;refine Yf [1,2,3,4,5,6,7] [0] [8,9,10,11] (Qw (Qb) (w4)) (by kernel_rfl) (by kernel_rfl) ?_ (Qd (by(repeat' (first|(with_reducible first|exact Zg _ _|assumption|refine Zh ?_ _|refine Zi ?_ _|refine Zj ?_ |refine Zk ?_ _ ?_ |(apply Or.inl;rfl))|(apply Or.inl;simp;done)|(apply Or.inr;simp;first|done|omega))))) ?_;·exact fun _ _ _ _ _ h=>h
 simp only[pick,Zf,Ze,Zd];iterate 7 (refine Ql (fun K B=>?_);go_simp;refine B _ ?_;clear B K)
 refine Qf ?_;iterate 1 (refine Ql (fun K B=>?_);go_simp;refine B _ ?_;clear B K)
 refine Qf ?_;intro _ J;obtain⟨U,z⟩:=J;subst z;have c5:=O (Qu Qb w4 U);generalize Qw Qb w4 U=w5 at c5⊢;clear E1 E2;have C5:=O (C4.out.trans' c5.out);have S5:=O (HS.out _ C5.out);have E:=IH.out _ S5.out.right;rw[V.out]at E;clear K4 C4 S4 K0 C0 c5;go_wp2_with fail;refine E.mono ?_;rintro e w6⟨a,ha,rfl,i6,c6⟩;have B6:=c6.blk S5.out.at'.1 af.out;obtain⟨a0,a1,a2,a3,a4,a5,a6,a7⟩:=Q7 B6;have f6:=B6.frozen;have FX:=O (fun w7(e:w7=w6.setCell ⟨h.a,7,none⟩ (r.put n i v a).ptrV)=>S5.out.setR i6 c6 (fun _ h=>h) (fun k d=>(Ly n i v a r d).elim (fun e=>.inr (e▸ha)) .inl) e);have HA:=O (Nat.le_trans C5.out.size ha);obtain⟨q,hq⟩:=(r.put n i v a).ptrV_any;rw[hq]at FX⊢;clear i6 c6 B6 ha hq E;go_wp2_with fail;obtain⟨w7,I⟩:=Zx (w6.setCell ⟨h.a,7,none⟩ (.pointer q));rw[←I];obtain⟨i7,c7⟩:=FX.out _ I;have hb:=Ga i7;unfold ptr at hb;clear I a0 a1 a2 a3 a4 a5 a6 a7 f6;refine hb.mono ?_;rintro e w8⟨rfl,i8,c8⟩;have ab:(Tr.node h c l (r.put n i v a)).addrs=(Tr.node h c l (r.put n i v a)).addrs:=rfl;have aa:Qc (fun k=>k∈(Tr.node h c l r).addrs) w w8:=by
  refine Qc.trans (C5.out.none.trans' c7) c8 fun k d=>?_;simp only[Tr.addrs,List.mem_append,List.mem_cons]at d⊢;rcases d with d|rfl|d;·exact .inl (.inl d)
  ·exact .inl (.inr (.inl rfl))
  ·rcases Ly n i v a r d with rfl|d;·exact .inr HA.out
   ·exact .inl (.inr (.inr d))
 have HF:=O aa;have HI:=O i8;have R:=HP.out a;rw[←R]at HI;rw[←R];clear i8 c8 aa i7 c7 hb ab R;go_wp2;go_ret;exact⟨a,HA.out,rfl,HI.out,HF.out⟩
theorem Qgc(n:Nat)(i:Int)(v b:Nat):∀(t:Tr)(w:World)(hs:Yj w b t),Cl 237 #[ptr b,t.ptrV,Xi n i,.int .u64 (v:Int)] w fun e w'=>∃a,w.heap.size≤a∧e=.returned (t.put n i v a).ptrV∧Yj w' b (t.put n i v a)∧Qc (fun k=>k∈t.addrs) w w'
 | .nil,w,hs=>(Qv5 hs n i v).mono fun e w'⟨a,h1,z,q,u⟩=>⟨a,h1,z,q,u.none⟩
 | .node h c l r,w,hs=>by
  cases hl:lt n i h with
  |true=>exact Qza hs n i v hl (fun w' d=>Qgc n i v b l w' d)
  |false=>exact Qzb hs n i v hl (fun w' d=>Qgc n i v b r w' d)
end
end Go.Proofs.YtnnhmpehkbihnaaGreat
