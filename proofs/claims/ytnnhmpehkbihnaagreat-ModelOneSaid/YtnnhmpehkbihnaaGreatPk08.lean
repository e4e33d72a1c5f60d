/- A part of the proof: no condition. -/
import Derived.Test.YtnnhmpehkbihnaaGreatPk07
namespace Go.Proofs.YtnnhmpehkbihnaaGreat
set_option linter.unusedVariables false
set_option maxRecDepth 100000
set_option maxHeartbeats 4000000
open Go.RowKit
open Go.Proofs.Tryz
section
attribute [local go_sem] Qp
theorem Me{w}{b:Nat}{h x:Nd}{c xc:Bool}{u d r:Tr}(hs:Kc w b (.aD h c (.aD x xc u d) r)):
  Cl 247 #[ptr b,ptr h.a] w fun e w'=>e=.returned (ptr x.a)∧Kc w' b (Mp (.aD h c (.aD x xc u d) r))∧Qc (fun k=>k=h.a∨k=x.a) w w':=by
 have hN:(b::(Mp (.aD h c (.aD x xc u d) r)).aC).Nodup:=by rw[Ey];exact hs.nd
 have B:=hs.top;obtain⟨⟨pp,nn,hT⟩,ac,hH,hA,hB⟩:=hs;obtain⟨hX,ae,af⟩:=hA;simp only[Tr.aC,List.nodup_cons,Zl,Zu,not_or,List.nodup_append]at ac;have z:h.a≠x.a:=by grind
 have al:b≠h.a:=by grind
 have am:b≠x.a:=by grind
 have sl:∀a∈u.aC,¬(a=h.a∨a=x.a):=by grind
 have sr:∀a∈d.aC,¬(a=h.a∨a=x.a):=by grind
 have so:∀a∈r.aC,¬(a=h.a∨a=x.a):=by grind
 clear ac;have KL:=O (fun w'(hc:Qc (fun k=>k=h.a∨k=x.a) w w')=>Jw.aB hc u ae sl);have KR:=O (fun w'(hc:Qc (fun k=>k=h.a∨k=x.a) w w')=>Jw.aB hc d af sr);have KO:=O (fun w'(hc:Qc (fun k=>k=h.a∨k=x.a) w w')=>Jw.aB hc r hB so);have KT:=O (fun w'(hc:Qc (fun k=>k=h.a∨k=x.a) w w')=>hc.blk hT (fun e=>e.elim al am));have aa:=O (fun w'(hc:Qc (fun k=>k=h.a∨k=x.a) w w')=>B.aB hc (fun e=>e.elim al am));have HN:=O hN;have I:x.a≠h.a:=Ne.symm z;have F1:∀K,K=(((w.setCell ⟨h.a,6,none⟩ d.aH).setCell ⟨x.a,7,none⟩ (.pointer (some ⟨h.a,0,none⟩))).setCell ⟨x.a,5,none⟩ (.bool c)).setCell ⟨h.a,5,none⟩ (.bool true)→Qh K h.a (It h true d.aH r.aH) 258∧Qh K x.a (It x c u.aH (.pointer (some ⟨h.a,0,none⟩))) 258∧Qc (fun k=>k=h.a∨k=x.a) w K:=by
  rintro K rfl;refine⟨?_,?_,?_⟩;·exact(((hH.set' 6 _ rfl).other _ I).other _ I).set' 5 _ rfl
  ·exact(((hX.other _ z).set' 7 _ rfl).set' 5 _ rfl).other _ z
  ·exact((((Zg _ w).setCell _ (.inl (.inl rfl))).setCell _ (.inl (.inr rfl))).setCell _ (.inl (.inr rfl))).setCell _ (.inl (.inl rfl))
 have Z:=O F1;obtain⟨a0,a1,a2,a3,a4,a5,a6,a7⟩:=Ja hH;obtain⟨b0,b1,b2,b3,b4,b5,b6,b7⟩:=Ja hX;have z1:=hH.frozen;have z2:=hX.frozen;have N1:=O z;obtain⟨pm,E⟩:∃pm,d.aH=.pointer pm:=by cases d<;>exact⟨_,rfl⟩
 have ap:=O E;unfold ptr at*;dsimp only[Tr.aH]at a0 a1 a2 a3 a4 a5 a6 a7;rw[E]at Z b7;clear E;clear ae af hB hT hH hX B hN sl sr so F1;go_enter func247,ntmps247;go_wp2_with fail;generalize hW1:(((w.setCell ⟨h.a,6,none⟩ (.pointer pm)).setCell ⟨x.a,7,none⟩ (.pointer (some ⟨h.a,0,none⟩))).setCell ⟨x.a,5,none⟩ (.bool c)).setCell ⟨h.a,5,none⟩ (.bool true)=K;obtain⟨H1,X1,U⟩:=Z.o _ hW1.symm;rw[←ap.o]at H1;have T1:=KT.o _ U;clear hW1 a0 a1 a2 a3 a4 a5 a6 a7 b0 b1 b2 b3 b4 b5 b6 b7 z1 z2;have ag:=KR.o _ U;have aj:=KO.o _ U;refine Zz (El (p:=d.aH) (q:=r.aH) T1 H1 d r rfl rfl ag aj) ?_;intro w2 c2;have H2:=O (c2.blk H1 (fun h=>h));have X2:=O (c2.blk X1 (fun h=>h));have C2:=O (U.trans c2 (fun k h=>h.elim));clear T1 H1 X1 U ag aj c2;dsimp only[Y4];have FX:∀R,R=(w2.setCell ⟨h.a,3,none⟩ (.int .u64 ((Pr h d r).1:Int))).setCell ⟨h.a,4,none⟩ (.int .i64 (Pr h d r).2)→Qh R h.a (It (h.re d r) true d.aH r.aH) 258∧Qh R x.a (It x c u.aH (.pointer (some ⟨h.a,0,none⟩))) 258∧Qc (fun k=>k=h.a∨k=x.a) w R:=by rintro R rfl;exact⟨(H2.o.set' 3 _ rfl).set' 4 _ rfl,(X2.o.other _ N1.o).other _ N1.o,(C2.o.setCell _ (.inl (.inl rfl))).setCell _ (.inl (.inl rfl))⟩
 have an:=O FX;have y1:=H2.o.frozen;obtain⟨a0,a1,a2,a3,a4,a5,a6,a7⟩:=Ja H2.o;clear FX z I;go_wp2_with fail;generalize ab:(w2.setCell ⟨h.a,3,none⟩ (.int .u64 ((Pr h d r).1:Int))).setCell ⟨h.a,4,none⟩ (.int .i64 (Pr h d r).2)=R;obtain⟨H3,X3,J⟩:=an.o _ ab.symm;have T3:=KT.o _ J;clear ab a0 a1 a2 a3 a4 a5 a6 a7 y1 H2 X2 C2;have ah:=KL.o _ J;have ak:=KR.o _ J;have ai:=KO.o _ J;refine Zz (El T3 X3 u (mk h true d r) rfl rfl ah ⟨H3,ak,ai⟩) ?_;intro w4 c4;have H4:=O (c4.blk H3 (fun h=>h));have X4:=O (c4.blk X3 (fun h=>h));have C4:=O (J.trans c4 (fun k h=>h.elim));clear T3 H3 X3 J ah ak ai c4;dsimp only[Y4];have FY:∀W5,W5=(w4.setCell ⟨x.a,3,none⟩ (.int .u64 ((Pr x u (mk h true d r)).1:Int))).setCell ⟨x.a,4,none⟩ (.int .i64 (Pr x u (mk h true d r)).2)→Kc W5 b (Mp (.aD h c (.aD x xc u d) r))∧Qc (fun k=>k=h.a∨k=x.a) w W5:=by rintro W5 rfl;have V:=(C4.o.setCell (a:=⟨x.a,3,none⟩) (.int .u64 ((Pr x u (mk h true d r)).1:Int)) (.inl (.inr rfl))).setCell (a:=⟨x.a,4,none⟩) (.int .i64 (Pr x u (mk h true d r)).2) (.inl (.inr rfl));have X5:=(X4.o.set' 3 (.int .u64 ((Pr x u (mk h true d r)).1:Int)) rfl).set' 4 (.int .i64 (Pr x u (mk h true d r)).2) rfl;have H5:=(H4.o.other (a:=⟨x.a,3,none⟩) (.int .u64 ((Pr x u (mk h true d r)).1:Int)) (Ne.symm N1.o)).other (a:=⟨x.a,4,none⟩) (.int .i64 (Pr x u (mk h true d r)).2) (Ne.symm N1.o);have aq:=KL.o _ V;have au:=KR.o _ V;have ar:=KO.o _ V;exact⟨⟨aa.o _ V,HN.o,X5,aq,H5,au,ar⟩,V⟩
 have ao:=O FY;have y1:=X4.o.frozen;obtain⟨a0,a1,a2,a3,a4,a5,a6,a7⟩:=Ja X4.o;clear FY;go_wp2;go_ret;exact⟨rfl,ao.o _ rfl⟩
theorem Qdr{w}{b:Nat}{h x:Nd}{c xc:Bool}{l d u:Tr}(hs:Kc w b (.aD h c l (.aD x xc d u))):
  Cl 259 #[ptr b,ptr h.a] w fun e w'=>e=.returned (ptr x.a)∧Kc w' b (Nw (.aD h c l (.aD x xc d u)))∧Qc (fun k=>k=h.a∨k=x.a) w w':=by
 have hN:(b::(Nw (.aD h c l (.aD x xc d u))).aC).Nodup:=by rw[Ts];exact hs.nd
 have B:=hs.top;obtain⟨⟨pp,nn,hT⟩,ac,hH,hA,hB⟩:=hs;obtain⟨hX,ae,af⟩:=hB;simp only[Tr.aC,List.nodup_cons,Zl,Zu,not_or,List.nodup_append]at ac;have z:h.a≠x.a:=by grind
 have al:b≠h.a:=by grind
 have am:b≠x.a:=by grind
 have sl:∀a∈d.aC,¬(a=h.a∨a=x.a):=by grind
 have sr:∀a∈u.aC,¬(a=h.a∨a=x.a):=by grind
 have so:∀a∈l.aC,¬(a=h.a∨a=x.a):=by grind
 clear ac;have KL:=O (fun w'(hc:Qc (fun k=>k=h.a∨k=x.a) w w')=>Jw.aB hc d ae sl);have KR:=O (fun w'(hc:Qc (fun k=>k=h.a∨k=x.a) w w')=>Jw.aB hc u af sr);have KO:=O (fun w'(hc:Qc (fun k=>k=h.a∨k=x.a) w w')=>Jw.aB hc l hA so);have KT:=O (fun w'(hc:Qc (fun k=>k=h.a∨k=x.a) w w')=>hc.blk hT (fun e=>e.elim al am));have aa:=O (fun w'(hc:Qc (fun k=>k=h.a∨k=x.a) w w')=>B.aB hc (fun e=>e.elim al am));have HN:=O hN;have I:x.a≠h.a:=Ne.symm z;have F1:∀K,K=(((w.setCell ⟨h.a,7,none⟩ d.aH).setCell ⟨x.a,6,none⟩ (.pointer (some ⟨h.a,0,none⟩))).setCell ⟨x.a,5,none⟩ (.bool c)).setCell ⟨h.a,5,none⟩ (.bool true)→Qh K h.a (It h true l.aH d.aH) 258∧Qh K x.a (It x c (.pointer (some ⟨h.a,0,none⟩)) u.aH) 258∧Qc (fun k=>k=h.a∨k=x.a) w K:=by
  rintro K rfl;refine⟨?_,?_,?_⟩;·exact(((hH.set' 7 _ rfl).other _ I).other _ I).set' 5 _ rfl
  ·exact(((hX.other _ z).set' 6 _ rfl).set' 5 _ rfl).other _ z
  ·exact((((Zg _ w).setCell _ (.inl (.inl rfl))).setCell _ (.inl (.inr rfl))).setCell _ (.inl (.inr rfl))).setCell _ (.inl (.inl rfl))
 have Z:=O F1;obtain⟨a0,a1,a2,a3,a4,a5,a6,a7⟩:=Ja hH;obtain⟨b0,b1,b2,b3,b4,b5,b6,b7⟩:=Ja hX;have z1:=hH.frozen;have z2:=hX.frozen;have N1:=O z;obtain⟨pm,E⟩:∃pm,d.aH=.pointer pm:=by cases d<;>exact⟨_,rfl⟩
 have ap:=O E;unfold ptr at*;dsimp only[Tr.aH]at a0 a1 a2 a3 a4 a5 a6 a7;rw[E]at Z b6;clear E;clear ae af hA hT hH hX B hN sl sr so F1;go_enter func259,ntmps259;go_wp2_with fail;generalize hW1:(((w.setCell ⟨h.a,7,none⟩ (.pointer pm)).setCell ⟨x.a,6,none⟩ (.pointer (some ⟨h.a,0,none⟩))).setCell ⟨x.a,5,none⟩ (.bool c)).setCell ⟨h.a,5,none⟩ (.bool true)=K;obtain⟨H1,X1,U⟩:=Z.o _ hW1.symm;rw[←ap.o]at H1;have T1:=KT.o _ U;clear hW1 a0 a1 a2 a3 a4 a5 a6 a7 b0 b1 b2 b3 b4 b5 b6 b7 z1 z2;have ag:=KO.o _ U;have aj:=KL.o _ U;refine Zz (El (p:=l.aH) (q:=d.aH) T1 H1 l d rfl rfl ag aj) ?_;intro w2 c2;have H2:=O (c2.blk H1 (fun h=>h));have X2:=O (c2.blk X1 (fun h=>h));have C2:=O (U.trans c2 (fun k h=>h.elim));clear T1 H1 X1 U ag aj c2;dsimp only[Y4];have FX:∀R,R=(w2.setCell ⟨h.a,3,none⟩ (.int .u64 ((Pr h l d).1:Int))).setCell ⟨h.a,4,none⟩ (.int .i64 (Pr h l d).2)→Qh R h.a (It (h.re l d) true l.aH d.aH) 258∧Qh R x.a (It x c (.pointer (some ⟨h.a,0,none⟩)) u.aH) 258∧Qc (fun k=>k=h.a∨k=x.a) w R:=by rintro R rfl;exact⟨(H2.o.set' 3 _ rfl).set' 4 _ rfl,(X2.o.other _ N1.o).other _ N1.o,(C2.o.setCell _ (.inl (.inl rfl))).setCell _ (.inl (.inl rfl))⟩
 have an:=O FX;have y1:=H2.o.frozen;obtain⟨a0,a1,a2,a3,a4,a5,a6,a7⟩:=Ja H2.o;clear FX z I;go_wp2_with fail;generalize ab:(w2.setCell ⟨h.a,3,none⟩ (.int .u64 ((Pr h l d).1:Int))).setCell ⟨h.a,4,none⟩ (.int .i64 (Pr h l d).2)=R;obtain⟨H3,X3,J⟩:=an.o _ ab.symm;have T3:=KT.o _ J;clear ab a0 a1 a2 a3 a4 a5 a6 a7 y1 H2 X2 C2;have ah:=KL.o _ J;have ak:=KR.o _ J;have ai:=KO.o _ J;refine Zz (El T3 X3 (mk h true l d) u rfl rfl ⟨H3,ai,ah⟩ ak) ?_;intro w4 c4;have H4:=O (c4.blk H3 (fun h=>h));have X4:=O (c4.blk X3 (fun h=>h));have C4:=O (J.trans c4 (fun k h=>h.elim));clear T3 H3 X3 J ah ak ai c4;dsimp only[Y4];have FY:∀W5,W5=(w4.setCell ⟨x.a,3,none⟩ (.int .u64 ((Pr x (mk h true l d) u).1:Int))).setCell ⟨x.a,4,none⟩ (.int .i64 (Pr x (mk h true l d) u).2)→Kc W5 b (Nw (.aD h c l (.aD x xc d u)))∧Qc (fun k=>k=h.a∨k=x.a) w W5:=by rintro W5 rfl;have V:=(C4.o.setCell (a:=⟨x.a,3,none⟩) (.int .u64 ((Pr x (mk h true l d) u).1:Int)) (.inl (.inr rfl))).setCell (a:=⟨x.a,4,none⟩) (.int .i64 (Pr x (mk h true l d) u).2) (.inl (.inr rfl));have X5:=(X4.o.set' 3 (.int .u64 ((Pr x (mk h true l d) u).1:Int)) rfl).set' 4 (.int .i64 (Pr x (mk h true l d) u).2) rfl;have H5:=(H4.o.other (a:=⟨x.a,3,none⟩) (.int .u64 ((Pr x (mk h true l d) u).1:Int)) (Ne.symm N1.o)).other (a:=⟨x.a,4,none⟩) (.int .i64 (Pr x (mk h true l d) u).2) (Ne.symm N1.o);have aq:=KL.o _ V;have au:=KR.o _ V;have ar:=KO.o _ V;exact⟨⟨aa.o _ V,HN.o,X5,⟨H5,ar,aq⟩,au⟩,V⟩
 have ao:=O FY;have y1:=X4.o.frozen;obtain⟨a0,a1,a2,a3,a4,a5,a6,a7⟩:=Ja X4.o;clear FY;go_wp2;go_ret;exact⟨rfl,ao.o _ rfl⟩
theorem Dc{w}{b:Nat}{h y z:Nd}{c cy R:Bool}{yl yr zl zr:Tr}(hs:Kc w b (.aD h c (.aD y cy yl yr) (.aD z R zl zr))):
  Cl 258 #[ptr h.a] w fun e w'=>e=.returned (.tuple #[])∧Kc w' b (.aD h (!c) (.aD y (!cy) yl yr) (.aD z (!R) zl zr))∧Qc (fun k=>k=h.a∨k=y.a∨k=z.a) w w':=by
 have hN:=hs.nd;have q:=hs.top;obtain⟨⟨pp,nn,hT⟩,V,hH,⟨hY,aa,ab⟩,hZ,ac,ae⟩:=hs;simp only[Tr.aC,List.nodup_cons,Zl,Zu,not_or,List.nodup_append]at V;have B:h.a≠y.a:=by grind
 have E:h.a≠z.a:=by grind
 have I:y.a≠z.a:=by grind
 have nb:¬(b=h.a∨b=y.a∨b=z.a):=by grind
 have s1:∀a∈yl.aC,¬(a=h.a∨a=y.a∨a=z.a):=by grind
 have s2:∀a∈yr.aC,¬(a=h.a∨a=y.a∨a=z.a):=by grind
 have s3:∀a∈zl.aC,¬(a=h.a∨a=y.a∨a=z.a):=by grind
 have s4:∀a∈zr.aC,¬(a=h.a∨a=y.a∨a=z.a):=by grind
 have m1:=Ne.symm B;have m2:=Ne.symm E;have m3:=Ne.symm I;clear V;have J:∀W w',Qc Qb w W→w'=((W.setCell ⟨h.a,5,none⟩ (.bool (!c))).setCell ⟨y.a,5,none⟩ (.bool (!cy))).setCell ⟨z.a,5,none⟩ (.bool (!R))→Kc w' b (.aD h (!c) (.aD y (!cy) yl yr) (.aD z (!R) zl zr))∧Qc (fun k=>k=h.a∨k=y.a∨k=z.a) w w':=by
  rintro W w' hc rfl;have u:Qc (fun k=>k=h.a∨k=y.a∨k=z.a) w (((W.setCell ⟨h.a,5,none⟩ (.bool (!c))).setCell ⟨y.a,5,none⟩ (.bool (!cy))).setCell ⟨z.a,5,none⟩ (.bool (!R))):=(((hc.sub (fun k h=>h.elim)).setCell _ (.inl (.inl rfl))).setCell _ (.inl (.inr (.inl rfl)))).setCell _ (.inl (.inr (.inr rfl)));refine⟨⟨q.aB u nb,hN,?_,⟨?_,Jw.aB u yl aa s1,Jw.aB u yr ab s2⟩,?_,Jw.aB u zl ac s3,Jw.aB u zr ae s4⟩,u⟩;·exact(((hc.blk hH (fun h=>h)).set' 5 _ rfl).other _ m1).other _ m2
  ·exact(((hc.blk hY (fun h=>h)).other _ B).set' 5 _ rfl).other _ m3
  ·exact(((hc.blk hZ (fun h=>h)).other _ E).other _ I).set' 5 _ rfl
 have HF:=O J;have B1:=O hH;have B2:=O hY;have B3:=O hZ;have E1:=fun x=>Ja (Qk (S:=Qb) hH (fun h=>h) x);have E2:=fun x=>Ja (Qk (S:=Qb) hY (fun h=>h) x);have E3:=fun x=>Ja (Qk (S:=Qb) hZ (fun h=>h) x);dsimp only[Tr.aH]at E1;unfold ptr;have M:=O (Zt B (Zt E I));clear hH hY hZ hT aa ab ac ae q hN s1 s2 s3 s4 nb J B E I m1 m2 m3;go_enter func258,ntmps258;go_wp2;refine Ka [0,1,2,3,4,5,6,7,8,9,10,11,12,13,14,15,16,17,18,19,20,22,23,24,25,26,27,28,30,31] [21,29] [32,33,34,35,36,37,38] (Qz (Qb) (w)) Zq (by kernel_rfl) (fun _ _ _ _ _ h=>h) (Qd (by(repeat' (first|(with_reducible first|exact Zg _ _|assumption|refine Zh ?_ _|refine Zi ?_ _|refine Zj ?_|refine Zk ?_ _ ?_|(apply Or.inl;rfl))|(apply Or.inl;simp;done)|(apply Or.inr;simp;first|done|omega))))) ?_;simp only[pick,Zf,Ze,Zd];iterate 30 (refine Ql (fun K U=>?_);go_simp;refine U _ ?_;clear U K)
 refine Qg ?_;iterate 2 (refine Ql (fun K U=>?_);go_simp;refine U _ ?_;clear U K)
 refine Qg ?_;intro _ af;obtain⟨xo,Z⟩:=af;subst Z;have d:=O (Qv Qb w xo);generalize Qz Qb w xo=W at d⊢;clear E1 E2 E3;obtain⟨a0,a1,a2,a3,a4,a5,a6,a7⟩:=Ja (d.o.blk B1.o (fun h=>h));obtain⟨b0,b1,b2,b3,b4,b5,b6,b7⟩:=Ja (d.o.blk B2.o (fun h=>h));obtain⟨d0,d1,d2,d3,d4,d5,d6,d7⟩:=Ja (d.o.blk B3.o (fun h=>h));have f1:=(d.o.blk B1.o (fun h=>h)).frozen;have f2:=(d.o.blk B2.o (fun h=>h)).frozen;have f3:=(d.o.blk B3.o (fun h=>h)).frozen;obtain⟨B,E,I⟩:=M.o;have m1:=Ne.symm B;have m2:=Ne.symm E;have m3:=Ne.symm I;go_wp2;exact bodyPost_end (results_none rfl _ _ _) rfl ⟨rfl,HF.o _ _ d.o rfl⟩
theorem Kc.chg{w w'}{b:Nat}{t d:Tr}{S:Fp}(hc:Qc S w w')(c:∀k,S k→k∈t.aC):Qc (fun k=>k∈t.aC) w w':=hc.sub c
theorem Kc.left{w}{b:Nat}{x:Nd}{c:Bool}{l r:Tr}(h:Kc w b (.aD x c l r)):Kc w b l:=⟨h.top,by
 have:=h.nd;simp only[Tr.aC,List.nodup_cons,Zl,Zu,not_or,List.nodup_append]at this⊢;grind,h.at'.2.1⟩
theorem Kc.right{w}{b:Nat}{x:Nd}{c:Bool}{l r:Tr}(h:Kc w b (.aD x c l r)):Kc w b r:=⟨h.top,by
 have:=h.nd;simp only[Tr.aC,List.nodup_cons,Zl,Zu,not_or,List.nodup_append]at this⊢;grind,h.at'.2.2⟩
theorem Qds{w}{b:Nat}{h:Nd}{c:Bool}{l r:Tr}(hs:Kc w b (.aD h c l r))(hl:l.red=true):
  Cl 247 #[ptr b,ptr h.a] w fun e w'=>e=.returned (Mp (.aD h c l r)).aH∧Kc w' b (Mp (.aD h c l r))∧Qc (fun k=>k∈(Tr.aD h c l r).aC) w w':=by
 obtain⟨x,u,z,rfl⟩:=Yg hl;refine Zz (Me hs) ?_;rintro w'⟨h1,d⟩;exact⟨rfl,h1,d.sub fun k q=>by rcases q with rfl|rfl<;>simp[Tr.aC]⟩
theorem Qr3{w}{b:Nat}{h:Nd}{c:Bool}{l r:Tr}(hs:Kc w b (.aD h c l r))(hl:r.red=true):
  Cl 259 #[ptr b,ptr h.a] w fun e w'=>e=.returned (Nw (.aD h c l r)).aH∧Kc w' b (Nw (.aD h c l r))∧Qc (fun k=>k∈(Tr.aD h c l r).aC) w w':=by
 obtain⟨x,u,z,rfl⟩:=Yg hl;refine Zz (Qdr hs) ?_;rintro w'⟨h1,d⟩;exact⟨rfl,h1,d.sub fun k q=>by rcases q with rfl|rfl<;>simp[Tr.aC]⟩
theorem Qr2{w}{b:Nat}{h:Nd}{c:Bool}{l r:Tr}(hs:Kc w b (.aD h c l r))(hl:l.red=true)(hr:r.red=true):
  Cl 258 #[ptr h.a] w fun e w'=>e=.returned (.tuple #[])∧Kc w' b (Cd (.aD h c l r))∧Qc (fun k=>k∈(Tr.aD h c l r).aC) w w':=by
 obtain⟨x,u,z,rfl⟩:=Yg hl;obtain⟨y,yl,yr,rfl⟩:=Yg hr;refine Zz (Dc hs) ?_;rintro w'⟨h1,d⟩;exact⟨rfl,h1,d.sub fun k q=>by rcases q with rfl|rfl|rfl<;>simp[Tr.aC]⟩
theorem Qnn(h:Nd)(c:Bool)(l r:Tr):∃h' c' l' d,s1 (.aD h c l r)=.aD h' c' l' d:=by
 unfold s1;split
 ·unfold Nw;split;·exact⟨_,_,_,_,rfl⟩
  ·exact⟨_,_,_,_,rfl⟩
 ·exact⟨_,_,_,_,rfl⟩
theorem Qno(h:Nd)(c:Bool)(l r:Tr):∃h' c' l' d,s2 (.aD h c l r)=.aD h' c' l' d:=by
 unfold s2;split
 ·unfold Mp;split;·exact⟨_,_,_,_,rfl⟩
  ·exact⟨_,_,_,_,rfl⟩
 ·exact⟨_,_,_,_,rfl⟩
theorem Qnp(h:Nd)(c:Bool)(l r:Tr):∃h' c' l' d,s3 (.aD h c l r)=.aD h' c' l' d:=by
 unfold s3;split
 ·unfold Cd;split;·exact⟨_,_,_,_,rfl⟩
  ·exact⟨_,_,_,_,rfl⟩
 ·exact⟨_,_,_,_,rfl⟩
theorem Qqw(t:Tr):(s1 t).aC=t.aC:=by unfold s1;split;exact Ts t;rfl
theorem Qqx(t:Tr):(s2 t).aC=t.aC:=by unfold s2;split;exact Ey t;rfl
theorem Qqy(t:Tr):(s3 t).aC=t.aC:=by unfold s3;split;exact An t;rfl
theorem Kc.left'{w}{b:Nat}{t:Tr}(h:Kc w b t):Jw w t.left:=by
 cases t with
 |nil=>trivial
 |aD x c l r=>exact h.at'.2.1
theorem Ek{w}{b:Nat}{h:Nd}{c:Bool}{l r:Tr}(hs:Kc w b (.aD h c l r)):
  Cl 246 #[ptr b,ptr h.a] w fun e w'=>e=.returned (Gs (.aD h c l r)).aH∧Kc w' b (Gs (.aD h c l r))∧Qc (fun k=>k∈(Tr.aD h c l r).aC) w w':=by
 have HR:=O (Kf r hs.at'.2.2);have B:=O (Kf l hs.at'.2.1);have hX:=hs.at'.1;obtain⟨a0,a1,a2,a3,a4,a5,a6,a7⟩:=Ja hX;have H0:=O hs;unfold ptr at*;clear hs hX;go_enter func246,ntmps246;go_upto_region 1 with fail;go_cut [17] (fun au J=>au=.bool (r.red&&!l.red)∧J=w)
 case first=>
  cases hr:r.red<;>cases hl:l.red;all_goals rw[hr]at HR
  all_goals rw[hl]at B
  all_goals
   go_wp2_with fail;refine Zy HR ?_;rintro w1 rfl;go_wp2_with fail;try
    refine Zy B ?_;rintro w1 rfl;go_wp2_with fail
   go_meet;exact⟨by rw[hr,hl];rfl,rfl⟩
 case rest=>
  obtain⟨rfl,K⟩:=hcut;rw[K];clear K wc a0 a1 a2 a3 a4 a5 a6 a7 B HR;go_upto_if 17 with fail;go_cut [1] (fun v1 J=>v1=(s1 (.aD h c l r)).aH∧Kc J b (s1 (.aD h c l r))∧Qc (fun k=>k∈(Tr.aD h c l r).aC) w J)
  case first=>
   have V:(Tr.aD h c l r).right.red=r.red:=rfl;have e1:(Tr.aD h c l r).left.red=l.red:=rfl;cases q:(r.red&&!l.red)
   ·have E:s1 (.aD h c l r)=.aD h c l r:=by unfold s1;rw[V,e1,q];rfl
    go_wp2_with fail;go_meet;rw[E];exact⟨rfl,H0.o,Zg _ _⟩
   ·have E:s1 (.aD h c l r)=Nw (.aD h c l r):=by unfold s1;rw[V,e1,q];rfl
    have HC:=O (Qr3 H0.o (by simp at q;exact q.1));unfold ptr at HC;have ES:=O E;clear E V e1;go_wp2_with fail;refine Zy HC ?_;rintro w1⟨u,R⟩;have I1:=O (Zt u R);clear u R;go_wp2_with fail;go_meet;rw[ES.o];exact⟨rfl,I1.o⟩
  case rest=>
   obtain⟨rfl,u,R⟩:=hcut;obtain⟨h1,k1,l1,U,e1⟩:=Qnn h c l r;have A1:(Tr.aD h1 k1 l1 U).aC=(Tr.aD h c l r).aC:=by rw[←e1];exact Qqw _
   have B1:Gs (.aD h c l r)=fin (s3 (s2 (.aD h1 k1 l1 U))):=by unfold Gs;rw[e1]
   rw[e1]at u⊢;have aa:=O A1;have ag:=O B1;obtain⟨w1,al⟩:=Zx wc;rw[←al]at u R⊢;have ai:=O R;clear al A1 B1 e1 H0 R;have H1:=O u;have B:=O (Kf l1 u.at'.2.1);have ac:=O (Kf l1.left u.left.left');obtain⟨a0,a1,a2,a3,a4,a5,a6,a7⟩:=Ja u.at'.1;have LB:l1.red=true→∃y yl yr,l1=.aD y true yl yr∧Qh w1 y.a (It y true yl.aH yr.aH) 258:=fun hl=>by obtain⟨y,yl,yr,rfl⟩:=Yg hl;exact⟨y,yl,yr,rfl,u.left.at'.1⟩
   have LB:=O LB;clear u;dsimp only[Tr.aH];go_upto_region 3 with fail;go_cut [35] (fun vq J=>vq=.bool (l1.red&&l1.left.red)∧J=w1)
   case first=>
    cases hl:l1.red;·rw[hl]at B;go_wp2_with fail;refine Zy B ?_;rintro w2 rfl;go_wp2_with fail;go_meet;exact⟨by rw[hl];rfl,rfl⟩
    ·obtain⟨y,yl,yr,rfl,hy⟩:=LB.o hl;obtain⟨b0,b1,b2,b3,b4,b5,b6,b7⟩:=Ja hy;rw[hl]at B;have ak:(Tr.aD y true yl yr).aH=.pointer (some ⟨y.a,0,none⟩):=rfl;rw[ak]at a6 B;dsimp only[Tr.left]at ac;clear hy LB ak;go_wp2_with fail;refine Zy B ?_;rintro w2 rfl;go_wp2_with fail;refine Zy ac ?_;rintro w2 rfl;go_wp2_with fail;go_meet;exact⟨by rw[hl];rfl,rfl⟩
   case rest=>
    obtain⟨rfl,K⟩:=hcut;subst K;clear a0 a1 a2 a3 a4 a5 a6 a7 B ac LB;go_upto_if 35 with fail;go_cut [1] (fun v1 J=>v1=(s2 (.aD h1 k1 l1 U)).aH∧Kc J b (s2 (.aD h1 k1 l1 U))∧Qc (fun k=>k∈(Tr.aD h1 k1 l1 U).aC) wc J)
    case first=>
     have V:(Tr.aD h1 k1 l1 U).left.red=l1.red:=rfl;have e1:(Tr.aD h1 k1 l1 U).left.left.red=l1.left.red:=rfl;cases q:(l1.red&&l1.left.red)
     ·have E:s2 (.aD h1 k1 l1 U)=.aD h1 k1 l1 U:=by unfold s2;rw[V,e1,q];rfl
      go_wp2_with fail;go_meet;rw[E];exact⟨rfl,H1.o,Zg _ _⟩
     ·have E:s2 (.aD h1 k1 l1 U)=Mp (.aD h1 k1 l1 U):=by unfold s2;rw[V,e1,q];rfl
      have HC:=O (Qds H1.o (by simp at q;exact q.1));unfold ptr at HC;have ES:=O E;clear E V e1;go_wp2_with fail;refine Zy HC ?_;rintro w2⟨u,R⟩;have I1:=O (Zt u R);clear u R;go_wp2_with fail;go_meet;rw[ES.o];exact⟨rfl,I1.o⟩
    case rest=>
     obtain⟨rfl,i2,c2⟩:=hcut;rw[aa.o]at c2;obtain⟨I,k2,l2,d,e2⟩:=Qno h1 k1 l1 U;have A2:(Tr.aD I k2 l2 d).aC=(Tr.aD h c l r).aC:=by rw[←e2,Qqx];exact aa.o
     have B2:Gs (.aD h c l r)=fin (s3 (.aD I k2 l2 d)):=by rw[ag.o,e2]
     rw[e2]at i2⊢;have ab:=O A2;have ah:=O B2;obtain⟨w2,am⟩:=Zx wc;rw[←am]at i2 c2⊢;have aj:=O (ai.o.aA c2);clear am A2 B2 e2 aa ag H1 ai c2;have H2:=O i2;have B:=O (Kf l2 i2.at'.2.1);have HR:=O (Kf d i2.at'.2.2);obtain⟨a0,a1,a2,a3,a4,a5,a6,a7⟩:=Ja i2.at'.1;clear i2;dsimp only[Tr.aH];go_upto_region 5 with fail;go_cut [50] (fun vq J=>vq=.bool (l2.red&&d.red)∧J=w2)
     case first=>
      cases hl:l2.red<;>cases hr:d.red;all_goals rw[hr]at HR
      all_goals rw[hl]at B
      all_goals
       go_wp2_with fail;refine Zy B ?_;rintro w3 rfl;go_wp2_with fail;try
        refine Zy HR ?_;rintro w3 rfl;go_wp2_with fail
       go_meet;exact⟨by rw[hr,hl];rfl,rfl⟩
     case rest=>
      obtain⟨rfl,K⟩:=hcut;subst K;clear a0 a1 a2 a3 a4 a5 a6 a7 B HR;go_upto_if 50 with fail;go_cut [1] (fun v1 J=>v1=(s3 (.aD I k2 l2 d)).aH∧Kc J b (s3 (.aD I k2 l2 d))∧Qc (fun k=>k∈(Tr.aD I k2 l2 d).aC) wc J)
      case first=>
       have V:(Tr.aD I k2 l2 d).left.red=l2.red:=rfl;have e1:(Tr.aD I k2 l2 d).right.red=d.red:=rfl;cases q:(l2.red&&d.red)
       ·have E:s3 (.aD I k2 l2 d)=.aD I k2 l2 d:=by unfold s3;rw[V,e1,q];rfl
        go_wp2_with fail;go_meet;rw[E];exact⟨rfl,H2.o,Zg _ _⟩
       ·have E:s3 (.aD I k2 l2 d)=Cd (.aD I k2 l2 d):=by unfold s3;rw[V,e1,q];rfl
        simp only[Zw]at q;have HC:=O (Qr2 H2.o q.1 q.2);have hp:(Cd (.aD I k2 l2 d)).aH=.pointer (some ⟨I.a,0,none⟩):=by obtain⟨x,xl,xr,rfl⟩:=Yg q.1;obtain⟨y,yl,yr,rfl⟩:=Yg q.2;rfl
        have HP:=O hp;unfold ptr at HC;have ES:=O E;clear E V e1 hp;go_wp2_with fail;refine Zy HC ?_;rintro w3⟨u,R⟩;have I1:=O (Zt u R);clear u R;go_wp2_with fail;go_meet;rw[ES.o,HP.o];exact⟨rfl,I1.o⟩
      case rest=>
       obtain⟨rfl,i3,c3⟩:=hcut;rw[ab.o]at c3;obtain⟨z,k3,l3,r3,e3⟩:=Qnp I k2 l2 d;have A3:(Tr.aD z k3 l3 r3).aC=(Tr.aD h c l r).aC:=by rw[←e3,Qqy];exact ab.o
       have B3:Gs (.aD h c l r)=mk z k3 l3 r3:=by rw[ah.o,e3];rfl
       rw[e3]at i3⊢;have ap:=O B3;have ao:=O A3;obtain⟨w3,an⟩:=Zx wc;rw[←an]at i3 c3⊢;have aq:=O (aj.o.aA c3);clear an A3 B3 e3 ab ah H2 aj c3;have H3:=O i3;obtain⟨pp,nn,hT⟩:=i3.top;have HT:=O (El hT i3.at'.1 l3 r3 rfl rfl i3.at'.2.1 i3.at'.2.2);clear i3 hT;have af:∀w4 w5,Qc Qb w3 w4→w5=(w4.setCell ⟨z.a,3,none⟩ (.int .u64 ((Pr z l3 r3).1:Int))).setCell ⟨z.a,4,none⟩ (.int .i64 (Pr z l3 r3).2)→Kc w5 b (mk z k3 l3 r3)∧Qc (fun k=>k∈(Tr.aD h c l r).aC) w w5:=by rintro w4 w5 hc rfl;have Z:Qc (fun k=>k=z.a) w3 ((w4.setCell ⟨z.a,3,none⟩ (.int .u64 ((Pr z l3 r3).1:Int))).setCell ⟨z.a,4,none⟩ (.int .i64 (Pr z l3 r3).2)):=((hc.sub (F:=fun k=>k=z.a) (fun k h=>h.elim)).setCell (a:=⟨z.a,3,none⟩) _ (.inl rfl)).setCell (a:=⟨z.a,4,none⟩) _ (.inl rfl);have hS:=H3.o;have ar:=hS.nd;simp only[Tr.aC,List.nodup_cons,Zl,Zu,not_or,List.nodup_append]at ar;refine⟨⟨hS.top.aB Z (by grind),hS.nd,((hc.blk hS.at'.1 (fun h=>h)).set' 3 _ rfl).set' 4 _ rfl,Jw.aB Z l3 hS.at'.2.1 (by grind),Jw.aB Z r3 hS.at'.2.2 (by grind)⟩,aq.o.aA (Z.sub ?_)⟩;rintro k rfl;rw[←ao.o];simp[Tr.aC]
       have HF:=O af;have HB:=O (H3.o.at'.1);unfold ptr Y4 at*;clear af;dsimp only[Tr.aH];go_wp2_with fail;refine Zy HT ?_;intro w4 c4;have C4:=O c4;have ae:=c4.blk HB.o (fun h=>h);obtain⟨a0,a1,a2,a3,a4,a5,a6,a7⟩:=Ja ae;have f4:=ae.frozen;clear ae c4;go_wp2;go_ret;rw[ap.o];exact⟨rfl,HF.o _ _ C4.o rfl⟩
theorem Kc.setL{w w1 w2}{b:Nat}{x:Nd}{c:Bool}{l r l':Tr}{S:Fp}(hs:Kc w b (.aD x c l r))(hl:Kc w1 b l')(hc:Qc S w w1)(u:∀k,S k→k∈l.aC)(ha:∀k∈l'.aC,k∈l.aC∨w.heap.size≤k)(I:w2=w1.setCell ⟨x.a,6,none⟩ l'.aH):Kc w2 b (.aD x c l' r)∧Qc (fun k=>k∈(Tr.aD x c l r).aC) w w2:=by
 subst I;have E:=hs.nd;have Xg:=Jw.lt _ hs.at';simp only[Tr.aC,List.nodup_cons,Zl,Zu,not_or,List.nodup_append]at E;simp only[Tr.aC,Zl,Zu]at Xg;have K:b<w.heap.size:=by obtain⟨p,n,h⟩:=hs.top;exact h.lt
 have d:=hl.nd;simp only[List.nodup_cons]at d;have R:x.a∉l'.aC:=fun h=>by
  rcases ha _ h with h|h;·exact absurd h (by grind)
  ·have:=Xg x.a (by simp);omega
 have h1:Qc (fun k=>k=x.a) w1 (w1.setCell ⟨x.a,6,none⟩ l'.aH):=(Zg _ w1).setCell (a:=⟨x.a,6,none⟩) _ (.inl rfl);have hr:Jw w1 r:=Jw.aB hc r hs.at'.2.2 fun a J h=>by have:=u a h;grind
 refine⟨⟨hl.top.aB h1 (by grind),?_,(hc.blk hs.at'.1 (fun h=>by have:=u _ h;grind)).set' 6 _ rfl,Jw.aB h1 l' hl.at' (by grind),Jw.aB h1 r hr (by grind)⟩,(hc.sub fun k B=>?_).aA (h1.sub fun k B=>?_)⟩
 ·simp only[Tr.aC,List.nodup_cons,Zl,Zu,not_or,List.nodup_append];refine⟨⟨d.1,by grind,by grind⟩,d.2,⟨by grind,by grind⟩,fun a q c z e=>?_⟩;subst e;rcases z with rfl|h;·exact R q
  ·rcases ha _ q with h'|h';·grind
   ·have:=Xg a (by simp[h]);omega
 ·simp[Tr.aC,u k B]
 ·subst B;simp[Tr.aC]
theorem Kc.setR{w w1 w2}{b:Nat}{x:Nd}{c:Bool}{l r q:Tr}{S:Fp}(hs:Kc w b (.aD x c l r))(hl:Kc w1 b q)(hc:Qc S w w1)(u:∀k,S k→k∈r.aC)(ha:∀k∈q.aC,k∈r.aC∨w.heap.size≤k)(J:w2=w1.setCell ⟨x.a,7,none⟩ q.aH):Kc w2 b (.aD x c l q)∧Qc (fun k=>k∈(Tr.aD x c l r).aC) w w2:=by
 subst J;have I:=hs.nd;have Xg:=Jw.lt _ hs.at';simp only[Tr.aC,List.nodup_cons,Zl,Zu,not_or,List.nodup_append]at I;simp only[Tr.aC,Zl,Zu]at Xg;have R:b<w.heap.size:=by obtain⟨p,n,h⟩:=hs.top;exact h.lt
 have d:=hl.nd;simp only[List.nodup_cons]at d;have U:x.a∉q.aC:=fun h=>by
  rcases ha _ h with h|h;·exact absurd h (by grind)
  ·have:=Xg x.a (by simp);omega
 have h1:Qc (fun k=>k=x.a) w1 (w1.setCell ⟨x.a,7,none⟩ q.aH):=(Zg _ w1).setCell (a:=⟨x.a,7,none⟩) _ (.inl rfl);have hr:Jw w1 l:=Jw.aB hc l hs.at'.2.1 fun a K h=>by have:=u a h;grind
 refine⟨⟨hl.top.aB h1 (by grind),?_,(hc.blk hs.at'.1 (fun h=>by have:=u _ h;grind)).set' 7 _ rfl,Jw.aB h1 l hr (by grind),Jw.aB h1 q hl.at' (by grind)⟩,(hc.sub fun k E=>?_).aA (h1.sub fun k E=>?_)⟩
 ·simp only[Tr.aC,List.nodup_cons,Zl,Zu,not_or,List.nodup_append];refine⟨⟨by grind,by grind,d.1⟩,by grind,⟨U,d.2⟩,fun a z c B e=>?_⟩;subst e;rcases B with rfl|h;·grind
  ·rcases ha _ h with h'|h';·grind
   ·have:=Xg a (by simp[z]);omega
 ·simp[Tr.aC,u k E]
 ·subst E;simp[Tr.aC]
theorem Rq(n:Nat)(i:Int)(v a:Nat)(t:Tr){k:Nat}(h:k∈(t.put n i v a).aC):k=a∨k∈t.aC:=by have:=(Cu n i v a t).mem_iff.1 h;simpa using this
theorem Tr.ptrV_any(t:Tr):∃p,t.aH=.pointer p:=by cases t<;>exact⟨_,rfl⟩
theorem Qr4{w}{b:Nat}(hs:Kc w b .nil)(n:Nat)(i:Int)(v:Nat):
  Cl 237 #[ptr b,.pointer none,Yo n i,.int .u64 v] w fun e w'=>∃a,w.heap.size≤a∧e=.returned (Tr.nil.put n i v a).aH∧Kc w' b (Tr.nil.put n i v a)∧Qc Qb w w':=by
 obtain⟨pp,nn,E⟩:=hs.top;have I:=E.lt;have HO:=O (fun w=>Su n i v w);obtain⟨k,J⟩:=Zx (w.heap.size);have B:=O (Qh.new w #[.int .u64 n,.int .i64 i] 204);have Z:=O (E.alloc (.cells #[.int .u64 n,.int .i64 i] 204));have U:=O ((Zg Qb w).alloc (.cells #[.int .u64 n,.int .i64 i] 204));have c:∀w1 w2,Qc Qb w w1→w2=w1.alloc (.cells (It ⟨w1.heap.size,n,i,v,v,i⟩ true (.pointer none) (.pointer none)) 258)→Kc w2 b (Tr.nil.put n i v w1.heap.size)∧Qc Qb w w2∧w.heap.size≤w1.heap.size:=by rintro w1 w2 hc rfl;have h1:=hc.size;refine⟨⟨hs.top.aB (hc.alloc _) (fun h=>h),?_,Qh.new _ _ _,trivial,trivial⟩,hc.alloc _,h1⟩;simp[Tr.put,Tr.aC];omega
 have HF:=O c;simp only[←J]at B;unfold ptr Yo at*;clear hs E I c;go_enter func237,ntmps237;go_wp2_with fail;rw[←J];obtain⟨W,hW⟩:=Zx (w.alloc (.cells #[.int .u64 n,.int .i64 i] 204));rw[←hW]at B Z U⊢;clear hW J;have V:=fun x=>X9 (Qk (S:=Qb) Z.o (fun h=>h) x);have E2:=fun x=>Q4 (Qk (S:=Qb) B.o (fun h=>h) x);unfold Dd at V;try go_wp2
 refine Qu [] [0,1,2,3,4,5,6,7] [8,9,10,11] [] (Qz (Qb) (W)) Zq (by kernel_rfl) (fun _ _ _ _ _ h=>h) (Qd (by(repeat' (first|(with_reducible first|exact Zg _ _|assumption|refine Zh ?_ _|refine Zi ?_ _|refine Zj ?_|refine Zk ?_ _ ?_|(apply Or.inl;rfl))|(apply Or.inl;simp;done)|(apply Or.inr;simp;first|done|omega))))) ?_;simp only[pick,Zf,Ze,Zd];refine Qg ?_;iterate 8 (refine Ql (fun K hK=>?_);go_simp;refine hK _ ?_;clear hK K)
 refine Qg ?_;intro _ R;obtain⟨xo,d⟩:=R;subst d;simp only[Jd];have c3:=O (Qv Qb W xo);generalize Qz Qb W xo=w3 at c3⊢;clear V E2;go_wp2_with fail;refine Zz (HO.o _) ?_;intro w4 d4;have u:=O (c3.o.aA d4);have q:=O (HF.o _ _ (U.o.aA u.o) rfl);have z:=O (u.o.alloc (.cells (It ⟨w4.heap.size,n,i,v,v,i⟩ true (.pointer none) (.pointer none)) 258));clear d4;dsimp only[It]at z q;go_wp2;refine⟨Qd u.o,?_⟩;go_wp2;refine⟨Qd u.o,?_⟩;go_wp2;refine⟨Qd z.o,?_⟩;go_wp2;refine⟨Qd z.o,?_⟩;go_wp2;go_ret;exact⟨_,q.o.2.2,rfl,q.o.1,q.o.2.1⟩
theorem Qu3{w}{b:Nat}{h:Nd}{c:Bool}{l r:Tr}(hs:Kc w b (.aD h c l r))(n:Nat)(i:Int)(v:Nat)(Xg:lt n i h=true)
  (ih:∀w'(ai:Kc w' b l),Cl 237 #[ptr b,l.aH,Yo n i,.int .u64 v] w' fun e w2=>∃a,w'.heap.size≤a∧e=.returned (l.put n i v a).aH∧Kc w2 b (l.put n i v a)∧Qc (fun k=>k∈l.aC) w' w2):
  Cl 237 #[ptr b,.pointer (some ⟨h.a,0,none⟩),Yo n i,.int .u64 v] w fun e w'=>∃a,w.heap.size≤a∧e=.returned (Tr.put n i v a (.aD h c l r)).aH∧Kc w' b (Tr.put n i v a (.aD h c l r))∧Qc (fun k=>k∈(Tr.aD h c l r).aC) w w':=by
 obtain⟨k,d⟩:=Zx (w.heap.size);have hp:∀a,Tr.put n i v a (.aD h c l r)=Gs (.aD h c (l.put n i v a) r):=fun a=>by simp[Tr.put,Xg]
 have HP:=O hp;have Z:=O (Qh.new w #[.int .u64 n,.int .i64 i] 204);have C0:=O ((Zg Qb w).alloc (.cells #[.int .u64 n,.int .i64 i] 204));have HS:=O (fun w'(hc:Qc Qb w w')=>hs.aB hc (fun _ _ h=>h));have u:=O (fun w=>Gu n i h w);rw[Xg]at u;have ah:=O d;have IH:=O ih;have ab:=Jw.lt _ hs.at';have ag:=O (show∀a∈(Tr.aD h c l r).aC,a≠k from fun a ha e=>by have:=ab a ha;omega);simp only[←d]at Z;have ac:=hs.nd;simp only[Tr.aC,List.nodup_cons,Zl,Zu,not_or,List.nodup_append]at ac;have af:=O (show h.a∉l.aC by grind);obtain⟨pl,ae⟩:=l.ptrV_any;have V:=O ae;unfold ptr Yo at*;clear hs hp ih Xg ab ac;go_enter func237,ntmps237;go_wp2_with fail;rw[←d];obtain⟨W,hW⟩:=Zx (w.alloc (.cells #[.int .u64 n,.int .i64 i] 204));rw[←hW]at Z C0⊢;clear hW d;have S0:=HS.o _ C0.o;have E1:=fun x=>Q4 (Qk (S:=Qb) Z.o (fun h=>h) x);have E2:=fun x=>Ja (Qk (S:=Qb) S0.at'.1 (fun h=>h) x);clear S0 ae;refine Qu [] [0,1,2,3,4] [5,6] [] (Qz (Qb) (W)) Zq (by kernel_rfl) (fun _ _ _ _ _ h=>h) (Qd (by(repeat' (first|(with_reducible first|exact Zg _ _|assumption|refine Zh ?_ _|refine Zi ?_ _|refine Zj ?_|refine Zk ?_ _ ?_|(apply Or.inl;rfl))|(apply Or.inl;simp;done)|(apply Or.inr;simp;first|done|omega))))) ?_;simp only[pick,Zf,Ze,Zd];refine Qg ?_;iterate 5 (refine Ql (fun K B=>?_);go_simp;refine B _ ?_;clear B K)
 refine Qg ?_;intro _ I;obtain⟨xo,z⟩:=I;subst z;simp only[Jd];have c3:=O (Qv Qb W xo);generalize Qz Qb W xo=w3 at c3⊢;clear E1 E2;go_wp2_with fail;refine Zz (u.o _) ?_;intro w4 d4;have c4:=O (c3.o.aA d4);clear d4;go_wp2;refine⟨Qd c4.o,?_⟩;go_wp2;refine⟨Qd c4.o,?_⟩;go_wp2;have K4:=O (c4.o.blk Z.o (fun h=>h));have C4:=O (C0.o.aA c4.o);have S4:=O (HS.o _ C4.o);have E1:=fun x=>Q4 (Qk (S:=Qb) K4.o (fun h=>h) x);have E2:=fun x=>Ja (Qk (S:=Qb) S4.o.at'.1 (fun h=>h) x);rw[V.o]at E2;clear c3 c4;refine Ka [1,2,3,4,5,6,7] [0] [8,9,10,11] (Qz (Qb) (w4)) Zq (by kernel_rfl) (fun _ _ _ _ _ h=>h) (Qd (by(repeat' (first|(with_reducible first|exact Zg _ _|assumption|refine Zh ?_ _|refine Zi ?_ _|refine Zj ?_|refine Zk ?_ _ ?_|(apply Or.inl;rfl))|(apply Or.inl;simp;done)|(apply Or.inr;simp;first|done|omega))))) ?_;simp only[pick,Zf,Ze,Zd];iterate 7 (refine Ql (fun K B=>?_);go_simp;refine B _ ?_;clear B K)
 refine Qg ?_;iterate 1 (refine Ql (fun K B=>?_);go_simp;refine B _ ?_;clear B K)
 refine Qg ?_;intro _ I;obtain⟨xo,z⟩:=I;subst z;have c5:=O (Qv Qb w4 xo);generalize Qz Qb w4 xo=w5 at c5⊢;clear E1 E2;have C5:=O (C4.o.aA c5.o);have S5:=O (HS.o _ C5.o);have R:=IH.o _ S5.o.left;rw[V.o]at R;clear K4 C4 S4 Z C0 c5;go_wp2_with fail;refine R.mono ?_;rintro e w6⟨a,ha,rfl,i6,c6⟩;have B6:=c6.blk S5.o.at'.1 af.o;obtain⟨a0,a1,a2,a3,a4,a5,a6,a7⟩:=Ja B6;have f6:=B6.frozen;have FX:=O (fun w7(e:w7=w6.setCell ⟨h.a,6,none⟩ (l.put n i v a).aH)=>S5.o.setL i6 c6 (fun _ h=>h) (fun k d=>(Rq n i v a l d).elim (fun e=>.inr (e▸ha)) .inl) e);have HA:=O (Zp C5.o.size ha);obtain⟨q,hq⟩:=(l.put n i v a).ptrV_any;rw[hq]at FX⊢;clear i6 c6 B6 ha hq R;go_wp2_with fail;obtain⟨w7,J⟩:=Zx (w6.setCell ⟨h.a,6,none⟩ (.pointer q));rw[←J];obtain⟨i7,c7⟩:=FX.o _ J;have hb:=Ek i7;unfold ptr at hb;clear J a0 a1 a2 a3 a4 a5 a6 a7 f6;refine Zz hb ?_;rintro w8⟨i8,c8⟩;have aa:(Tr.aD h c (l.put n i v a) r).aC=(Tr.aD h c (l.put n i v a) r).aC:=rfl;have U:Qc (fun k=>k∈(Tr.aD h c l r).aC) w w8:=by
  refine Qc.trans (C5.o.none.aA c7) c8 fun k d=>?_;simp only[Tr.aC,Zl,Zu]at d⊢;rcases d with d|rfl|d
  ·rcases Rq n i v a l d with rfl|d;·exact .inr HA.o
   ·exact .inl (.inl d)
  ·exact .inl (.inr (.inl rfl))
  ·exact .inl (.inr (.inr d))
 have HF:=O U;have HI:=O i8;have E:=HP.o a;rw[←E]at HI;rw[←E];clear i8 c8 U i7 c7 hb aa E;go_wp2;go_ret;exact⟨a,HA.o,rfl,HI.o,HF.o⟩
theorem Qu4{w}{b:Nat}{h:Nd}{c:Bool}{l r:Tr}(hs:Kc w b (.aD h c l r))(n:Nat)(i:Int)(v:Nat)(Xg:lt n i h=false)
  (ih:∀w'(ai:Kc w' b r),Cl 237 #[ptr b,r.aH,Yo n i,.int .u64 v] w' fun e w2=>∃a,w'.heap.size≤a∧e=.returned (r.put n i v a).aH∧Kc w2 b (r.put n i v a)∧Qc (fun k=>k∈r.aC) w' w2):
  Cl 237 #[ptr b,.pointer (some ⟨h.a,0,none⟩),Yo n i,.int .u64 v] w fun e w'=>∃a,w.heap.size≤a∧e=.returned (Tr.put n i v a (.aD h c l r)).aH∧Kc w' b (Tr.put n i v a (.aD h c l r))∧Qc (fun k=>k∈(Tr.aD h c l r).aC) w w':=by
 obtain⟨k,d⟩:=Zx (w.heap.size);have hp:∀a,Tr.put n i v a (.aD h c l r)=Gs (.aD h c l (r.put n i v a)):=fun a=>by simp[Tr.put,Xg]
 have HP:=O hp;have Z:=O (Qh.new w #[.int .u64 n,.int .i64 i] 204);have C0:=O ((Zg Qb w).alloc (.cells #[.int .u64 n,.int .i64 i] 204));have HS:=O (fun w'(hc:Qc Qb w w')=>hs.aB hc (fun _ _ h=>h));have u:=O (fun w=>Gu n i h w);rw[Xg]at u;have ah:=O d;have IH:=O ih;have ab:=Jw.lt _ hs.at';have ag:=O (show∀a∈(Tr.aD h c l r).aC,a≠k from fun a ha e=>by have:=ab a ha;omega);simp only[←d]at Z;have ac:=hs.nd;simp only[Tr.aC,List.nodup_cons,Zl,Zu,not_or,List.nodup_append]at ac;have af:=O (show h.a∉r.aC by grind);obtain⟨pl,ae⟩:=r.ptrV_any;have V:=O ae;unfold ptr Yo at*;clear hs hp ih Xg ab ac;go_enter func237,ntmps237;go_wp2_with fail;rw[←d];obtain⟨W,hW⟩:=Zx (w.alloc (.cells #[.int .u64 n,.int .i64 i] 204));rw[←hW]at Z C0⊢;clear hW d;have S0:=HS.o _ C0.o;have E1:=fun x=>Q4 (Qk (S:=Qb) Z.o (fun h=>h) x);have E2:=fun x=>Ja (Qk (S:=Qb) S0.at'.1 (fun h=>h) x);clear S0 ae;refine Qu [] [0,1,2,3,4] [5,6] [] (Qz (Qb) (W)) Zq (by kernel_rfl) (fun _ _ _ _ _ h=>h) (Qd (by(repeat' (first|(with_reducible first|exact Zg _ _|assumption|refine Zh ?_ _|refine Zi ?_ _|refine Zj ?_|refine Zk ?_ _ ?_|(apply Or.inl;rfl))|(apply Or.inl;simp;done)|(apply Or.inr;simp;first|done|omega))))) ?_;simp only[pick,Zf,Ze,Zd];refine Qg ?_;iterate 5 (refine Ql (fun K B=>?_);go_simp;refine B _ ?_;clear B K)
 refine Qg ?_;intro _ I;obtain⟨xo,z⟩:=I;subst z;simp only[Jd];have c3:=O (Qv Qb W xo);generalize Qz Qb W xo=w3 at c3⊢;clear E1 E2;go_wp2_with fail;refine Zz (u.o _) ?_;intro w4 d4;have c4:=O (c3.o.aA d4);clear d4;go_wp2;refine⟨Qd c4.o,?_⟩;go_wp2;refine⟨Qd c4.o,?_⟩;go_wp2;have K4:=O (c4.o.blk Z.o (fun h=>h));have C4:=O (C0.o.aA c4.o);have S4:=O (HS.o _ C4.o);have E1:=fun x=>Q4 (Qk (S:=Qb) K4.o (fun h=>h) x);have E2:=fun x=>Ja (Qk (S:=Qb) S4.o.at'.1 (fun h=>h) x);rw[V.o]at E2;clear c3 c4;refine Ka [1,2,3,4,5,6,7] [0] [8,9,10,11] (Qz (Qb) (w4)) Zq (by kernel_rfl) (fun _ _ _ _ _ h=>h) (Qd (by(repeat' (first|(with_reducible first|exact Zg _ _|assumption|refine Zh ?_ _|refine Zi ?_ _|refine Zj ?_|refine Zk ?_ _ ?_|(apply Or.inl;rfl))|(apply Or.inl;simp;done)|(apply Or.inr;simp;first|done|omega))))) ?_;simp only[pick,Zf,Ze,Zd];iterate 7 (refine Ql (fun K B=>?_);go_simp;refine B _ ?_;clear B K)
 refine Qg ?_;iterate 1 (refine Ql (fun K B=>?_);go_simp;refine B _ ?_;clear B K)
 refine Qg ?_;intro _ I;obtain⟨xo,z⟩:=I;subst z;have c5:=O (Qv Qb w4 xo);generalize Qz Qb w4 xo=w5 at c5⊢;clear E1 E2;have C5:=O (C4.o.aA c5.o);have S5:=O (HS.o _ C5.o);have R:=IH.o _ S5.o.right;rw[V.o]at R;clear K4 C4 S4 Z C0 c5;go_wp2_with fail;refine R.mono ?_;rintro e w6⟨a,ha,rfl,i6,c6⟩;have B6:=c6.blk S5.o.at'.1 af.o;obtain⟨a0,a1,a2,a3,a4,a5,a6,a7⟩:=Ja B6;have f6:=B6.frozen;have FX:=O (fun w7(e:w7=w6.setCell ⟨h.a,7,none⟩ (r.put n i v a).aH)=>S5.o.setR i6 c6 (fun _ h=>h) (fun k d=>(Rq n i v a r d).elim (fun e=>.inr (e▸ha)) .inl) e);have HA:=O (Zp C5.o.size ha);obtain⟨q,hq⟩:=(r.put n i v a).ptrV_any;rw[hq]at FX⊢;clear i6 c6 B6 ha hq R;go_wp2_with fail;obtain⟨w7,J⟩:=Zx (w6.setCell ⟨h.a,7,none⟩ (.pointer q));rw[←J];obtain⟨i7,c7⟩:=FX.o _ J;have hb:=Ek i7;unfold ptr at hb;clear J a0 a1 a2 a3 a4 a5 a6 a7 f6;refine Zz hb ?_;rintro w8⟨i8,c8⟩;have aa:(Tr.aD h c l (r.put n i v a)).aC=(Tr.aD h c l (r.put n i v a)).aC:=rfl;have U:Qc (fun k=>k∈(Tr.aD h c l r).aC) w w8:=by
  refine Qc.trans (C5.o.none.aA c7) c8 fun k d=>?_;simp only[Tr.aC,Zl,Zu]at d⊢;rcases d with d|rfl|d;·exact .inl (.inl d)
  ·exact .inl (.inr (.inl rfl))
  ·rcases Rq n i v a r d with rfl|d;·exact .inr HA.o
   ·exact .inl (.inr (.inr d))
 have HF:=O U;have HI:=O i8;have E:=HP.o a;rw[←E]at HI;rw[←E];clear i8 c8 U i7 c7 hb aa E;go_wp2;go_ret;exact⟨a,HA.o,rfl,HI.o,HF.o⟩
theorem Qas(n:Nat)(i:Int)(v b:Nat):∀(t:Tr)(w)(hs:Kc w b t),Cl 237 #[ptr b,t.aH,Yo n i,.int .u64 v] w fun e w'=>∃a,w.heap.size≤a∧e=.returned (t.put n i v a).aH∧Kc w' b (t.put n i v a)∧Qc (fun k=>k∈t.aC) w w'
 | .nil,w,hs=>(Qr4 hs n i v).mono fun e w'⟨a,h1,q,u,z⟩=>⟨a,h1,q,u,z.none⟩
 | .aD h c l r,w,hs=>by
  cases hl:lt n i h with
  |true=>exact Qu3 hs n i v hl (fun w' d=>Qas n i v b l w' d)
  |false=>exact Qu4 hs n i v hl (fun w' d=>Qas n i v b r w' d)
theorem Qk9{w}{b:Nat}{x y z:Nd}{c cy q:Bool}{yl yr d E:Tr}(hs:Kc w b (.aD x c (.aD y cy yl yr) (.aD z q d E)))(K:d.red=false):
  Cl 245 #[ptr b,ptr x.a] w fun e w'=>e=.returned (ptr x.a)∧Kc w' b (.aD x (!c) (.aD y (!cy) yl yr) (.aD z (!q) d E))∧Qc (fun k=>k∈(Tr.aD x c (.aD y cy yl yr) (.aD z q d E)).aC) w w':=by
 have U:=O (Dc hs);unfold ptr at*;clear hs;go_enter func245,ntmps245;go_wp2_with fail;refine Zy U ?_;rintro w1⟨B,J⟩;have I:=Kf d B.at'.2.2.2.1;rw[K]at I;obtain⟨a0,a1,a2,a3,a4,a5,a6,Z⟩:=Ja B.at'.1;obtain⟨b0,b1,b2,b3,b4,b5,b6,b7⟩:=Ja B.at'.2.2.1;have u:(Tr.aD z (!q) d E).aH=.pointer (some ⟨z.a,0,none⟩):=rfl;rw[u]at Z;have V:=O B;have R:=O (show Qc (fun k=>k∈(Tr.aD x c (.aD y cy yl yr) (.aD z q d E)).aC) w w1 from J.sub fun k hk=>by rcases hk with rfl|rfl|rfl<;>simp[Tr.aC]);clear B J u K;go_wp2_with fail;refine Zz I ?_;rintro w2 rfl;go_wp2;go_ret;exact⟨rfl,V.o,R.o⟩
theorem Qh4{w}{b:Nat}{x y z:Nd}{c cy u:Bool}{yl yr B E:Tr}(hs:Kc w b (.aD x c (.aD y cy yl yr) (.aD z u B E)))(K:yl.red=false):
  Cl 248 #[ptr b,ptr x.a] w fun e w'=>e=.returned (ptr x.a)∧Kc w' b (.aD x (!c) (.aD y (!cy) yl yr) (.aD z (!u) B E))∧Qc (fun k=>k∈(Tr.aD x c (.aD y cy yl yr) (.aD z u B E)).aC) w w':=by
 have U:=O (Dc hs);unfold ptr at*;clear hs;go_enter func248,ntmps248;go_wp2_with fail;refine Zy U ?_;rintro w1⟨q,J⟩;have I:=Kf yl q.at'.2.1.2.1;rw[K]at I;obtain⟨a0,a1,a2,a3,a4,a5,Z,a7⟩:=Ja q.at'.1;obtain⟨b0,b1,b2,b3,b4,b5,b6,b7⟩:=Ja q.at'.2.1.1;have d:(Tr.aD y (!cy) yl yr).aH=.pointer (some ⟨y.a,0,none⟩):=rfl;rw[d]at Z;have V:=O q;have R:=O (show Qc (fun k=>k∈(Tr.aD x c (.aD y cy yl yr) (.aD z u B E)).aC) w w1 from J.sub fun k hk=>by rcases hk with rfl|rfl|rfl<;>simp[Tr.aC]);clear q J d K;go_wp2_with fail;refine Zz I ?_;rintro w2 rfl;go_wp2;go_ret;exact⟨rfl,V.o,R.o⟩
theorem Qla{w}{b:Nat}{x y z u:Nd}{c cy R:Bool}{yl yr q B U:Tr}(hs:Kc w b (.aD x c (.aD y cy yl yr) (.aD z R (.aD u true q B) U))):
  Cl 245 #[ptr b,ptr x.a] w fun e w'=>e=.returned (ptr u.a)∧Kc w' b (Cd (Nw (.aD x (!c) (.aD y (!cy) yl yr) (Mp (.aD z (!R) (.aD u true q B) U)))))∧Qc (fun k=>k∈(Tr.aD x c (.aD y cy yl yr) (.aD z R (.aD u true q B) U)).aC) w w':=by
 have HC:=O (Dc hs);unfold ptr at*;clear hs;go_enter func245,ntmps245;go_wp2_with fail;refine Zy HC ?_;rintro w1⟨K,c1⟩;have HI:=Kf (.aD u true q B) K.at'.2.2.2.1;have I:(Tr.aD u true q B).aH=.pointer (some ⟨u.a,0,none⟩):=rfl;have aa:(Tr.aD u true q B).red=true:=rfl;rw[aa,I]at HI;obtain⟨a0,a1,a2,a3,a4,a5,a6,a7⟩:=Ja K.at'.1;obtain⟨b0,b1,b2,b3,b4,b5,b6,b7⟩:=Ja K.at'.2.2.1;have Z:(Tr.aD z (!R) (.aD u true q B) U).aH=.pointer (some ⟨z.a,0,none⟩):=rfl;rw[Z]at a7;rw[I]at b6;have I1:=O K;have HR:=O (Me K.right);have C1:=O (show Qc (fun k=>k∈(Tr.aD x c (.aD y cy yl yr) (.aD z R (.aD u true q B) U)).aC) w w1 from c1.sub fun k d=>by rcases d with rfl|rfl|rfl<;>simp[Tr.aC]);have V:¬(x.a=z.a∨x.a=u.a):=by have:=K.nd;simp only[Tr.aC,List.nodup_cons,Zl,Zu,not_or,List.nodup_append]at this;grind
 have ac:=O V;unfold ptr at*;clear K c1 Z aa I V;go_wp2_with fail;refine Zz HI ?_;rintro w2 rfl;go_wp2_with fail;refine Zy HR ?_;rintro w2⟨i2,c2⟩;have B2:=c2.blk I1.o.at'.1 ac.o;have f2:=B2.frozen;obtain⟨d0,d1,d2,d3,d4,d5,d6,d7⟩:=Ja B2;have FX:=O (fun w3(e:w3=w2.setCell ⟨x.a,7,none⟩ (.pointer (some ⟨u.a,0,none⟩)))=>I1.o.setR i2 c2 (fun k d=>by rcases d with rfl|rfl<;>simp[Tr.aC]) (fun k d=>.inl (by rw[Ey]at d;exact d)) e);clear i2 c2 B2 a0 a1 a2 a3 a4 a5 a6 a7 b0 b1 b2 b3 b4 b5 b6 b7;go_wp2_with fail;obtain⟨w3,J⟩:=Zx (w2.setCell ⟨x.a,7,none⟩ (.pointer (some ⟨u.a,0,none⟩)));rw[←J];obtain⟨i3,c3⟩:=FX.o _ J;have hb:=Qdr i3;unfold ptr at hb;clear J d0 d1 d2 d3 d4 d5 d6 d7 f2;refine Zz hb ?_;rintro w4⟨i4,c4⟩;have E:=Dc i4;unfold ptr at E;go_wp2_with fail;refine Zz E ?_;rintro w5⟨i5,c5⟩;have ab:=O (show Qc (fun k=>k∈(Tr.aD x c (.aD y cy yl yr) (.aD z R (.aD u true q B) U)).aC) w w5 from((C1.o.aA (c3.sub fun k d=>d)).aA (c4.sub fun k d=>by rcases d with rfl|rfl<;>simp[Tr.aC,Nd.re])).aA (c5.sub fun k d=>by rcases d with rfl|rfl|rfl<;>simp[Tr.aC,Nd.re]));have I5:=O i5;clear i3 c3 i4 c4 i5 c5 hb E;go_wp2;go_ret;exact⟨rfl,I5.o,ab.o⟩
theorem Qh5{w}{b:Nat}{x y z u:Nd}{c cy I:Bool}{d q yr V Z:Tr}(hs:Kc w b (.aD x c (.aD y cy (.aD u true d q) yr) (.aD z I V Z))):
  Cl 248 #[ptr b,ptr x.a] w fun e w'=>e=.returned (ptr y.a)∧Kc w' b (Cd (Mp (.aD x (!c) (.aD y (!cy) (.aD u true d q) yr) (.aD z (!I) V Z))))∧Qc (fun k=>k∈(Tr.aD x c (.aD y cy (.aD u true d q) yr) (.aD z I V Z)).aC) w w':=by
 have HC:=O (Dc hs);unfold ptr at*;clear hs;go_enter func248,ntmps248;go_wp2_with fail;refine Zy HC ?_;rintro w1⟨U,c1⟩;have HI:=Kf (.aD u true d q) U.at'.2.1.2.1;have E:(Tr.aD u true d q).aH=.pointer (some ⟨u.a,0,none⟩):=rfl;have R:(Tr.aD u true d q).red=true:=rfl;rw[R,E]at HI;obtain⟨a0,a1,a2,a3,a4,a5,a6,a7⟩:=Ja U.at'.1;obtain⟨b0,b1,b2,b3,b4,b5,b6,b7⟩:=Ja U.at'.2.1.1;have K:(Tr.aD y (!cy) (.aD u true d q) yr).aH=.pointer (some ⟨y.a,0,none⟩):=rfl;rw[K]at a6;rw[E]at b6;have HR:=O (Me U);have C1:=O (show Qc (fun k=>k∈(Tr.aD x c (.aD y cy (.aD u true d q) yr) (.aD z I V Z)).aC) w w1 from c1.sub fun k J=>by rcases J with rfl|rfl|rfl<;>simp[Tr.aC]);unfold ptr at*;clear U c1 K R E;go_wp2_with fail;refine Zz HI ?_;rintro w2 rfl;go_wp2_with fail;refine Zy HR ?_;rintro w4⟨i4,c4⟩;have B:=Dc i4;unfold ptr at B;clear a0 a1 a2 a3 a4 a5 a6 a7 b0 b1 b2 b3 b4 b5 b6 b7;go_wp2_with fail;refine Zz B ?_;rintro w5⟨i5,c5⟩;have aa:=O (show Qc (fun k=>k∈(Tr.aD x c (.aD y cy (.aD u true d q) yr) (.aD z I V Z)).aC) w w5 from(C1.o.aA (c4.sub fun k J=>by rcases J with rfl|rfl<;>simp[Tr.aC])).aA (c5.sub fun k J=>by rcases J with rfl|rfl|rfl<;>simp[Tr.aC,Nd.re]));have I5:=O i5;clear i4 c4 i5 c5 B;go_wp2;go_ret;exact⟨rfl,I5.o,aa.o⟩
inductive Fl:Tr→Tr→Prop
 |no (x:Nd) (c:Bool) (l r:Tr):(l.red||l.left.red)=true→Fl (.aD x c l r) (.aD x c l r)
 |A (x y z:Nd) (yl yr zl zr:Tr):yl.red=false→zl.red=false→Fl (.aD x true (.aD y false yl yr) (.aD z false zl zr)) (.aD x false (.aD y true yl yr) (.aD z true zl zr))
 |B (x y z u:Nd) (yl yr ul ur zr:Tr):yl.red=false→Fl (.aD x true (.aD y false yl yr) (.aD z false (.aD u true ul ur) zr)) (.aD (u.re (mk x true (.aD y true yl yr) ul) (mk z true ur zr)) true (mk x false (.aD y true yl yr) ul) (mk z false ur zr))
theorem Fl.aC{t c:Tr}(h:Fl t c):c.aC=t.aC:=by
 cases h with
 |no=>rfl
 |A=>simp[Tr.aC]
 |B=>simp[Tr.aC,mk,Nd.re]
theorem Tf{w}{b:Nat}{x:Nd}{c:Bool}{l r d:Tr}(E:Fl (.aD x c l r) d)(hc:(l.red||l.left.red)=false)(hs:Kc w b (.aD x c l r)):
  Cl 245 #[ptr b,ptr x.a] w fun e w'=>e=.returned d.aH∧Kc w' b d∧Qc (fun k=>k∈(Tr.aD x c l r).aC) w w':=by
 cases E with
 |no _ _ _ _ h=>rw[h]at hc;cases hc
 |A _ y z yl yr R I h1 q=>exact Qk9 hs q
 |B _ y z u yl yr J K I h1=>exact Qla hs
inductive Bu:Tr→Tr→Prop
 |no (x:Nd) (c:Bool) (l r:Tr):l.red=false→Bu (.aD x c l r) (.aD x c l r)
 |up (x y:Nd) (c:Bool) (yl yr r:Tr):Bu (.aD x c (.aD y true yl yr) r) (.aD (y.re yl (mk x true yr r)) c yl (mk x true yr r))
inductive Tq:Tr→Tr→Prop
 |no (x:Nd) (c:Bool) (l r:Tr):(r.red||r.left.red)=true→Tq (.aD x c l r) (.aD x c l r)
 |A (x y z:Nd) (yl yr zl zr:Tr):yl.red=false→zl.red=false→Tq (.aD x true (.aD y false yl yr) (.aD z false zl zr)) (.aD x false (.aD y true yl yr) (.aD z true zl zr))
 |B (x y z u:Nd) (ul ur yr zl zr:Tr):zl.red=false→Tq (.aD x true (.aD y false (.aD u true ul ur) yr) (.aD z false zl zr)) (.aD (y.re (.aD u true ul ur) (mk x true yr (.aD z true zl zr))) true (.aD u false ul ur) (mk x false yr (.aD z true zl zr)))
theorem Bu.aC{t c:Tr}(h:Bu t c):c.aC=t.aC:=by
 cases h with
 |no=>rfl
 |up=>simp[Tr.aC,mk,Nd.re]
theorem Tq.aC{t c:Tr}(h:Tq t c):c.aC=t.aC:=by
 cases h with
 |no=>rfl
 |A=>simp[Tr.aC]
 |B=>simp[Tr.aC,mk,Nd.re]
theorem Qh6{w}{b:Nat}{x:Nd}{c:Bool}{l r d:Tr}(q:Bu (.aD x c l r) d)(hc:l.red=true)(hs:Kc w b (.aD x c l r)):
  Cl 247 #[ptr b,ptr x.a] w fun e w'=>e=.returned d.aH∧Kc w' b d∧Qc (fun k=>k∈(Tr.aD x c l r).aC) w w':=by
 have h:=Qds hs hc;cases q with
 |no _ _ _ _ h=>rw[h]at hc;cases hc
 |up _ y _ yl yr _=>exact h
theorem Qat{w}{b:Nat}{x:Nd}{c:Bool}{l r d:Tr}(q:Tq (.aD x c l r) d)(hc:(r.red||r.left.red)=false)(hs:Kc w b (.aD x c l r)):
  Cl 248 #[ptr b,ptr x.a] w fun e w'=>e=.returned d.aH∧Kc w' b d∧Qc (fun k=>k∈(Tr.aD x c l r).aC) w w':=by
 cases q with
 |no _ _ _ _ h=>rw[h]at hc;cases hc
 |A _ y z yl yr E I h1 J=>exact Qh4 hs h1
 |B _ y z u K R yr E I h1=>exact Qh5 hs
end
end Go.Proofs.YtnnhmpehkbihnaaGreat
