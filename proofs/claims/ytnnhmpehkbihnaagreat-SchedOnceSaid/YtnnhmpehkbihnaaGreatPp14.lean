/- A part of the proof: no condition. -/
import Derived.Test.YtnnhmpehkbihnaaGreatPp13
import Derived.Laws.StructEq
namespace Go.Proofs.YtnnhmpehkbihnaaGreat
set_option linter.unusedVariables false
set_option maxRecDepth 100000
set_option maxHeartbeats 4000000
open Go.RowKit
open Go.Proofs.Tryz
section
def Xm.curvesB(s:Xm):Bool:=decide s.real.May&&(decide s.share.May&&decide s.upper.May)
def Xm.sharedB(s:Xm):Bool:=s.share.goes&&(s.upper.goes&&(s.upper.none||!s.share.none))
def Xm.mayE(s:Xm):Int:=if s.named=false then 130 else if s.curvesB=false then 30 else if s.shapedB s.leaf=false then 130 else if s.sharedB=false then 130 else if s.under=false then 130 else 0
theorem Qzg(w:World):(Instr.index 236 (.agg #[.func (.func 179) #[] #[],.int .i64 130,.func (.func 180) #[] #[],.int .i64 30,.func (.func 181) #[] #[],.int .i64 130,.func (.func 182) #[] #[],.int .i64 130,.func (.func 183) #[] #[],.int .i64 130]) (.int .i64 0)).run prog w=.ok (.agg #[.func (.func 179) #[] #[],.int .i64 130]) w:=by kernel_rfl
theorem Qzh(w:World):(Instr.index 236 (.agg #[.func (.func 179) #[] #[],.int .i64 130,.func (.func 180) #[] #[],.int .i64 30,.func (.func 181) #[] #[],.int .i64 130,.func (.func 182) #[] #[],.int .i64 130,.func (.func 183) #[] #[],.int .i64 130]) (.int .i64 1)).run prog w=.ok (.agg #[.func (.func 180) #[] #[],.int .i64 30]) w:=by kernel_rfl
theorem Qzi(w:World):(Instr.index 236 (.agg #[.func (.func 179) #[] #[],.int .i64 130,.func (.func 180) #[] #[],.int .i64 30,.func (.func 181) #[] #[],.int .i64 130,.func (.func 182) #[] #[],.int .i64 130,.func (.func 183) #[] #[],.int .i64 130]) (.int .i64 2)).run prog w=.ok (.agg #[.func (.func 181) #[] #[],.int .i64 130]) w:=by kernel_rfl
theorem Qzj(w:World):(Instr.index 236 (.agg #[.func (.func 179) #[] #[],.int .i64 130,.func (.func 180) #[] #[],.int .i64 30,.func (.func 181) #[] #[],.int .i64 130,.func (.func 182) #[] #[],.int .i64 130,.func (.func 183) #[] #[],.int .i64 130]) (.int .i64 3)).run prog w=.ok (.agg #[.func (.func 182) #[] #[],.int .i64 130]) w:=by kernel_rfl
theorem Qzk(w:World):(Instr.index 236 (.agg #[.func (.func 179) #[] #[],.int .i64 130,.func (.func 180) #[] #[],.int .i64 30,.func (.func 181) #[] #[],.int .i64 130,.func (.func 182) #[] #[],.int .i64 130,.func (.func 183) #[] #[],.int .i64 130]) (.int .i64 4)).run prog w=.ok (.agg #[.func (.func 183) #[] #[],.int .i64 130]) w:=by kernel_rfl
attribute [local go_sem] Qzg Qzh Qzi Qzj Qzk
theorem Qjo(s:Xm)(w:World):Cl 121 #[.agg #[.int .i64 s.id,.int .i64 s.par,.bool s.leaf,.int .u64 (s.real.f:Int),.int .u64 (s.real.l:Int),.int .u64 (s.real.r:Int),.int .u64 (s.share.f:Int),.int .u64 (s.share.l:Int),.int .u64 (s.share.r:Int),.int .u64 (s.upper.f:Int),.int .u64 (s.upper.l:Int),.int .u64 (s.upper.r:Int),.int .i64 s.pk,.int .i64 s.bt]] w fun e w'=>e=.returned (.int .i64 s.mayE)∧Qc Qb w w':=by
 have S0:=O (J0.new w s);have C0:=O ((Qc.refl Qb w).alloc (.cells #[.int .i64 s.id,.int .i64 s.par,.bool s.leaf,.int .u64 (s.real.f:Int),.int .u64 (s.real.l:Int),.int .u64 (s.real.r:Int),.int .u64 (s.share.f:Int),.int .u64 (s.share.l:Int),.int .u64 (s.share.r:Int),.int .u64 (s.upper.f:Int),.int .u64 (s.upper.l:Int),.int .u64 (s.upper.r:Int),.int .i64 s.pk,.int .i64 s.bt] 40));have H1:=O (Qp6 s);have H2:=O (Qnb s);have H3:=O (Qnd s);have H4:=O (Qnc s);have hM:s.mayE=if s.named=false then 130 else if s.curvesB=false then 30 else if s.shapedB s.leaf=false then 130 else if s.sharedB=false then 130 else if s.under=false then 130 else 0:=rfl;have hc:s.curvesB=(decide s.real.May&&(decide s.share.May&&decide s.upper.May)):=rfl;have hs:s.sharedB=(s.share.goes&&(s.upper.goes&&(s.upper.none||!s.share.none))):=rfl;have H5:s.curvesB=true→Hid (∀w,Cl 183 #[.agg #[.int .i64 s.id,.int .i64 s.par,.bool s.leaf,.int .u64 (s.real.f:Int),.int .u64 (s.real.l:Int),.int .u64 (s.real.r:Int),.int .u64 (s.share.f:Int),.int .u64 (s.share.l:Int),.int .u64 (s.share.r:Int),.int .u64 (s.upper.f:Int),.int .u64 (s.upper.l:Int),.int .u64 (s.upper.r:Int),.int .i64 s.pk,.int .i64 s.bt]] w fun e w'=>e=.returned (.bool s.under)∧Qc Qb w w'):=fun h=>by rw[hc]at h;simp only[Bool.and_eq_true,decide_eq_true_eq]at h;exact O (Qqb s h.1 h.2.2)
 rw[←hc]at H2;rw[←hs]at H4;rw[hM];clear hc hs hM;generalize s.named=x1 at H1⊢;generalize s.curvesB=x2 at H2 H5⊢;generalize s.shapedB s.leaf=x3 at H3⊢;generalize s.sharedB=x4 at H4⊢;cases x1 with
 |false=> clear H5;obtain⟨z,a1,B,K,R,E,u,J,I,U,d,c,q,k⟩:=S0.out.cells;go_enter func121,ntmps121;go_wp2;refine wp_loop_rounds 1 ?_;rw[rounds_succ];go_wp2_with fail;refine(H1.out _).mono ?_;rintro e w1⟨rfl,V⟩;have q1:=V.blk (Qh.new (w.alloc (.cells #[.int .i64 s.id,.int .i64 s.par,.bool s.leaf,.int .u64 (s.real.f:Int),.int .u64 (s.real.l:Int),.int .u64 (s.real.r:Int),.int .u64 (s.share.f:Int),.int .u64 (s.share.l:Int),.int .u64 (s.share.r:Int),.int .u64 (s.upper.f:Int),.int .u64 (s.upper.l:Int),.int .u64 (s.upper.r:Int),.int .i64 s.pk,.int .i64 s.bt] 40)) #[.func (.func 179) #[] #[],.int .i64 130] 235) (fun h=>h);have r1:=q1.cell 1;simp at r1;replace V:=((Qc.refl Qb (w.alloc (.cells #[.int .i64 s.id,.int .i64 s.par,.bool s.leaf,.int .u64 (s.real.f:Int),.int .u64 (s.real.l:Int),.int .u64 (s.real.r:Int),.int .u64 (s.share.f:Int),.int .u64 (s.share.l:Int),.int .u64 (s.share.r:Int),.int .u64 (s.upper.f:Int),.int .u64 (s.upper.l:Int),.int .u64 (s.upper.r:Int),.int .i64 s.pk,.int .i64 s.bt] 40))).alloc (.cells #[.func (.func 179) #[] #[],.int .i64 130] 235)).trans' V;have S1:=O (S0.out.keep V);have C1:=O (C0.out.trans' V);clear V q1 z a1 B K R E u J I U d c q k;obtain⟨z,a1,B,K,R,E,u,J,I,U,d,c,q,k⟩:=S1.out.cells;have z1:=Qh.lt S1.out;go_wp2;go_ret;exact⟨rfl,C1.out⟩
 |true=>
  cases x2 with
  |false=> clear H5;obtain⟨z,a1,B,K,R,E,u,J,I,U,d,c,q,k⟩:=S0.out.cells;go_enter func121,ntmps121;go_wp2;refine wp_loop_rounds 2 ?_;rw[rounds_succ];go_wp2_with fail;refine(H1.out _).mono ?_;rintro e w1⟨rfl,V⟩;have q1:=V.blk (Qh.new (w.alloc (.cells #[.int .i64 s.id,.int .i64 s.par,.bool s.leaf,.int .u64 (s.real.f:Int),.int .u64 (s.real.l:Int),.int .u64 (s.real.r:Int),.int .u64 (s.share.f:Int),.int .u64 (s.share.l:Int),.int .u64 (s.share.r:Int),.int .u64 (s.upper.f:Int),.int .u64 (s.upper.l:Int),.int .u64 (s.upper.r:Int),.int .i64 s.pk,.int .i64 s.bt] 40)) #[.func (.func 179) #[] #[],.int .i64 130] 235) (fun h=>h);have r1:=q1.cell 1;simp at r1;replace V:=((Qc.refl Qb (w.alloc (.cells #[.int .i64 s.id,.int .i64 s.par,.bool s.leaf,.int .u64 (s.real.f:Int),.int .u64 (s.real.l:Int),.int .u64 (s.real.r:Int),.int .u64 (s.share.f:Int),.int .u64 (s.share.l:Int),.int .u64 (s.share.r:Int),.int .u64 (s.upper.f:Int),.int .u64 (s.upper.l:Int),.int .u64 (s.upper.r:Int),.int .i64 s.pk,.int .i64 s.bt] 40))).alloc (.cells #[.func (.func 179) #[] #[],.int .i64 130] 235)).trans' V;have S1:=O (S0.out.keep V);have C1:=O (C0.out.trans' V);clear V q1 z a1 B K R E u J I U d c q k;obtain⟨z,a1,B,K,R,E,u,J,I,U,d,c,q,k⟩:=S1.out.cells;have z1:=Qh.lt S1.out;go_wp2;clear r1;rw[rounds_succ];go_wp2_with fail;refine(H2.out _).mono ?_;rintro e w2⟨rfl,Z⟩;have q2:=Z.blk (Qh.new w1 #[.func (.func 180) #[] #[],.int .i64 30] 235) (fun h=>h);have r2:=q2.cell 1;simp at r2;replace Z:=((Qc.refl Qb w1).alloc (.cells #[.func (.func 180) #[] #[],.int .i64 30] 235)).trans' Z;have S2:=O (S1.out.keep Z);have C2:=O (C1.out.trans' Z);clear Z q2 z a1 B K R E u J I U d c q k;obtain⟨z,a1,B,K,R,E,u,J,I,U,d,c,q,k⟩:=S2.out.cells;have z2:=Qh.lt S2.out;clear z1;go_wp2;go_ret;exact⟨rfl,C2.out⟩
  |true=>
   replace H5:=H5 rfl;generalize s.under=x5 at H5⊢;cases x3 with
   |false=> obtain⟨z,a1,B,K,R,E,u,J,I,U,d,c,q,k⟩:=S0.out.cells;go_enter func121,ntmps121;go_wp2;refine wp_loop_rounds 3 ?_;rw[rounds_succ];go_wp2_with fail;refine(H1.out _).mono ?_;rintro e w1⟨rfl,V⟩;have q1:=V.blk (Qh.new (w.alloc (.cells #[.int .i64 s.id,.int .i64 s.par,.bool s.leaf,.int .u64 (s.real.f:Int),.int .u64 (s.real.l:Int),.int .u64 (s.real.r:Int),.int .u64 (s.share.f:Int),.int .u64 (s.share.l:Int),.int .u64 (s.share.r:Int),.int .u64 (s.upper.f:Int),.int .u64 (s.upper.l:Int),.int .u64 (s.upper.r:Int),.int .i64 s.pk,.int .i64 s.bt] 40)) #[.func (.func 179) #[] #[],.int .i64 130] 235) (fun h=>h);have r1:=q1.cell 1;simp at r1;replace V:=((Qc.refl Qb (w.alloc (.cells #[.int .i64 s.id,.int .i64 s.par,.bool s.leaf,.int .u64 (s.real.f:Int),.int .u64 (s.real.l:Int),.int .u64 (s.real.r:Int),.int .u64 (s.share.f:Int),.int .u64 (s.share.l:Int),.int .u64 (s.share.r:Int),.int .u64 (s.upper.f:Int),.int .u64 (s.upper.l:Int),.int .u64 (s.upper.r:Int),.int .i64 s.pk,.int .i64 s.bt] 40))).alloc (.cells #[.func (.func 179) #[] #[],.int .i64 130] 235)).trans' V;have S1:=O (S0.out.keep V);have C1:=O (C0.out.trans' V);clear V q1 z a1 B K R E u J I U d c q k;obtain⟨z,a1,B,K,R,E,u,J,I,U,d,c,q,k⟩:=S1.out.cells;have z1:=Qh.lt S1.out;go_wp2;clear r1;rw[rounds_succ];go_wp2_with fail;refine(H2.out _).mono ?_;rintro e w2⟨rfl,Z⟩;have q2:=Z.blk (Qh.new w1 #[.func (.func 180) #[] #[],.int .i64 30] 235) (fun h=>h);have r2:=q2.cell 1;simp at r2;replace Z:=((Qc.refl Qb w1).alloc (.cells #[.func (.func 180) #[] #[],.int .i64 30] 235)).trans' Z;have S2:=O (S1.out.keep Z);have C2:=O (C1.out.trans' Z);clear Z q2 z a1 B K R E u J I U d c q k;obtain⟨z,a1,B,K,R,E,u,J,I,U,d,c,q,k⟩:=S2.out.cells;have z2:=Qh.lt S2.out;clear z1;go_wp2;clear r2;rw[rounds_succ];go_wp2_with fail;refine(H3.out _).mono ?_;rintro e w3⟨rfl,c3⟩;have q3:=c3.blk (Qh.new w2 #[.func (.func 181) #[] #[],.int .i64 130] 235) (fun h=>h);have r3:=q3.cell 1;simp at r3;replace c3:=((Qc.refl Qb w2).alloc (.cells #[.func (.func 181) #[] #[],.int .i64 130] 235)).trans' c3;have S3:=O (S2.out.keep c3);have C3:=O (C2.out.trans' c3);clear c3 q3 z a1 B K R E u J I U d c q k;obtain⟨z,a1,B,K,R,E,u,J,I,U,d,c,q,k⟩:=S3.out.cells;have z3:=Qh.lt S3.out;clear z2;go_wp2;go_ret;exact⟨rfl,C3.out⟩
   |true=>
    cases x4 with
    |false=> obtain⟨z,a1,B,K,R,E,u,J,I,U,d,c,q,k⟩:=S0.out.cells;go_enter func121,ntmps121;go_wp2;refine wp_loop_rounds 4 ?_;rw[rounds_succ];go_wp2_with fail;refine(H1.out _).mono ?_;rintro e w1⟨rfl,V⟩;have q1:=V.blk (Qh.new (w.alloc (.cells #[.int .i64 s.id,.int .i64 s.par,.bool s.leaf,.int .u64 (s.real.f:Int),.int .u64 (s.real.l:Int),.int .u64 (s.real.r:Int),.int .u64 (s.share.f:Int),.int .u64 (s.share.l:Int),.int .u64 (s.share.r:Int),.int .u64 (s.upper.f:Int),.int .u64 (s.upper.l:Int),.int .u64 (s.upper.r:Int),.int .i64 s.pk,.int .i64 s.bt] 40)) #[.func (.func 179) #[] #[],.int .i64 130] 235) (fun h=>h);have r1:=q1.cell 1;simp at r1;replace V:=((Qc.refl Qb (w.alloc (.cells #[.int .i64 s.id,.int .i64 s.par,.bool s.leaf,.int .u64 (s.real.f:Int),.int .u64 (s.real.l:Int),.int .u64 (s.real.r:Int),.int .u64 (s.share.f:Int),.int .u64 (s.share.l:Int),.int .u64 (s.share.r:Int),.int .u64 (s.upper.f:Int),.int .u64 (s.upper.l:Int),.int .u64 (s.upper.r:Int),.int .i64 s.pk,.int .i64 s.bt] 40))).alloc (.cells #[.func (.func 179) #[] #[],.int .i64 130] 235)).trans' V;have S1:=O (S0.out.keep V);have C1:=O (C0.out.trans' V);clear V q1 z a1 B K R E u J I U d c q k;obtain⟨z,a1,B,K,R,E,u,J,I,U,d,c,q,k⟩:=S1.out.cells;have z1:=Qh.lt S1.out;go_wp2;clear r1;rw[rounds_succ];go_wp2_with fail;refine(H2.out _).mono ?_;rintro e w2⟨rfl,Z⟩;have q2:=Z.blk (Qh.new w1 #[.func (.func 180) #[] #[],.int .i64 30] 235) (fun h=>h);have r2:=q2.cell 1;simp at r2;replace Z:=((Qc.refl Qb w1).alloc (.cells #[.func (.func 180) #[] #[],.int .i64 30] 235)).trans' Z;have S2:=O (S1.out.keep Z);have C2:=O (C1.out.trans' Z);clear Z q2 z a1 B K R E u J I U d c q k;obtain⟨z,a1,B,K,R,E,u,J,I,U,d,c,q,k⟩:=S2.out.cells;have z2:=Qh.lt S2.out;clear z1;go_wp2;clear r2;rw[rounds_succ];go_wp2_with fail;refine(H3.out _).mono ?_;rintro e w3⟨rfl,c3⟩;have q3:=c3.blk (Qh.new w2 #[.func (.func 181) #[] #[],.int .i64 130] 235) (fun h=>h);have r3:=q3.cell 1;simp at r3;replace c3:=((Qc.refl Qb w2).alloc (.cells #[.func (.func 181) #[] #[],.int .i64 130] 235)).trans' c3;have S3:=O (S2.out.keep c3);have C3:=O (C2.out.trans' c3);clear c3 q3 z a1 B K R E u J I U d c q k;obtain⟨z,a1,B,K,R,E,u,J,I,U,d,c,q,k⟩:=S3.out.cells;have z3:=Qh.lt S3.out;clear z2;go_wp2;clear r3;rw[rounds_succ];go_wp2_with fail;refine(H4.out _).mono ?_;rintro e w4⟨rfl,c4⟩;have q4:=c4.blk (Qh.new w3 #[.func (.func 182) #[] #[],.int .i64 130] 235) (fun h=>h);have r4:=q4.cell 1;simp at r4;replace c4:=((Qc.refl Qb w3).alloc (.cells #[.func (.func 182) #[] #[],.int .i64 130] 235)).trans' c4;have S4:=O (S3.out.keep c4);have C4:=O (C3.out.trans' c4);clear c4 q4 z a1 B K R E u J I U d c q k;obtain⟨z,a1,B,K,R,E,u,J,I,U,d,c,q,k⟩:=S4.out.cells;have z4:=Qh.lt S4.out;clear z3;go_wp2;go_ret;exact⟨rfl,C4.out⟩
    |true=>
     cases x5 with
     |false=> obtain⟨z,a1,B,K,R,E,u,J,I,U,d,c,q,k⟩:=S0.out.cells;go_enter func121,ntmps121;go_wp2;refine wp_loop_rounds 5 ?_;rw[rounds_succ];go_wp2_with fail;refine(H1.out _).mono ?_;rintro e w1⟨rfl,V⟩;have q1:=V.blk (Qh.new (w.alloc (.cells #[.int .i64 s.id,.int .i64 s.par,.bool s.leaf,.int .u64 (s.real.f:Int),.int .u64 (s.real.l:Int),.int .u64 (s.real.r:Int),.int .u64 (s.share.f:Int),.int .u64 (s.share.l:Int),.int .u64 (s.share.r:Int),.int .u64 (s.upper.f:Int),.int .u64 (s.upper.l:Int),.int .u64 (s.upper.r:Int),.int .i64 s.pk,.int .i64 s.bt] 40)) #[.func (.func 179) #[] #[],.int .i64 130] 235) (fun h=>h);have r1:=q1.cell 1;simp at r1;replace V:=((Qc.refl Qb (w.alloc (.cells #[.int .i64 s.id,.int .i64 s.par,.bool s.leaf,.int .u64 (s.real.f:Int),.int .u64 (s.real.l:Int),.int .u64 (s.real.r:Int),.int .u64 (s.share.f:Int),.int .u64 (s.share.l:Int),.int .u64 (s.share.r:Int),.int .u64 (s.upper.f:Int),.int .u64 (s.upper.l:Int),.int .u64 (s.upper.r:Int),.int .i64 s.pk,.int .i64 s.bt] 40))).alloc (.cells #[.func (.func 179) #[] #[],.int .i64 130] 235)).trans' V;have S1:=O (S0.out.keep V);have C1:=O (C0.out.trans' V);clear V q1 z a1 B K R E u J I U d c q k;obtain⟨z,a1,B,K,R,E,u,J,I,U,d,c,q,k⟩:=S1.out.cells;have z1:=Qh.lt S1.out;go_wp2;clear r1;rw[rounds_succ];go_wp2_with fail;refine(H2.out _).mono ?_;rintro e w2⟨rfl,Z⟩;have q2:=Z.blk (Qh.new w1 #[.func (.func 180) #[] #[],.int .i64 30] 235) (fun h=>h);have r2:=q2.cell 1;simp at r2;replace Z:=((Qc.refl Qb w1).alloc (.cells #[.func (.func 180) #[] #[],.int .i64 30] 235)).trans' Z;have S2:=O (S1.out.keep Z);have C2:=O (C1.out.trans' Z);clear Z q2 z a1 B K R E u J I U d c q k;obtain⟨z,a1,B,K,R,E,u,J,I,U,d,c,q,k⟩:=S2.out.cells;have z2:=Qh.lt S2.out;clear z1;go_wp2;clear r2;rw[rounds_succ];go_wp2_with fail;refine(H3.out _).mono ?_;rintro e w3⟨rfl,c3⟩;have q3:=c3.blk (Qh.new w2 #[.func (.func 181) #[] #[],.int .i64 130] 235) (fun h=>h);have r3:=q3.cell 1;simp at r3;replace c3:=((Qc.refl Qb w2).alloc (.cells #[.func (.func 181) #[] #[],.int .i64 130] 235)).trans' c3;have S3:=O (S2.out.keep c3);have C3:=O (C2.out.trans' c3);clear c3 q3 z a1 B K R E u J I U d c q k;obtain⟨z,a1,B,K,R,E,u,J,I,U,d,c,q,k⟩:=S3.out.cells;have z3:=Qh.lt S3.out;clear z2;go_wp2;clear r3;rw[rounds_succ];go_wp2_with fail;refine(H4.out _).mono ?_;rintro e w4⟨rfl,c4⟩;have q4:=c4.blk (Qh.new w3 #[.func (.func 182) #[] #[],.int .i64 130] 235) (fun h=>h);have r4:=q4.cell 1;simp at r4;replace c4:=((Qc.refl Qb w3).alloc (.cells #[.func (.func 182) #[] #[],.int .i64 130] 235)).trans' c4;have S4:=O (S3.out.keep c4);have C4:=O (C3.out.trans' c4);clear c4 q4 z a1 B K R E u J I U d c q k;obtain⟨z,a1,B,K,R,E,u,J,I,U,d,c,q,k⟩:=S4.out.cells;have z4:=Qh.lt S4.out;clear z3;go_wp2;clear r4;rw[rounds_succ];go_wp2_with fail;refine(H5.out _).mono ?_;rintro e w5⟨rfl,c5⟩;have q5:=c5.blk (Qh.new w4 #[.func (.func 183) #[] #[],.int .i64 130] 235) (fun h=>h);have r5:=q5.cell 1;simp at r5;replace c5:=((Qc.refl Qb w4).alloc (.cells #[.func (.func 183) #[] #[],.int .i64 130] 235)).trans' c5;have S5:=O (S4.out.keep c5);have C5:=O (C4.out.trans' c5);clear c5 q5 z a1 B K R E u J I U d c q k;obtain⟨z,a1,B,K,R,E,u,J,I,U,d,c,q,k⟩:=S5.out.cells;have z5:=Qh.lt S5.out;clear z4;go_wp2;go_ret;exact⟨rfl,C5.out⟩
     |true=> obtain⟨z,a1,B,K,R,E,u,J,I,U,d,c,q,k⟩:=S0.out.cells;go_enter func121,ntmps121;go_wp2;refine wp_loop_rounds 6 ?_;rw[rounds_succ];go_wp2_with fail;refine(H1.out _).mono ?_;rintro e w1⟨rfl,V⟩;have q1:=V.blk (Qh.new (w.alloc (.cells #[.int .i64 s.id,.int .i64 s.par,.bool s.leaf,.int .u64 (s.real.f:Int),.int .u64 (s.real.l:Int),.int .u64 (s.real.r:Int),.int .u64 (s.share.f:Int),.int .u64 (s.share.l:Int),.int .u64 (s.share.r:Int),.int .u64 (s.upper.f:Int),.int .u64 (s.upper.l:Int),.int .u64 (s.upper.r:Int),.int .i64 s.pk,.int .i64 s.bt] 40)) #[.func (.func 179) #[] #[],.int .i64 130] 235) (fun h=>h);have r1:=q1.cell 1;simp at r1;replace V:=((Qc.refl Qb (w.alloc (.cells #[.int .i64 s.id,.int .i64 s.par,.bool s.leaf,.int .u64 (s.real.f:Int),.int .u64 (s.real.l:Int),.int .u64 (s.real.r:Int),.int .u64 (s.share.f:Int),.int .u64 (s.share.l:Int),.int .u64 (s.share.r:Int),.int .u64 (s.upper.f:Int),.int .u64 (s.upper.l:Int),.int .u64 (s.upper.r:Int),.int .i64 s.pk,.int .i64 s.bt] 40))).alloc (.cells #[.func (.func 179) #[] #[],.int .i64 130] 235)).trans' V;have S1:=O (S0.out.keep V);have C1:=O (C0.out.trans' V);clear V q1 z a1 B K R E u J I U d c q k;obtain⟨z,a1,B,K,R,E,u,J,I,U,d,c,q,k⟩:=S1.out.cells;have z1:=Qh.lt S1.out;go_wp2;clear r1;rw[rounds_succ];go_wp2_with fail;refine(H2.out _).mono ?_;rintro e w2⟨rfl,Z⟩;have q2:=Z.blk (Qh.new w1 #[.func (.func 180) #[] #[],.int .i64 30] 235) (fun h=>h);have r2:=q2.cell 1;simp at r2;replace Z:=((Qc.refl Qb w1).alloc (.cells #[.func (.func 180) #[] #[],.int .i64 30] 235)).trans' Z;have S2:=O (S1.out.keep Z);have C2:=O (C1.out.trans' Z);clear Z q2 z a1 B K R E u J I U d c q k;obtain⟨z,a1,B,K,R,E,u,J,I,U,d,c,q,k⟩:=S2.out.cells;have z2:=Qh.lt S2.out;clear z1;go_wp2;clear r2;rw[rounds_succ];go_wp2_with fail;refine(H3.out _).mono ?_;rintro e w3⟨rfl,c3⟩;have q3:=c3.blk (Qh.new w2 #[.func (.func 181) #[] #[],.int .i64 130] 235) (fun h=>h);have r3:=q3.cell 1;simp at r3;replace c3:=((Qc.refl Qb w2).alloc (.cells #[.func (.func 181) #[] #[],.int .i64 130] 235)).trans' c3;have S3:=O (S2.out.keep c3);have C3:=O (C2.out.trans' c3);clear c3 q3 z a1 B K R E u J I U d c q k;obtain⟨z,a1,B,K,R,E,u,J,I,U,d,c,q,k⟩:=S3.out.cells;have z3:=Qh.lt S3.out;clear z2;go_wp2;clear r3;rw[rounds_succ];go_wp2_with fail;refine(H4.out _).mono ?_;rintro e w4⟨rfl,c4⟩;have q4:=c4.blk (Qh.new w3 #[.func (.func 182) #[] #[],.int .i64 130] 235) (fun h=>h);have r4:=q4.cell 1;simp at r4;replace c4:=((Qc.refl Qb w3).alloc (.cells #[.func (.func 182) #[] #[],.int .i64 130] 235)).trans' c4;have S4:=O (S3.out.keep c4);have C4:=O (C3.out.trans' c4);clear c4 q4 z a1 B K R E u J I U d c q k;obtain⟨z,a1,B,K,R,E,u,J,I,U,d,c,q,k⟩:=S4.out.cells;have z4:=Qh.lt S4.out;clear z3;go_wp2;clear r4;rw[rounds_succ];go_wp2_with fail;refine(H5.out _).mono ?_;rintro e w5⟨rfl,c5⟩;have q5:=c5.blk (Qh.new w4 #[.func (.func 183) #[] #[],.int .i64 130] 235) (fun h=>h);have r5:=q5.cell 1;simp at r5;replace c5:=((Qc.refl Qb w4).alloc (.cells #[.func (.func 183) #[] #[],.int .i64 130] 235)).trans' c5;have S5:=O (S4.out.keep c5);have C5:=O (C4.out.trans' c5);clear c5 q5 z a1 B K R E u J I U d c q k;obtain⟨z,a1,B,K,R,E,u,J,I,U,d,c,q,k⟩:=S5.out.cells;have z5:=Qh.lt S5.out;clear z4;go_wp2;clear r5;rw[rounds_succ];go_wp2;go_ret;exact⟨rfl,C5.out⟩
end
structure Z4 where
 id:Int
 cls:Int
 len:Int
 at_:Int
def Z4.cells(p:Z4):List Value:=[.int .u64 p.id,.int .i64 p.cls,.int .i64 p.len,.int .u64 p.at_]
theorem Z4.cells_length(p:Z4):p.cells.length=4:=rfl
def Z4.zero:Z4:=⟨0,0,0,0⟩
theorem pktT:Qkf prog Z4.cells 4 27 34 32 Z4.zero where
 ht:=underlying27
 hi:=Lu (by kernel_rfl)
 pos:=by decide
 hc:=Z4.cells_length
 one:=by intro x u c;simp only[Z4.cells,List.mem_cons,List.not_mem_nil,or_false]at c;rcases c with rfl|rfl|rfl|rfl<;>rfl
def Q0:List Z4→Int
 |[]=>0
 |p::l=>p.len+Q0 l
theorem Do(a b:List Z4):Q0 (a++b)=Q0 a+Q0 b:=by
 induction a with
 |nil=>simp[Q0]
 |cons p a c=>simp only[List.cons_append,Q0,c];omega
def Uc(p:Z4):Prop:=1≤p.len∧p.len≤65535
theorem Ku:∀(l:List Z4),(∀p∈l,Uc p)→0≤Q0 l
 |[],_=>by simp[Q0]
 |p::l,h=>by have:=Ku l (fun q c=>h q (by simp[c]));have:=(h p (by simp)).1;simp only[Q0];omega
def Ud(L:List Z4)(f:Nat)(l:List Z4):Prop:=∀i,i<l.length→L[(f+i)%L.length]? =l[i]?
structure Jg(w:World)(b r:Nat)(pk bt:Nat)(l:List Z4):Prop where
 ne:b≠r
 pk1:1≤pk
 pk2:pk≤4096
 bt1:1≤bt
 bt2:bt≤16777216
 many:l.length≤pk
 held:Q0 l≤bt
 good:∀p∈l,Uc p
 ring:∃(L:List Z4)(f:Nat),Qh w b #[.int .i64 (pk:Int),.int .i64 (bt:Int),.slice (some ⟨r,0,none⟩) L.length L.length,.int .i64 (f:Int),.int .i64 (l.length:Int),.int .i64 (Q0 l)] 123∧
  RowBlk Z4.cells w r L 34∧f<L.length∧l.length≤L.length∧L.length≤8192∧Ud L f l
theorem Jg.keep{w w1:World}{b r pk bt:Nat}{l:List Z4}{S:Nat→Prop}(h:Jg w b r pk bt l)(hc:Qc S w w1)(u:¬S b)(hr:¬S r):Jg w1 b r pk bt l:=by obtain⟨h0,h1,q,z,B,d,E,c,L,f,q1,q2,k⟩:=h;exact⟨h0,h1,q,z,B,d,E,c,L,f,hc.blk q1 u,hc.blk q2 hr,k⟩
theorem Jg.lt{w:World}{b r pk bt:Nat}{l:List Z4}(h:Jg w b r pk bt l):b<w.heap.size∧r<w.heap.size:=by obtain⟨_,_,_,_,_,_,_,_,L,f,q1,q2,_⟩:=h;exact⟨q1.lt,q2.lt⟩
theorem Qtz(b:Nat)(n:Int)(w:World)(h0:w.cell? ⟨b,0,none⟩=some (.int .i64 n)):
  Cl 78 #[.pointer (some ⟨b,0,none⟩)] w fun e w'=>e=.returned (.bool (n==0))∧w=w':=by
 go_enter func78,ntmps78;go_wp2;go_ret;exact⟨rfl,rfl⟩
theorem Vg(b:Nat)(n:Int)(w:World)(h0:w.cell? ⟨b,0,none⟩=some (.int .i64 n))(hn:1≤n):
  Cl 78 #[.pointer (some ⟨b,0,none⟩)] w fun e w'=>e=.returned (.bool false)∧w=w':=
 (Qtz b n w h0).mono fun e w'⟨d,c⟩=>⟨by rw[d];congr 2;simp;omega,c⟩
theorem Qba(b:Nat)(f n:Int)(a:Option Addr)(len cap:Nat)(w:World)(u:w.cell? ⟨b,2,none⟩=some (.slice a len cap))(z:w.cell? ⟨b,3,none⟩=some (.int .i64 f))
  (hf:0≤f) (q:f≤10000) (hn:0≤n) (c:n≤10000) (hl:0<len) (d:len≤10000):
  Cl 131 #[.pointer (some ⟨b,0,none⟩),.int .i64 n] w fun e w'=>e=.returned (.int .i64 ((f+n)%len))∧∃k,w'=w.drewN k:=by
 go_enter func131,ntmps131;go_wp2;go_quiet (fail);go_wp2;go_ret;exact⟨rfl,_,rfl⟩
theorem Qne{w:World}{b r pk bt:Nat}{l:List Z4}(h:Jg w b r pk bt l):
  Cl 31 #[.pointer (some ⟨b,0,none⟩)] w fun e w'=>e=.returned (.int .i64 (l.length:Int))∧w=w':=by
 obtain⟨_,p1,k,_,_,_,_,_,L,f,q1,_⟩:=h;have c:=q1.cell 0;have d:=q1.cell 4;simp at c d;have N:=O (Vg b pk w c (by omega));clear q1;go_enter func31,ntmps31;go_wp2_with fail;refine N.out.mono ?_;rintro e w1⟨rfl,rfl⟩;go_wp2;go_ret;exact⟨rfl,rfl⟩
theorem Qqc{w:World}{b r pk bt:Nat}{l:List Z4}(h:Jg w b r pk bt l):
  Cl 32 #[.pointer (some ⟨b,0,none⟩)] w fun e w'=>e=.returned (.int .i64 (Q0 l))∧w=w':=by
 obtain⟨_,p1,k,_,_,_,_,_,L,f,q1,_⟩:=h;have c:=q1.cell 0;have d:=q1.cell 5;simp at c d;have N:=O (Vg b pk w c (by omega));clear q1;go_enter func32,ntmps32;go_wp2_with fail;refine N.out.mono ?_;rintro e w1⟨rfl,rfl⟩;go_wp2;go_ret;exact⟨rfl,rfl⟩
structure Kk where
 sp:Xm
 d:Nat
def Kk.id(c:Kk):Int:=c.sp.id
abbrev Qm:=List Kk
def Qm.at(h:Qm)(id:Int):Option Kk:=h.find? fun c=>decide (c.sp.id=id)
def Qm.under(h:Qm)(id:Int):List Int:=(h.filter fun c=>decide (c.sp.par=id)).map (·.sp.id)
def Qbb(c:Kk):Qm→Qm
 |[]=>[c]
 |x::l=>if c.sp.id<x.sp.id then c::x::l else x::Qbb c l
def Qm.depth(h:Qm)(par:Int):Nat:=if par=0 then 1 else match h.at par with
 |none=>0
 |some p=>if p.sp.leaf||decide (8≤p.d)then 0 else p.d+1
def Qm.addE(h:Qm)(s:Xm):Int:=
 if s.mayE≠0 then 130 else if 64≤h.length then 4 else if(h.at s.id).isSome then 80 else if h.depth s.par=0 then 160 else 0
def Qm.add(h:Qm)(s:Xm):Qm:=if h.addE s=0 then Qbb ⟨s,h.depth s.par⟩ h else h
def Xm.renew(a s:Xm):Xm:={a with real:=s.real,share:=s.share,upper:=s.upper}
def Qm.changeE(h:Qm)(s:Xm):Int:=match h.at s.id with
 |none=>81
 |some c=>if(c.sp.renew s).mayE≠0 then 130 else 0
def Qm.change(h:Qm)(s:Xm):Qm:=if h.changeE s=0 then h.map fun x=>if x.sp.id=s.id then⟨x.sp.renew s,x.d⟩else x else h
def Qm.dropE(h:Qm)(id:Int):Int:=match h.at id with
 |none=>81
 |some _=>if h.under id≠[]then 161 else 0
def Qm.drop(h:Qm)(id:Int):Qm:=if h.dropE id=0 then h.filter fun x=>!decide (x.sp.id=id)else h
def Qm.path(h:Qm):Nat→Int→List Int
 |0,_=>[]
 |n+1,id=>match h.at id with
  |none=>[]
  |some c=>id::h.path n c.sp.par
def Qm.below(h:Qm)(id x:Int):Bool:=decide (id=0)||(h.path 9 x).contains id
def Qm.leaves(h:Qm)(id:Int):List Int:=(h.filter fun c=>c.sp.leaf&&h.below id c.sp.id).map (·.sp.id)
def Gb(n most:Int):Int:=if most<1∨65536≤most then 2 else if n<1∨most<n then 100 else 0
structure Qy where
 id:Int
 pk:Nat
 bt:Nat
 q:List Z4
 debt:Option Jq
structure Qg where
 most:Int
 tree:Qm
 leaves:List Qy
 row:List J6
 pick:Qe
def Qg.new(most:Int):Qg:=⟨most,[],[],[],Qe.new⟩
def Jn(c:Z6):Option Jq:=if c.none then none else some (Jq.new c)
def Xm.shares(s:Xm):Bool:=!s.share.none&&decide s.share.May
def Kq(c:Z6):Yt:=if c.none||!decide c.May then none else some (.new c)
def Qe.put(p:Qe)(s:Xm):Qe:=match p.at s.par with
 |none=>p
 |some q=>if s.id<1||(p.at s.id).isSome||q.leaf then p else
  Qe.set (p++[⟨s.id,s.par,s.leaf,s.shares,0,Kq s.upper,⟨[],0⟩,[],0⟩]) {q with mem:=if s.shares then q.mem.add s.id s.share else q.mem,under:=q.under+1}
def Qe.drop(p:Qe)(id:Int):Qe:=match p.at id with
 |none=>p
 |some c=>if id<1||decide (0<c.under)||p.awake id then p else match p.at c.par with
  |none=>p
  |some q=>(p.set {q with mem:=q.mem.drop id,under:=q.under-1}).filter fun x=>!decide (x.id=id)
def Qe.renew(p:Qe)(s:Xm):Qe:=match p.at s.id with
 |none=>p
 |some c=>if s.id<1||p.awake s.id then p else
  (p.fam s.id fun f=>if s.shares then(f.drop s.id).add s.id s.share else f.drop s.id).map fun x=>if x.id=s.id then{x with shares:=s.shares,total:=0,limit:=Kq s.upper}else x
def Qg.leaf(s:Qg)(id:Int):Option Qy:=s.leaves.find? fun l=>decide (l.id=id)
def Qg.setLeaf(s:Qg)(l:Qy):Qg:={s with leaves:=s.leaves.map fun x=>if x.id=l.id then l else x}
def Qg.qOf(s:Qg)(id:Int):List Z4:=((s.leaf id).map (·.q)).getD []
def Qg.many(s:Qg)(id:Int):Int:=((s.tree.leaves id).map fun x=>((s.qOf x).length:Int)).sum
def Qg.bytes(s:Qg)(id:Int):Int:=((s.tree.leaves id).map fun x=>Q0 (s.qOf x)).sum
def Qg.addE(s:Qg)(c:Xm):Int:=s.tree.addE c
def Qg.add(s:Qg)(c:Xm):Qg:=if s.addE c=0 then
  {s with tree:=s.tree.add c,pick:=s.pick.put c,leaves:=if c.leaf then s.leaves++[⟨c.id,c.pk.toNat,c.bt.toNat,[],Jn c.real⟩]else s.leaves}
 else s
def Qg.changeE(s:Qg)(c:Xm):Int:=if(s.tree.at c.id).isNone then 81 else if 0<s.many c.id then 230 else s.tree.changeE c
def Qg.change(s:Qg)(c:Xm):Qg:=if s.changeE c=0 then
  {s with tree:=s.tree.change c,pick:=s.pick.renew c,leaves:=s.leaves.map fun l=>if l.id=c.id then{l with debt:=Jn c.real}else l}
 else s
def Qg.dropE(s:Qg)(id:Int):Int:=if(s.tree.at id).isNone then 81 else if s.tree.under id≠[]then 161 else if 0<s.many id then 230 else 0
def Qg.drop(s:Qg)(id:Int):Qg:=if s.dropE id=0 then
  {s with tree:=s.tree.drop id,pick:=s.pick.drop id,leaves:=s.leaves.filter fun l=>!decide (l.id=id)}
 else s
def Hb(row:List J6)(id:Int)(d:Jq):List J6:=if d.awake then Kg id d.elig d.due row else Jc id row
def Qg.owe(s:Qg)(l:Qy)(f:Jq→Jq):Qg:=match l.debt with
 |none=>s.setLeaf l
 |some d=>{s.setLeaf {l with debt:=some (f d)}with row:=Hb s.row l.id (f d)}
def Qg.pushE(s:Qg)(p:Z4):Int:=match s.tree.at p.cls with
 |none=>81
 |some c=>if !c.sp.leaf then 162 else if Gb p.len s.most≠0 then Gb p.len s.most else match s.leaf p.cls with
  |none=>1
  |some l=>if l.q.length=l.pk∨(l.bt:Int)-Q0 l.q<p.len then 110 else 0
def Qg.push(s:Qg)(p:Z4)(now:Nat):Qg:=if s.pushE p=0 then match s.leaf p.cls with
  |none=>s
  |some l=>
   let l':={l with q:=l.q++[p]}
   if l.q≠[]then s.setLeaf l' else
    let s':=s.owe l' fun d=>d.wake now p.len
    {s' with pick:=s'.pick.wake p.cls now}
 else s
structure ChM where
 p:Z4
 rule:Nat
 due:Nat
def Qg.takeC(s:Qg)(id:Int)(rule:Nat):ChM:=match s.leaf id with
 |none=>⟨Z4.zero,rule,0⟩
 |some l=>⟨l.q.headD Z4.zero,rule,match l.debt with
  |none=>0
  |some d=>if rule=1 then d.dueAt else 0⟩
def Qg.take(s:Qg)(id:Int)(rule:Nat):Qg:=match s.leaf id with
 |none=>s
 |some l=>
  let p:=l.q.headD Z4.zero;let c:=l.q.tail.headD Z4.zero;let s':=s.owe {l with q:=l.q.tail} fun d=>d.serve rule p.len c.len
  {s' with pick:=s'.pick.sent id (p.len*256).toNat (decide (l.q.tail≠[]))}
def Qg.who(s:Qg)(now:Nat):Option (Int×Nat):=match Xb now s.row with
 |some x=>some (x.2,1)
 |none=>(s.pick.next now 10 0).map fun id=>(id,2)
def Qg.next(s:Qg)(now:Nat):Option ChM×Qg:=match s.who now with
 |none=>(none,s)
 |some (id,rule)=>(some (s.takeC id rule),s.take id rule)
def Of(row:List J6):Nat:=match row with
 |[]=>Qx
 |e::_=>e.1
def Qg.tick(s:Qg):Nat:=min (Of s.row) s.pick.tick
def Qg.elig(s:Qg)(id:Int):Nat:=(((s.leaf id).bind (·.debt)).map (·.from_)).getD Qx
def Qg.due(s:Qg)(id:Int):Nat:=(((s.leaf id).bind (·.debt)).map (·.dueAt)).getD Qx
section
attribute [local go_sem] Qq
def Kn(w:World)(F:Fp)(v:Value)(o:Option Jq):Prop:=match o with
 |none=>v=.pointer none∧Bd F w
 |some d=>∃b,v=ptr b∧X9 w F b d
theorem Kn.good(v:Value)(o:Option Jq):Hi (fun w F=>Kn w F v o):=by
 cases o with
 |none=>exact Qtm _
 |some d=>exact Qx3 (P:=fun b w F=>v=ptr b∧X9 w F b d) (fun b=>⟨fun h=>X9.obj.bd h.2,fun h hc k=>⟨h.1,X9.obj.keep h.2 hc k⟩,fun h hs c=>⟨h.1,X9.obj.more h.2 hs c⟩⟩)
theorem Qt0(c:Z6)(hc:c.May)(w:World):Cl 129 #[cV c] w fun e w'=>∃b,e=.returned (ptr b)∧X9 w' (Qn Qb w w') b (Jq.new c)∧Qc Qb w w':=by
 obtain⟨W,hW⟩:=Zx (w.alloc (.cells #[.int .u64 (c.f:Int),.int .u64 (c.l:Int),.int .u64 (c.r:Int)] 38));have R:Hid (Qc Qb w W):=O (by rw[hW];exact(Qc.refl _ _).alloc _);have I:Hid (Qh W w.heap.size #[.int .u64 (c.f:Int),.int .u64 (c.l:Int),.int .u64 (c.r:Int)] 38):=O (by rw[hW];exact Qh.new _ _ _);have z:=O (fun w=>Y0 c w);rw[decide_eq_true hc]at z;have U:=O (fun w=>Qc3 c hc w);unfold cV ptr at*;clear hc;go_enter func129,ntmps129;go_wp2_with fail;rw[←hW];refine(z.out _).mono ?_;rintro e w1⟨rfl,d⟩;obtain⟨E,a1,J⟩:=Dy (d.blk I.out (fun h=>h));have B:=O (R.out.trans' d);clear d hW;go_wp2_with fail;refine(U.out _).mono ?_;rintro e w2⟨p,rfl,u,k⟩;have q:Hid (∀w',w'=w2.alloc (.cells #[.pointer (some ⟨p,0,none⟩),.int .u64 0,.bool false,.int .u64 0,.int .u64 0] 150)→X9 w' (Qn Qb w w') w2.heap.size (Jq.new c)∧Qc Qb w w'):=O (by
  rintro w' rfl;have hc:Qc Qb w2 (w2.alloc (.cells #[.pointer (some ⟨p,0,none⟩),.int .u64 0,.bool false,.int .u64 0,.int .u64 0] 150)):=(Qc.refl _ _).alloc _;have s1:=B.out.size;have s2:=k.size;exact⟨Od.new (p:=p) (G:=Qn Qb w1 w2) (runP.keep u hc (Je.none _)) (fun j K=>K.elim (fun h=>h.elim) (fun h=>by omega)) runP (Qh.new _ _ _) (by omega) (fun h=>h.elim (fun h=>h) (fun h=>by omega)),(B.out.trans' k).trans' hc⟩)
 clear u k E a1 J;go_wp2;go_ret;exact⟨_,rfl,q.out _ rfl⟩
theorem Qnf(c:Z6)(hc:c.May)(w:World):Cl 71 #[cV c] w fun e w'=>∃v,e=.returned v∧Kn w' (Qn Qb w w') v (Jn c)∧Qc Qb w w':=by
 obtain⟨W,hW⟩:=Zx (w.alloc (.cells #[.int .u64 (c.f:Int),.int .u64 (c.l:Int),.int .u64 (c.r:Int)] 38));have J:Hid (Qc Qb w W):=O (by rw[hW];exact(Qc.refl _ _).alloc _);have U:Hid (Qh W w.heap.size #[.int .u64 (c.f:Int),.int .u64 (c.l:Int),.int .u64 (c.r:Int)] 38):=O (by rw[hW];exact Qh.new _ _ _);have B:=O (fun w=>Yz c w);have Z:=O (fun w=>Qt0 c hc w);unfold Jn;cases d:c.none with
 |true=> rw[d]at B;have u:=O (fun w'(hc:Qc Qb w w')=>show Kn w' (Qn Qb w w') (.pointer none) none∧Qc Qb w w' from⟨⟨rfl,fun k q=>q.elim (fun h=>h.elim) (fun h=>h.2)⟩,hc⟩);rw[if_pos rfl];unfold cV ptr at*;clear hc d;go_enter func71,ntmps71;go_wp2_with fail;rw[←hW];refine(B.out _).mono ?_;rintro e w1⟨rfl,z⟩;have E:=O (J.out.trans' z);clear z hW;go_wp2;go_ret;exact⟨_,rfl,u.out _ E.out⟩
 |false=> rw[d]at B;rw[if_neg Bool.false_ne_true];unfold cV ptr at*;clear hc d;go_enter func71,ntmps71;go_wp2_with fail;rw[←hW];refine(B.out _).mono ?_;rintro e w1⟨rfl,z⟩;obtain⟨R,a1,V⟩:=Dy (z.blk U.out (fun h=>h));have E:=O (J.out.trans' z);clear z hW;go_wp2_with fail;refine(Z.out _).mono ?_;rintro e w2⟨p,rfl,K,I⟩;have u:=O (show Kn w2 (Qn Qb w w2) (.pointer (some ⟨p,0,none⟩)) (some (Jq.new c))∧Qc Qb w w2 from⟨⟨p,rfl,X9.obj.more K (fun k q=>q.elim .inl (fun q=>.inr ⟨Nat.le_trans E.out.size q.1,q.2⟩)) (fun k q=>q.elim (fun h=>h.elim) (fun h=>h.2))⟩,E.out.trans' I⟩);clear K I R a1 V;go_wp2;go_ret;exact⟨_,rfl,u.out⟩
theorem Qqd{w:World}{F H:Fp}{b q:Nat}{l:List J6}{d:Jq}(h:Kh w F b l)(k:X9 w H q d)(hl:l.length<4611686018427387903)(id:Int):
  Cl 75 #[ptr b,.int .i64 id,ptr q] w fun e w'=>e=.returned (.tuple #[])∧Kh w' (Qn F w w') b (Hb l id d)∧Qc F w w':=by
 have u:=O (Df k);have E:=O (Qpp k);have I:=O (Qjd k);unfold Jq.from_ Jq.dueAt at*;cases ha:d.awake with
 |false=> rw[ha]at u;have B:=O (Qp4 h (by omega) id);rw[show Hb l id d=Jc id l by unfold Hb;rw[ha];rfl];unfold ptr at*;clear h k ha hl;go_enter func75,ntmps75;go_wp2_with fail;refine u.out.mono ?_;rintro e w1⟨rfl,rfl⟩;go_wp2_with fail;refine B.out.mono ?_;rintro e w1⟨rfl,h1,c⟩;have z:=O (And.intro h1 c);clear h1 c;go_wp2;refine bodyPost_ret (v:=.tuple #[]) (by simp[results,Tryz.results75,go_sem]) rfl ⟨rfl,z.out⟩
 |true=> rw[ha,if_pos rfl]at E I;rw[ha]at u;have B:=O (Qtr h hl id d.elig d.due);rw[show Hb l id d=Kg id d.elig d.due l by unfold Hb;rw[ha];rfl];unfold ptr at*;clear h k ha hl;go_enter func75,ntmps75;go_wp2_with fail;refine u.out.mono ?_;rintro e w1⟨rfl,rfl⟩;go_wp2_with fail;refine E.out.mono ?_;rintro e w1⟨rfl,rfl⟩;go_wp2_with fail;refine I.out.mono ?_;rintro e w1⟨rfl,rfl⟩;go_wp2_with fail;refine B.out.mono ?_;rintro e w1⟨rfl,h1,c⟩;have z:=O (And.intro h1 c);clear h1 c;go_wp2;refine bodyPost_end (by simp[*,results,Tryz.results75,go_sem]) rfl ⟨rfl,z.out⟩
end
section
attribute [local go_sem] Qq
abbrev Ux:World→Fp→Nat→Jo→Prop:=Od 209 (fun _ p=>#[.iface 205 (.agg #[ptr p])]) (fun r=>r) Yx
theorem Ux.obj:Ky Ux:=Od.obj runP
def Ue(w:World)(F:Fp)(b:Nat)(l:Yt):Prop:=match l with
 |none=>Qa8 b #[.iface 240 (.agg #[])] 209 w F
 |some r=>Ux w F b r
theorem Ue.obj:Ky Ue where
 bd:=fun{w F b x}h=>by cases x with|none=>exact(Yu _ _ _).bd h|some r=>exact Ux.obj.bd h
 own:=fun{w F b x}h=>by cases x with|none=>exact h.2.1|some r=>exact Ux.obj.own h
 keep:=fun{w w' F S b x}h hc d=>by cases x with|none=>exact(Yu _ _ _).keep h hc d|some r=>exact Ux.obj.keep h hc d
 more:=fun{w F k b x}h hs c=>by cases x with|none=>exact(Yu _ _ _).more h hs c|some r=>exact Ux.obj.more h hs c
theorem Qgk(v:Value)(w:World):(Instr.typeAssert (.iface 205 v) 207 205 true).run prog w=.ok (.tuple #[v,.bool true]) w:=by have h:=underlying205;simp[Instr.typeAssert,run_underlying h,go_sem,Result.andThen]
theorem Qie(v:Value)(w:World):(Instr.typeAssert (.iface 240 v) 207 205 true).run prog w=.ok (.tuple #[.agg #[.pointer none],.bool false]) w:=by
 have h:=underlying205;have c:(zeroValue 205).run prog w=.ok (.agg #[.pointer none]) w:=by go_simp
 simp[Instr.typeAssert,run_underlying h,go_sem,Result.andThen,c]
theorem Qes(v:Value)(w:World):(Instr.typeAssert (.iface 240 v) 207 240 true).run prog w=.ok (.tuple #[v,.bool true]) w:=by have h:=underlying240;simp[Instr.typeAssert,run_underlying h,go_sem,Result.andThen]
attribute [local go_sem] Qgk Qie Qes
theorem Qec{w:World}{b p:Nat}(h:Qh w b #[.iface 205 (.agg #[ptr p])] 209):Cl 156 #[ptr b] w fun e w'=>e=.returned (ptr p)∧Qc Qb w w':=by have c:=Zv h;unfold ptr at*;clear h;go_enter func156,ntmps156;go_wp2;go_ret;refine⟨rfl,?_⟩;(repeat' (first|(with_reducible first|exact Zg _ _|assumption|refine Zh ?_ _|refine Zi ?_ _|refine Zj ?_ |refine Zk ?_ _ ?_ |(apply Or.inl;rfl))|(apply Or.inl;simp;done)|(apply Or.inr;simp;first|done|omega)))
theorem Qgl{w:World}{b:Nat}(h:Qh w b #[.iface 240 (.agg #[])] 209):Cl 156 #[ptr b] w fun e w'=>e=.returned (.pointer none)∧Qc Qb w w':=by have c:=Zv h;unfold ptr at*;clear h;go_enter func156,ntmps156;go_wp2;go_ret;refine⟨rfl,?_⟩;(repeat' (first|(with_reducible first|exact Zg _ _|assumption|refine Zh ?_ _|refine Zi ?_ _|refine Zj ?_ |refine Zk ?_ _ ?_ |(apply Or.inl;rfl))|(apply Or.inl;simp;done)|(apply Or.inr;simp;first|done|omega)))
theorem Qed(w:World):Cl 156 #[.pointer none] w fun e w'=>e=.returned (.pointer none)∧Qc Qb w w':=by go_enter func156,ntmps156;go_wp2;go_ret;exact⟨rfl,Qc.refl _ _⟩
end
section
attribute [local go_sem] Qq
theorem Qqe{w:World}{F:Fp}{b:Nat}{l:Yt}(h:Ue w F b l)(hn:∀r,l=some r→r.l.length<549755813888)(now total:Nat)(h1:now<18446744073709551616)(J:total<18446744073709551616):
  Cl 139 #[ptr b,.int .u64 (now:Int),.int .u64 (total:Int)] w fun e w'=>e=.returned (.tuple #[])∧Ue w' (Qn F w w') b (l.wake now total)∧Qc F w w':=by
 have u:=O (fun w'(hc:Qc Qb w w')=>Ue.obj.same h hc);cases l with
 |none=> have K:=O (Qgl h.1);rw[show Yt.wake none now total=none from rfl];unfold ptr at*;clear h hn h1 J;go_enter func139,ntmps139;go_wp2_with fail;refine K.out.mono ?_;rintro e w1⟨rfl,c⟩;have d:=O c;clear c;go_wp2;refine bodyPost_end (by simp[*,results,Tryz.results139,go_sem]) rfl ⟨rfl,u.out _ d.out⟩
 |some r=>
  have h:Ux w F b r:=h;have H:=O h;obtain⟨p,G,R,U,hG⟩:=h.ex;have K:=O (Qec R);have V:=O R;have q:=O hG;have HR:=O (fun w'(hc:Qc Qb w w')=>Lv (runP.keep U hc (Je.none G)) (hn r rfl) now total h1 J);rw[show Yt.wake (some r) now total=some (r.start now total)from rfl];have I:=O (runP.bd U);unfold ptr at*;clear h hn h1 J R U hG u;go_enter func139,ntmps139;go_wp2_with fail;refine K.out.mono ?_;rintro e w1⟨rfl,c⟩;have d:=O c;clear c;go_wp2_with fail;refine(HR.out _ d.out).mono ?_;rintro e w2⟨rfl,z,Z⟩;have FF:Hid (Ux w2 (Qn F w w2) b (r.start now total)∧Qc F w w2):=O (by
   have E:Qc G w w2:=d.out.none.trans' Z;exact H.out.made (x':=r.start now total) q.out runP E (runP.more z (fun k B=>B.elim .inl (fun B=>.inr ⟨Nat.le_trans d.out.size B.1,B.2⟩)) (I.out.ext E)) (Qc.refl _ _) (E.blk V.out (fun h=>(q.out _ h).2 rfl)))
  clear z Z;go_wp2;refine bodyPost_end (by simp[*,results,Tryz.results139,go_sem]) rfl ⟨rfl,FF.out⟩
theorem Qt1{w:World}{F:Fp}{b:Nat}{l:Yt}(h:Ue w F b l)(hn:∀r,l=some r→r.l.length<549755813888)(total:Nat)(k:total<18446744073709551616):
  Cl 168 #[ptr b,.int .u64 (total:Int)] w fun e w'=>e=.returned (.int .u64 (l.fit total:Nat))∧Qc Qb w w':=by
 cases l with
 |none=> have q:=O (Qgl h.1);rw[show Yt.fit none total=0 from rfl];unfold ptr at*;clear h hn k;go_enter func168,ntmps168;go_wp2_with fail;refine q.out.mono ?_;rintro e w1⟨rfl,c⟩;have d:=O c;clear c;go_wp2;go_ret;exact⟨rfl,d.out⟩
 |some r=> have h:Ux w F b r:=h;obtain⟨p,G,z,B,J⟩:=h.ex;have q:=O (Qec z);have E:=O (fun w'(hc:Qc Qb w w')=>Lw (runP.keep B hc (Je.none G)) (by have:=hn r rfl;omega) total k);rw[show Yt.fit (some r) total=r.reach total from rfl];generalize r.reach total=x at E⊢;unfold ptr at*;clear h hn k z B J;go_enter func168,ntmps168;go_wp2_with fail;refine q.out.mono ?_;rintro e w1⟨rfl,c⟩;have d:=O c;clear c;go_wp2_with fail;refine(E.out _ d.out).mono ?_;rintro e w2⟨rfl,u⟩;have I:=O (d.out.trans' u);clear u;go_wp2;go_ret;exact⟨rfl,I.out⟩
theorem Qjp(c:Z6)(w:World):Cl 126 #[cV c] w fun e w'=>∃b,e=.returned (ptr b)∧Ue w' (Qn Qb w w') b (Kq c)∧Qc Qb w w':=by
 obtain⟨W,hW⟩:=Zx (w.alloc (.cells #[.int .u64 (c.f:Int),.int .u64 (c.l:Int),.int .u64 (c.r:Int)] 38));have C0:Hid (Qc Qb w W):=O (by rw[hW];exact(Qc.refl _ _).alloc _);have B0:Hid (Qh W w.heap.size #[.int .u64 (c.f:Int),.int .u64 (c.l:Int),.int .u64 (c.r:Int)] 38):=O (by rw[hW];exact Qh.new _ _ _);have K:=O (fun w=>Yz c w);have U:=O (fun w=>Y0 c w);have B:Hid (∀w1 w',Qc Qb w w1→w'=w1.alloc (.cells #[.iface 240 (.agg #[])] 209)→Ue w' (Qn Qb w w') w1.heap.size none∧Qc Qb w w'):=O (by
  rintro w1 w' d rfl;exact⟨⟨Qh.new _ _ _,.inr ⟨d.size,by simp⟩,fun k hk=>hk.elim (fun h=>h.elim) (fun h=>h.2)⟩,d.alloc _⟩)
 unfold Kq;cases u:c.none with
 |true=> rw[u]at K;rw[show(if(true||!decide c.May)=true then(none:Yt)else some (Jo.new c))=none from rfl];unfold cV ptr at*;clear u;go_enter func126,ntmps126;go_wp2_with fail;rw[←hW];refine(K.out _).mono ?_;rintro e w1⟨rfl,d⟩;have I:=O (C0.out.trans' d);clear d hW;go_wp2;go_ret;exact⟨_,rfl,B.out _ _ I.out rfl⟩
 |false=>
  rw[u]at K;cases z:decide c.May with
  |false=> rw[z]at U;rw[show(if(false||!false)=true then(none:Yt)else some (Jo.new c))=none from rfl];unfold cV ptr at*;clear u z;go_enter func126,ntmps126;go_wp2_with fail;rw[←hW];refine(K.out _).mono ?_;rintro e w1⟨rfl,d⟩;obtain⟨V,a1,Z⟩:=Dy (d.blk B0.out (fun h=>h));have I:=O (C0.out.trans' d);clear d hW;go_wp2_with fail;refine(U.out _).mono ?_;rintro e w2⟨rfl,E⟩;have R:=O (I.out.trans' E);clear E V a1 Z;go_wp2;go_ret;exact⟨_,rfl,B.out _ _ R.out rfl⟩
  |true=>
   have HR:=O (fun w=>Qc3 c (of_decide_eq_true z) w);rw[z]at U;rw[show(if(false||!true)=true then(none:Yt)else some (Jo.new c))=some (Jo.new c)from rfl];unfold cV ptr at*;clear u z;go_enter func126,ntmps126;go_wp2_with fail;rw[←hW];refine(K.out _).mono ?_;rintro e w1⟨rfl,d⟩;have B1:=O (d.blk B0.out (fun h=>h));obtain⟨V,a1,Z⟩:=Dy B1.out;have I:=O (C0.out.trans' d);clear d hW;go_wp2_with fail;refine(U.out _).mono ?_;rintro e w2⟨rfl,E⟩;have R:=O (I.out.trans' E);obtain⟨e0,e1,e2⟩:=Dy (E.blk B1.out (fun h=>h));clear E V a1 Z;go_wp2_with fail;refine(HR.out _).mono ?_;rintro e w3⟨q,rfl,J,c3⟩;have aa:Hid (∀w',w'=w3.alloc (.cells #[.iface 205 (.agg #[.pointer (some ⟨q,0,none⟩)])] 209)→Ue w' (Qn Qb w w') w3.heap.size (some (Jo.new c))∧Qc Qb w w'):=O (by
    rintro w' rfl;have hc:Qc Qb w3 (w3.alloc (.cells #[.iface 205 (.agg #[.pointer (some ⟨q,0,none⟩)])] 209)):=(Qc.refl _ _).alloc _;have s1:=R.out.size;have s2:=c3.size;exact⟨Od.new (p:=q) (G:=Qn Qb w2 w3) (runP.keep J hc (Je.none _)) (fun j hj=>hj.elim (fun h=>h.elim) (fun h=>by omega)) runP (Qh.new _ _ _) (by omega) (fun h=>h.elim (fun h=>h) (fun h=>by omega)),(R.out.trans' c3).trans' hc⟩)
   clear J c3 e0 e1 e2;go_wp2;go_ret;exact⟨_,rfl,aa.out _ rfl⟩
def Qde(m:Zq)(p:Nat):Array Value:=#[.int .u64 (m.total:Int),.int .u64 (m.v:Int),ptr p,.bool m.awake]
abbrev Vh:World→Fp→Nat→Zq→Prop:=Od 215 Qde Zq.run Yx
theorem Vh.obj:Ky Vh:=Od.obj runP
theorem E8{X:Type}{key:X→Int}{Is:World→Fp→Nat→X→Prop}(d:Ky Is)(m:Nat)(ad:Int→Nat)(l:List X):Hi (fun w F=>Xy key Is w F m ad l) where
 bd:=fun h=>h.bd
 keep:=fun h hc k=>h.keep d hc k
 more:=fun h hs c=>h.more hs c
theorem Qb9{X:Type}{key:X→Int}{l l':List X}(d:l.Perm l')(hn:(l.map key).Nodup)(i:Int):Vp key i l=Vp key i l':=by
 have q:(l'.map key).Nodup:=(d.map _).nodup_iff.1 hn;cases h:Vp key i l' with
 |some x=> obtain⟨h1,c⟩:=Yh h;exact Gs hn (d.mem_iff.2 h1) c
 |none=>
  cases c:Vp key i l with
  |none=>rfl
  |some x=> obtain⟨k,u⟩:=Yh c;exact absurd u (Dx h x (d.mem_iff.1 k))
def Qya(b m:Nat)(mark:Nat)(ad:Int→Nat)(l:List Zq):List J7:=
 [Qa8 b #[.map (some m),.int .u64 (mark:Int)] 212,fun w G=>Xy Zq.id Vh w G m ad l]
theorem J8(b m mark:Nat)(ad:Int→Nat)(l:List Zq):∀P∈Qya b m mark ad l,Hi P:=by
 intro P c;simp only[Qya,List.mem_cons,List.not_mem_nil,or_false]at c;rcases c with rfl|rfl;·exact Yu _ _ _
 ·exact E8 Vh.obj _ _ _
def Jb(w:World)(F:Fp)(b:Nat)(f:Q9):Prop:=∃m ad l,l.Perm f.all∧Hu (Qya b m f.mark ad l) w F
theorem Jb.obj:Ky Jb where
 bd:=fun⟨m,ad,l,_,h⟩=>(Zm (J8 _ m _ ad l)).bd h
 own:=fun⟨m,ad,l,_,h⟩=>by obtain⟨G,h1,q⟩:=Z7 (J8 _ m _ ad l) 0 rfl h;exact q _ h1.2.1
 keep:=fun⟨m,ad,l,c,h⟩hc k=>⟨m,ad,l,c,(Zm (J8 _ m _ ad l)).keep h hc k⟩
 more:=fun⟨m,ad,l,c,h⟩hs d=>⟨m,ad,l,c,(Zm (J8 _ m _ ad l)).more h hs d⟩
theorem Jb.opn{w:World}{F:Fp}{b:Nat}{f:Q9}(h:Jb w F b f):
  ∃m ad l,l.Perm f.all∧Qh w b #[.map (some m),.int .u64 (f.mark:Int)] 212∧∃G,Xy Zq.id Vh w G m ad l:=by
 obtain⟨m,ad,l,c,h⟩:=h;obtain⟨k,h0,_⟩:=Z7 (J8 _ m _ ad l) 0 rfl h;obtain⟨d,h1,_⟩:=Z7 (J8 _ m _ ad l) 1 rfl h;exact⟨m,ad,l,c,h0.1,d,h1⟩
theorem Q9.at_eq{f:Q9}{l:List Zq}(c:l.Perm f.all)(hn:(l.map Zq.id).Nodup)(i:Int):f.at i=Vp Zq.id i l:=(Qb9 c hn i).symm
theorem Qng(w:World):(zeroValue 213).run prog w=.ok (.pointer none) w:=by go_simp
def atP(ad:Int→Nat)(i:Int)(o:Option Zq):Value:=match o with
 |none=>.pointer none
 |some _=>ptr (ad i)
theorem Qgm{w:World}{G:Fp}{b m:Nat}{v:Value}{ad:Int→Nat}{l:List Zq}(u:Qh w b #[.map (some m),v] 212)(k:Xy Zq.id Vh w G m ad l)(i:Int):
  Cl 189 #[ptr b,.int .i64 i] w fun e w'=>e=.returned (atP ad i (Vp Zq.id i l))∧w=w':=by
 have c:=k.look i;have d:=U3 (P:=prog) k.map underlying210 underlying3 (Qng w) i;rw[c]at d;have q:((Vp Zq.id i l).map fun _=>ptr (ad i)).getD (.pointer none)=atP ad i (Vp Zq.id i l):=by cases Vp Zq.id i l<;>rfl
 rw[q]at d;generalize atP ad i (Vp Zq.id i l)=r at d⊢;obtain⟨z,a1⟩:=Qz u;unfold ptr at*;clear u k c q;go_enter func189,ntmps189;go_wp2;go_ret;exact⟨rfl,rfl⟩
theorem famAt{w:World}{G:Fp}{m:Nat}{ad:Int→Nat}{l:List Zq}(c:Xy Zq.id Vh w G m ad l){i:Int}{x:Zq}(d:Vp Zq.id i l=some x):∃p H,Qh w (ad i) (Qde x p) 215∧Yx w H p x.run:=by obtain⟨h1,q⟩:=Yh d;obtain⟨K,k,_⟩:=c.focus Vh.obj h1;obtain⟨p,H,a,b,_⟩:=k.ex;exact⟨p,H,q▸a,b⟩
theorem Qyb{w:World}{F:Fp}{b:Nat}{f:Q9}(h:Jb w F b f)(i:Int):Cl 175 #[ptr b,.int .i64 i] w fun e w'=>e=.returned (.int .u64 (f.v i:Nat))∧w=w':=by
 obtain⟨m,ad,l,u,q,G,d⟩:=h.opn;have c:=O (Qgm q d i);unfold Q9.v;rw[Q9.at_eq u d.nodup];cases k:Vp Zq.id i l with
 |none=> rw[k]at c;dsimp only[atP,Option.map_none,Option.getD_none]at c⊢;unfold ptr at*;clear h u q d k;go_enter func175,ntmps175;go_wp2_with fail;refine c.out.mono ?_;rintro e w1⟨rfl,rfl⟩;go_wp2;go_ret;exact⟨rfl,rfl⟩
 |some x=> obtain⟨p,H,z,_⟩:=famAt d k;obtain⟨B,a1,I,E⟩:=Xt z;rw[k]at c;dsimp only[atP,Option.map_some,Option.getD_some]at c⊢;unfold ptr at*;clear h u q d k z;go_enter func175,ntmps175;go_wp2_with fail;refine c.out.mono ?_;rintro e w1⟨rfl,rfl⟩;go_wp2;go_ret;exact⟨rfl,rfl⟩
theorem Qnh{w:World}{F:Fp}{b:Nat}{f:Q9}(h:Jb w F b f)(i:Int):Cl 167 #[ptr b,.int .i64 i] w fun e w'=>e=.returned (.bool (f.up i))∧w=w':=by
 obtain⟨m,ad,l,u,q,G,d⟩:=h.opn;have c:=O (Qgm q d i);unfold Q9.up;rw[Q9.at_eq u d.nodup];cases k:Vp Zq.id i l with
 |none=> rw[k]at c;dsimp only[atP,Option.map_none,Option.getD_none]at c⊢;unfold ptr at*;clear h u q d k;go_enter func167,ntmps167;go_wp2_with fail;refine c.out.mono ?_;rintro e w1⟨rfl,rfl⟩;go_wp2;go_ret;exact⟨rfl,rfl⟩
 |some x=> obtain⟨p,H,z,_⟩:=famAt d k;obtain⟨B,a1,I,E⟩:=Xt z;rw[k]at c;dsimp only[atP,Option.map_some,Option.getD_some]at c⊢;unfold ptr at*;clear h u q d k z;go_enter func167,ntmps167;go_wp2_with fail;refine c.out.mono ?_;rintro e w1⟨rfl,rfl⟩;go_wp2;go_ret;exact⟨rfl,rfl⟩
theorem Qjq(w:World):Cl 120 #[] w fun e w'=>∃b,e=.returned (ptr b)∧Jb w' (Qn Qb w w') b ⟨[],0⟩∧Qc Qb w w':=by
 have z:=@run_makeMap prog;have q:Hid (∀w',w'=(w.alloc (.map #[] 0)).alloc (.cells #[.map (some w.heap.size),.int .u64 0] 212)→Jb w' (Qn Qb w w') (w.heap.size+1) ⟨[],0⟩∧Qc Qb w w'):=O (by
  rintro w' rfl;have d:Qh ((w.alloc (.map #[] 0)).alloc (.cells #[.map (some w.heap.size),.int .u64 0] 212)) (w.heap.size+1) #[.map (some w.heap.size),.int .u64 0] 212:=Qh.new' _ _ (by simp);have c:Xs ((w.alloc (.map #[] 0)).alloc (.cells #[.map (some w.heap.size),.int .u64 0] 212)) w.heap.size []:=(Xs.new w).keep ((Qc.refl Qb _).alloc _) (fun h=>h);refine⟨⟨w.heap.size,fun _=>0,[],List.Perm.refl _,?_⟩,((Qc.refl _ _).alloc _).alloc _⟩;refine Zl (G:=fun k=>k=w.heap.size+1) (H:=fun k=>k=w.heap.size) ⟨d,rfl,fun k e=>e▸d.lt⟩ (Yv (Xy.new c (fun k e=>e▸c.lt) rfl) (fun k e=>e▸c.lt)) ?_ ?_ ?_ (fun k u=>u.elim (fun h=>h.elim) (fun h=>h.2));·rintro k rfl u;omega
  ·rintro k rfl;exact .inr ⟨by omega,d.lt⟩
  ·rintro k rfl;exact .inr ⟨by omega,c.lt⟩)
 unfold ptr;go_enter func120,ntmps120;go_wp2;go_ret;exact⟨_,rfl,q.out _ (by simp)⟩
def Qbc(c:Qv)(vl:Value)(pf pt:Nat):Array Value:=#[.int .i64 c.par,.bool c.leaf,.bool c.shares,.int .u64 (c.total:Int),vl,ptr pf,ptr pt,.int .i64 (c.under:Int)]
def Dd(v:Value)(l:Yt):J7:=fun w F=>(v=.pointer none∧l=none∧Bd F w)∨∃b,v=ptr b∧Ue w F b l
theorem Dd.good(v:Value)(l:Yt):Hi (Dd v l) where
 bd:=fun h=>by
  rcases h with⟨_,_,h⟩|⟨b,_,h⟩;·exact h
  ·exact Ue.obj.bd h
 keep:=fun h hc k=>by
  rcases h with⟨h1,c,h⟩|⟨b,h1,h⟩;·exact .inl ⟨h1,c,h.later hc⟩
  ·exact .inr ⟨b,h1,Ue.obj.keep h hc k⟩
 more:=fun h hs d=>by
  rcases h with⟨h1,c,h⟩|⟨b,h1,h⟩;·exact .inl ⟨h1,c,d⟩
  ·exact .inr ⟨b,h1,Ue.obj.more h hs d⟩
structure Og where
 m:Nat
 ad:Int→Nat
 vl:Int→Value
 pf:Int→Nat
 pt:Int→Nat
def Qaj(A:Og)(c:Qv):List J7:=
 [Qa8 (A.ad c.id) (Qbc c (A.vl c.id) (A.pf c.id) (A.pt c.id)) 143,Dd (A.vl c.id) c.limit,fun w F=>Jb w F (A.pf c.id) c.mem,fun w F=>Zo w F (A.pt c.id) c.tree]
theorem Gc(A:Og)(c:Qv):∀P∈Qaj A c,Hi P:=by
 intro P d;simp only[Qaj,List.mem_cons,List.not_mem_nil,or_false]at d;rcases d with rfl|rfl|rfl|rfl;·exact Yu _ _ _
 ·exact Dd.good _ _
 ·exact Jb.obj.good _ _
 ·exact Zo.obj.good _ _
def V4(A:Og)(w:World)(F:Fp)(b:Nat)(c:Qv):Prop:=b=A.ad c.id∧Hu (Qaj A c) w F
theorem V4.obj(A:Og):Ky (V4 A) where
 bd:=fun h=>(Zm (Gc A _)).bd h.2
 own:=fun h=>by obtain⟨G,h1,k⟩:=Z7 (Gc A _) 0 rfl h.2;rw[h.1];exact k _ h1.2.1
 keep:=fun h hc d=>⟨h.1,(Zm (Gc A _)).keep h.2 hc d⟩
 more:=fun h hs c=>⟨h.1,(Zm (Gc A _)).more h.2 hs c⟩
def Qwl(A:Og)(b:Nat)(l:List Qv):List J7:=[Qa8 b #[.map (some A.m)] 138,fun w G=>Xy Qv.id (V4 A) w G A.m A.ad l]
theorem Y8(A:Og)(b:Nat)(l:List Qv):∀P∈Qwl A b l,Hi P:=by
 intro P c;simp only[Qwl,List.mem_cons,List.not_mem_nil,or_false]at c;rcases c with rfl|rfl;·exact Yu _ _ _
 ·exact E8 (V4.obj A) _ _ _
def Qo(A:Og)(w:World)(F:Fp)(b:Nat)(p:Qe):Prop:=∃l:List Qv,l.Perm p∧Hu (Qwl A b l) w F
theorem Qo.obj(A:Og):Ky (Qo A) where
 bd:=fun⟨l,_,h⟩=>(Zm (Y8 A _ l)).bd h
 own:=fun⟨l,_,h⟩=>by obtain⟨G,h1,q⟩:=Z7 (Y8 A _ l) 0 rfl h;exact q _ h1.2.1
 keep:=fun⟨l,c,h⟩hc k=>⟨l,c,(Zm (Y8 A _ l)).keep h hc k⟩
 more:=fun⟨l,c,h⟩hs d=>⟨l,c,(Zm (Y8 A _ l)).more h hs d⟩
section
variable{A:Og}{w:World}{F:Fp}{b:Nat}{p:Qe}
theorem Qo.coll(h:Qo A w F b p):∃l:List Qv,l.Perm p∧Qh w b #[.map (some A.m)] 138∧∃G,Xy Qv.id (V4 A) w G A.m A.ad l:=by obtain⟨l,c,h⟩:=h;obtain⟨k,h0,_⟩:=Z7 (Y8 A b l) 0 rfl h;obtain⟨d,h1,_⟩:=Z7 (Y8 A b l) 1 rfl h;exact⟨l,c,h0.1,d,h1⟩
theorem Qo.nodup(h:Qo A w F b p):(p.map Qv.id).Nodup:=by obtain⟨l,d,_,G,c⟩:=h.coll;exact((d.map _).nodup_iff).1 c.nodup
theorem Qo.blk(h:Qo A w F b p):Qh w b #[.map (some A.m)] 138:=by obtain⟨l,d,c,_⟩:=h.coll;exact c
theorem Qe.at_eq{l:List Qv}(c:l.Perm p)(hn:(l.map Qv.id).Nodup)(i:Int):p.at i=Vp Qv.id i l:=(Qb9 c hn i).symm
theorem Qe.at_mem{i:Int}{c:Qv}(h:p.at i=some c):c∈p∧c.id=i:=Yh (key:=Qv.id) h
theorem Qe.at_of{c:Qv}(hn:(p.map Qv.id).Nodup)(h:c∈p):p.at c.id=some c:=Gs hn h rfl
def pkV(A:Og)(p:Qe)(i:Int):Value:=match p.at i with
 |none=>.pointer none
 |some _=>ptr (A.ad i)
theorem Qni(w:World):(zeroValue 139).run prog w=.ok (.pointer none) w:=by go_simp
theorem Qo.look1(h:Qo A w F b p)(i:Int):(Instr.lookup 136 (.map (some A.m)) (.int .i64 i) false).run prog w=.ok (pkV A p i) w:=by
 obtain⟨l,q,u,G,d⟩:=h.coll;have c:=U3 (P:=prog) d.map underlying136 underlying3 (Qni w) i;rw[d.look i,←Qe.at_eq q d.nodup]at c;have k:((p.at i).map fun _=>ptr (A.ad i)).getD (.pointer none)=pkV A p i:=by unfold pkV;cases p.at i<;>rfl
 rw[k]at c;exact c
theorem Qo.part(h:Qo A w F b p){c:Qv}(hc:c∈p)(i:Nat){R:J7}(hi:(Qaj A c)[i]? =some R):
  ∃G:Fp,R w G∧(∀k,G k→F k)∧∀w' c' Q,c'.id=c.id→Qaj A c'=(Qaj A c).set i Q→Q w' (Qn G w w')→Qc G w w'→Qo A w' (Qn F w w') b (p.set c')∧Qc F w w':=by
 obtain⟨l,J,h⟩:=h;obtain⟨H,h1,I,_,h3⟩:=Ju 1 (Y8 A b l) rfl h;have u:c∈l:=J.mem_iff.2 hc;obtain⟨K,k1,k2,k3⟩:=h1.focus (V4.obj A) u;obtain⟨G,g1,E,_,g3⟩:=Ju i (Gc A c) hi k1.2;refine⟨G,g1,fun k z=>I k (k2 k (E k z)).1,fun w' c' Q d hs hq q=>?_⟩;have e1:V4 A w' (Qn K w w') (A.ad c.id) c':=⟨by rw[d],by rw[hs];exact g3 w' Q q hq⟩;have B:Qc K w w':=q.sub E;have Z:=k3 w' c' d e1 B;have U:Qc H w w':=B.sub fun k z=>(k2 k z).1;have V:=h3 w' (fun w G=>Xy Qv.id (V4 A) w G A.m A.ad (Dc Qv.id c' l)) U Z;exact⟨⟨Dc Qv.id c' l,J.map _,V⟩,U.sub I⟩
theorem Qo.cells(h:Qo A w F b p){c:Qv}(hc:c∈p):Qh w (A.ad c.id) (Qbc c (A.vl c.id) (A.pf c.id) (A.pt c.id)) 143:=by obtain⟨G,h1,_⟩:=h.part hc 0 rfl;exact h1.1
theorem Qo.setC(h:Qo A w F b p){c c':Qv}(hc:c∈p)(d:c'.id=c.id)(hl:c'.limit=c.limit)(z:c'.mem=c.mem)(ht:c'.tree=c.tree){w':World}
  (q:Qc (fun k=>k=A.ad c.id) w w')(B:Qh w' (A.ad c.id) (Qbc c' (A.vl c.id) (A.pf c.id) (A.pt c.id)) 143):Qo A w' (Qn F w w') b (p.set c')∧Qc F w w':=by
 obtain⟨G,h1,J,E⟩:=h.part hc 0 rfl;have u:Qc G w w':=q.sub fun k I=>I▸h1.2.1;refine E w' c' (Qa8 (A.ad c'.id) (Qbc c' (A.vl c'.id) (A.pf c'.id) (A.pt c'.id)) 143) d ?_ ?_ u;·unfold Qaj;rw[hl,z,ht,d];rfl
 ·rw[d];exact⟨B,.inl h1.2.1,h1.2.2.ext u⟩
theorem Qo.famOf(h:Qo A w F b p){c:Qv}(hc:c∈p):
  ∃G:Fp,Jb w G (A.pf c.id) c.mem∧(∀k,G k→F k)∧∀w' f,Jb w' (Qn G w w') (A.pf c.id) f→Qc G w w'→Qo A w' (Qn F w w') b (p.set {c with mem:=f})∧Qc F w w':=by
 obtain⟨G,h1,u,q⟩:=h.part hc 2 rfl;exact⟨G,h1,u,fun w' f hf d=>q w' {c with mem:=f} _ rfl rfl hf d⟩
theorem Qo.treeOf(h:Qo A w F b p){c:Qv}(hc:c∈p):
  ∃G:Fp,Zo w G (A.pt c.id) c.tree∧(∀k,G k→F k)∧∀w' t,Zo w' (Qn G w w') (A.pt c.id) t→Qc G w w'→Qo A w' (Qn F w w') b (p.set {c with tree:=t})∧Qc F w w':=by
 obtain⟨G,h1,u,q⟩:=h.part hc 3 rfl;exact⟨G,h1,u,fun w' t hf d=>q w' {c with tree:=t} _ rfl rfl hf d⟩
theorem Qo.limOf(h:Qo A w F b p){c:Qv}(hc:c∈p):
  ∃G:Fp,Dd (A.vl c.id) c.limit w G∧(∀k,G k→F k)∧∀w' t,Dd (A.vl c.id) t w' (Qn G w w')→Qc G w w'→Qo A w' (Qn F w w') b (p.set {c with limit:=t})∧Qc F w w':=by
 obtain⟨G,h1,u,q⟩:=h.part hc 1 rfl;exact⟨G,h1,u,fun w' t hf d=>q w' {c with limit:=t} _ rfl rfl hf d⟩
end
end
end Go.Proofs.YtnnhmpehkbihnaaGreat
