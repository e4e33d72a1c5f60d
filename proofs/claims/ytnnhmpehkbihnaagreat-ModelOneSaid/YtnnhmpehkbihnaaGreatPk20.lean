/- A part of the proof: no condition. -/
import Derived.Test.YtnnhmpehkbihnaaGreatPk17
import Derived.Laws.EntriesVeiled
import Derived.Test.YtnnhmpehkbihnaaGreatPk19
namespace Go.Proofs.YtnnhmpehkbihnaaGreat
set_option linter.unusedVariables false
set_option maxRecDepth 100000
set_option maxHeartbeats 4000000
open Go.RowKit
open Go.Proofs.Tryz
section
def Yk.curvesB(s:Yk):Bool:=decide s.real.May&&(decide s.share.May&&decide s.aN.May)
def Yk.sharedB(s:Yk):Bool:=s.share.goes&&(s.aN.goes&&(s.aN.none||!s.share.none))
def Yk.mayE(s:Yk):Int:=if s.named=false then 130 else if s.curvesB=false then 30 else if s.shapedB s.leaf=false then 130 else if s.sharedB=false then 130 else if s.aM=false then 130 else 0
theorem Quq(w):(Instr.index 236 (.agg #[.func (.func 179) #[] #[],.int .i64 130,.func (.func 180) #[] #[],.int .i64 30,.func (.func 181) #[] #[],.int .i64 130,.func (.func 182) #[] #[],.int .i64 130,.func (.func 183) #[] #[],.int .i64 130]) (.int .i64 0)).run prog w=.ok (.agg #[.func (.func 179) #[] #[],.int .i64 130]) w:=by kernel_rfl
theorem Qur(w):(Instr.index 236 (.agg #[.func (.func 179) #[] #[],.int .i64 130,.func (.func 180) #[] #[],.int .i64 30,.func (.func 181) #[] #[],.int .i64 130,.func (.func 182) #[] #[],.int .i64 130,.func (.func 183) #[] #[],.int .i64 130]) (.int .i64 1)).run prog w=.ok (.agg #[.func (.func 180) #[] #[],.int .i64 30]) w:=by kernel_rfl
theorem Qus(w):(Instr.index 236 (.agg #[.func (.func 179) #[] #[],.int .i64 130,.func (.func 180) #[] #[],.int .i64 30,.func (.func 181) #[] #[],.int .i64 130,.func (.func 182) #[] #[],.int .i64 130,.func (.func 183) #[] #[],.int .i64 130]) (.int .i64 2)).run prog w=.ok (.agg #[.func (.func 181) #[] #[],.int .i64 130]) w:=by kernel_rfl
theorem Qut(w):(Instr.index 236 (.agg #[.func (.func 179) #[] #[],.int .i64 130,.func (.func 180) #[] #[],.int .i64 30,.func (.func 181) #[] #[],.int .i64 130,.func (.func 182) #[] #[],.int .i64 130,.func (.func 183) #[] #[],.int .i64 130]) (.int .i64 3)).run prog w=.ok (.agg #[.func (.func 182) #[] #[],.int .i64 130]) w:=by kernel_rfl
theorem Quu(w):(Instr.index 236 (.agg #[.func (.func 179) #[] #[],.int .i64 130,.func (.func 180) #[] #[],.int .i64 30,.func (.func 181) #[] #[],.int .i64 130,.func (.func 182) #[] #[],.int .i64 130,.func (.func 183) #[] #[],.int .i64 130]) (.int .i64 4)).run prog w=.ok (.agg #[.func (.func 183) #[] #[],.int .i64 130]) w:=by kernel_rfl
attribute [local go_sem] Quq Qur Qus Qut Quu
theorem Qef(s:Yk)(w):Cl 121 #[.agg (Z4 s.leaf s)] w fun e w'=>e=.returned (.int .i64 s.mayE)∧Qc Qb w w':=by
 have S0:=O (Xx.new w s);have C0:=O ((Zg Qb w).alloc (.cells (Z4 s.leaf s) 40));have H1:=O (Qlf s);have H2:=O (Qic s);have H3:=O (Qid s);have H4:=O (Qie s);have hM:s.mayE=if s.named=false then 130 else if s.curvesB=false then 30 else if s.shapedB s.leaf=false then 130 else if s.sharedB=false then 130 else if s.aM=false then 130 else 0:=rfl;have hc:s.curvesB=(decide s.real.May&&(decide s.share.May&&decide s.aN.May)):=rfl;have hs:s.sharedB=(s.share.goes&&(s.aN.goes&&(s.aN.none||!s.share.none))):=rfl;have H5:s.curvesB=true→Hi (∀w,Cl 183 #[.agg (Z4 s.leaf s)] w fun e w'=>e=.returned (.bool s.aM)∧Qc Qb w w'):=fun h=>by rw[hc]at h;simp only[Zw,decide_eq_true_eq]at h;exact O (Qlg s h.1 h.2.2)
 rw[←hc]at H2;rw[←hs]at H4;rw[hM];clear hc hs hM;generalize s.named=x1 at H1⊢;generalize s.curvesB=x2 at H2 H5⊢;generalize s.shapedB s.leaf=x3 at H3⊢;generalize s.sharedB=x4 at H4⊢;cases x1 with
 |false=> clear H5;obtain⟨u,a1,z,B,E,I,J,K,R,U,c,d,k,q⟩:=S0.o.cells;go_enter func121,ntmps121;go_wp2;refine wp_loop_rounds 1 ?_;rw[rounds_succ];go_wp2_with fail;refine Zz (H1.o _) ?_;intro w1 V;have q1:=V.blk (Qh.new (w.alloc (.cells (Z4 s.leaf s) 40)) #[.func (.func 179) #[] #[],.int .i64 130] 235) (fun h=>h);have r1:=q1.cell 1;simp at r1;replace V:=((Zg Qb (w.alloc (.cells (Z4 s.leaf s) 40))).alloc (.cells #[.func (.func 179) #[] #[],.int .i64 130] 235)).aA V;have S1:=O (S0.o.aB V);have C1:=O (C0.o.aA V);clear V q1 u a1 z B E I J K R U c d k q;obtain⟨u,a1,z,B,E,I,J,K,R,U,c,d,k,q⟩:=S1.o.cells;have z1:=Qh.lt S1.o;go_wp2;go_ret;exact⟨rfl,C1.o⟩
 |true=>
  cases x2 with
  |false=> clear H5;obtain⟨u,a1,z,B,E,I,J,K,R,U,c,d,k,q⟩:=S0.o.cells;go_enter func121,ntmps121;go_wp2;refine wp_loop_rounds 2 ?_;rw[rounds_succ];go_wp2_with fail;refine Zz (H1.o _) ?_;intro w1 V;have q1:=V.blk (Qh.new (w.alloc (.cells (Z4 s.leaf s) 40)) #[.func (.func 179) #[] #[],.int .i64 130] 235) (fun h=>h);have r1:=q1.cell 1;simp at r1;replace V:=((Zg Qb (w.alloc (.cells (Z4 s.leaf s) 40))).alloc (.cells #[.func (.func 179) #[] #[],.int .i64 130] 235)).aA V;have S1:=O (S0.o.aB V);have C1:=O (C0.o.aA V);clear V q1 u a1 z B E I J K R U c d k q;obtain⟨u,a1,z,B,E,I,J,K,R,U,c,d,k,q⟩:=S1.o.cells;have z1:=Qh.lt S1.o;go_wp2;clear r1;rw[rounds_succ];go_wp2_with fail;refine Zz (H2.o _) ?_;intro w2 Z;have q2:=Z.blk (Qh.new w1 #[.func (.func 180) #[] #[],.int .i64 30] 235) (fun h=>h);have r2:=q2.cell 1;simp at r2;replace Z:=((Zg Qb w1).alloc (.cells #[.func (.func 180) #[] #[],.int .i64 30] 235)).aA Z;have S2:=O (S1.o.aB Z);have C2:=O (C1.o.aA Z);clear Z q2 u a1 z B E I J K R U c d k q;obtain⟨u,a1,z,B,E,I,J,K,R,U,c,d,k,q⟩:=S2.o.cells;have z2:=Qh.lt S2.o;clear z1;go_wp2;go_ret;exact⟨rfl,C2.o⟩
  |true=>
   replace H5:=H5 rfl;generalize s.aM=x5 at H5⊢;cases x3 with
   |false=> obtain⟨u,a1,z,B,E,I,J,K,R,U,c,d,k,q⟩:=S0.o.cells;go_enter func121,ntmps121;go_wp2;refine wp_loop_rounds 3 ?_;rw[rounds_succ];go_wp2_with fail;refine Zz (H1.o _) ?_;intro w1 V;have q1:=V.blk (Qh.new (w.alloc (.cells (Z4 s.leaf s) 40)) #[.func (.func 179) #[] #[],.int .i64 130] 235) (fun h=>h);have r1:=q1.cell 1;simp at r1;replace V:=((Zg Qb (w.alloc (.cells (Z4 s.leaf s) 40))).alloc (.cells #[.func (.func 179) #[] #[],.int .i64 130] 235)).aA V;have S1:=O (S0.o.aB V);have C1:=O (C0.o.aA V);clear V q1 u a1 z B E I J K R U c d k q;obtain⟨u,a1,z,B,E,I,J,K,R,U,c,d,k,q⟩:=S1.o.cells;have z1:=Qh.lt S1.o;go_wp2;clear r1;rw[rounds_succ];go_wp2_with fail;refine Zz (H2.o _) ?_;intro w2 Z;have q2:=Z.blk (Qh.new w1 #[.func (.func 180) #[] #[],.int .i64 30] 235) (fun h=>h);have r2:=q2.cell 1;simp at r2;replace Z:=((Zg Qb w1).alloc (.cells #[.func (.func 180) #[] #[],.int .i64 30] 235)).aA Z;have S2:=O (S1.o.aB Z);have C2:=O (C1.o.aA Z);clear Z q2 u a1 z B E I J K R U c d k q;obtain⟨u,a1,z,B,E,I,J,K,R,U,c,d,k,q⟩:=S2.o.cells;have z2:=Qh.lt S2.o;clear z1;go_wp2;clear r2;rw[rounds_succ];go_wp2_with fail;refine Zz (H3.o _) ?_;intro w3 c3;have q3:=c3.blk (Qh.new w2 #[.func (.func 181) #[] #[],.int .i64 130] 235) (fun h=>h);have r3:=q3.cell 1;simp at r3;replace c3:=((Zg Qb w2).alloc (.cells #[.func (.func 181) #[] #[],.int .i64 130] 235)).aA c3;have S3:=O (S2.o.aB c3);have C3:=O (C2.o.aA c3);clear c3 q3 u a1 z B E I J K R U c d k q;obtain⟨u,a1,z,B,E,I,J,K,R,U,c,d,k,q⟩:=S3.o.cells;have z3:=Qh.lt S3.o;clear z2;go_wp2;go_ret;exact⟨rfl,C3.o⟩
   |true=>
    cases x4 with
    |false=> obtain⟨u,a1,z,B,E,I,J,K,R,U,c,d,k,q⟩:=S0.o.cells;go_enter func121,ntmps121;go_wp2;refine wp_loop_rounds 4 ?_;rw[rounds_succ];go_wp2_with fail;refine Zz (H1.o _) ?_;intro w1 V;have q1:=V.blk (Qh.new (w.alloc (.cells (Z4 s.leaf s) 40)) #[.func (.func 179) #[] #[],.int .i64 130] 235) (fun h=>h);have r1:=q1.cell 1;simp at r1;replace V:=((Zg Qb (w.alloc (.cells (Z4 s.leaf s) 40))).alloc (.cells #[.func (.func 179) #[] #[],.int .i64 130] 235)).aA V;have S1:=O (S0.o.aB V);have C1:=O (C0.o.aA V);clear V q1 u a1 z B E I J K R U c d k q;obtain⟨u,a1,z,B,E,I,J,K,R,U,c,d,k,q⟩:=S1.o.cells;have z1:=Qh.lt S1.o;go_wp2;clear r1;rw[rounds_succ];go_wp2_with fail;refine Zz (H2.o _) ?_;intro w2 Z;have q2:=Z.blk (Qh.new w1 #[.func (.func 180) #[] #[],.int .i64 30] 235) (fun h=>h);have r2:=q2.cell 1;simp at r2;replace Z:=((Zg Qb w1).alloc (.cells #[.func (.func 180) #[] #[],.int .i64 30] 235)).aA Z;have S2:=O (S1.o.aB Z);have C2:=O (C1.o.aA Z);clear Z q2 u a1 z B E I J K R U c d k q;obtain⟨u,a1,z,B,E,I,J,K,R,U,c,d,k,q⟩:=S2.o.cells;have z2:=Qh.lt S2.o;clear z1;go_wp2;clear r2;rw[rounds_succ];go_wp2_with fail;refine Zz (H3.o _) ?_;intro w3 c3;have q3:=c3.blk (Qh.new w2 #[.func (.func 181) #[] #[],.int .i64 130] 235) (fun h=>h);have r3:=q3.cell 1;simp at r3;replace c3:=((Zg Qb w2).alloc (.cells #[.func (.func 181) #[] #[],.int .i64 130] 235)).aA c3;have S3:=O (S2.o.aB c3);have C3:=O (C2.o.aA c3);clear c3 q3 u a1 z B E I J K R U c d k q;obtain⟨u,a1,z,B,E,I,J,K,R,U,c,d,k,q⟩:=S3.o.cells;have z3:=Qh.lt S3.o;clear z2;go_wp2;clear r3;rw[rounds_succ];go_wp2_with fail;refine Zz (H4.o _) ?_;intro w4 c4;have q4:=c4.blk (Qh.new w3 #[.func (.func 182) #[] #[],.int .i64 130] 235) (fun h=>h);have r4:=q4.cell 1;simp at r4;replace c4:=((Zg Qb w3).alloc (.cells #[.func (.func 182) #[] #[],.int .i64 130] 235)).aA c4;have S4:=O (S3.o.aB c4);have C4:=O (C3.o.aA c4);clear c4 q4 u a1 z B E I J K R U c d k q;obtain⟨u,a1,z,B,E,I,J,K,R,U,c,d,k,q⟩:=S4.o.cells;have z4:=Qh.lt S4.o;clear z3;go_wp2;go_ret;exact⟨rfl,C4.o⟩
    |true=>
     cases x5 with
     |false=> obtain⟨u,a1,z,B,E,I,J,K,R,U,c,d,k,q⟩:=S0.o.cells;go_enter func121,ntmps121;go_wp2;refine wp_loop_rounds 5 ?_;rw[rounds_succ];go_wp2_with fail;refine Zz (H1.o _) ?_;intro w1 V;have q1:=V.blk (Qh.new (w.alloc (.cells (Z4 s.leaf s) 40)) #[.func (.func 179) #[] #[],.int .i64 130] 235) (fun h=>h);have r1:=q1.cell 1;simp at r1;replace V:=((Zg Qb (w.alloc (.cells (Z4 s.leaf s) 40))).alloc (.cells #[.func (.func 179) #[] #[],.int .i64 130] 235)).aA V;have S1:=O (S0.o.aB V);have C1:=O (C0.o.aA V);clear V q1 u a1 z B E I J K R U c d k q;obtain⟨u,a1,z,B,E,I,J,K,R,U,c,d,k,q⟩:=S1.o.cells;have z1:=Qh.lt S1.o;go_wp2;clear r1;rw[rounds_succ];go_wp2_with fail;refine Zz (H2.o _) ?_;intro w2 Z;have q2:=Z.blk (Qh.new w1 #[.func (.func 180) #[] #[],.int .i64 30] 235) (fun h=>h);have r2:=q2.cell 1;simp at r2;replace Z:=((Zg Qb w1).alloc (.cells #[.func (.func 180) #[] #[],.int .i64 30] 235)).aA Z;have S2:=O (S1.o.aB Z);have C2:=O (C1.o.aA Z);clear Z q2 u a1 z B E I J K R U c d k q;obtain⟨u,a1,z,B,E,I,J,K,R,U,c,d,k,q⟩:=S2.o.cells;have z2:=Qh.lt S2.o;clear z1;go_wp2;clear r2;rw[rounds_succ];go_wp2_with fail;refine Zz (H3.o _) ?_;intro w3 c3;have q3:=c3.blk (Qh.new w2 #[.func (.func 181) #[] #[],.int .i64 130] 235) (fun h=>h);have r3:=q3.cell 1;simp at r3;replace c3:=((Zg Qb w2).alloc (.cells #[.func (.func 181) #[] #[],.int .i64 130] 235)).aA c3;have S3:=O (S2.o.aB c3);have C3:=O (C2.o.aA c3);clear c3 q3 u a1 z B E I J K R U c d k q;obtain⟨u,a1,z,B,E,I,J,K,R,U,c,d,k,q⟩:=S3.o.cells;have z3:=Qh.lt S3.o;clear z2;go_wp2;clear r3;rw[rounds_succ];go_wp2_with fail;refine Zz (H4.o _) ?_;intro w4 c4;have q4:=c4.blk (Qh.new w3 #[.func (.func 182) #[] #[],.int .i64 130] 235) (fun h=>h);have r4:=q4.cell 1;simp at r4;replace c4:=((Zg Qb w3).alloc (.cells #[.func (.func 182) #[] #[],.int .i64 130] 235)).aA c4;have S4:=O (S3.o.aB c4);have C4:=O (C3.o.aA c4);clear c4 q4 u a1 z B E I J K R U c d k q;obtain⟨u,a1,z,B,E,I,J,K,R,U,c,d,k,q⟩:=S4.o.cells;have z4:=Qh.lt S4.o;clear z3;go_wp2;clear r4;rw[rounds_succ];go_wp2_with fail;refine Zz (H5.o _) ?_;intro w5 c5;have q5:=c5.blk (Qh.new w4 #[.func (.func 183) #[] #[],.int .i64 130] 235) (fun h=>h);have r5:=q5.cell 1;simp at r5;replace c5:=((Zg Qb w4).alloc (.cells #[.func (.func 183) #[] #[],.int .i64 130] 235)).aA c5;have S5:=O (S4.o.aB c5);have C5:=O (C4.o.aA c5);clear c5 q5 u a1 z B E I J K R U c d k q;obtain⟨u,a1,z,B,E,I,J,K,R,U,c,d,k,q⟩:=S5.o.cells;have z5:=Qh.lt S5.o;clear z4;go_wp2;go_ret;exact⟨rfl,C5.o⟩
     |true=> obtain⟨u,a1,z,B,E,I,J,K,R,U,c,d,k,q⟩:=S0.o.cells;go_enter func121,ntmps121;go_wp2;refine wp_loop_rounds 6 ?_;rw[rounds_succ];go_wp2_with fail;refine Zz (H1.o _) ?_;intro w1 V;have q1:=V.blk (Qh.new (w.alloc (.cells (Z4 s.leaf s) 40)) #[.func (.func 179) #[] #[],.int .i64 130] 235) (fun h=>h);have r1:=q1.cell 1;simp at r1;replace V:=((Zg Qb (w.alloc (.cells (Z4 s.leaf s) 40))).alloc (.cells #[.func (.func 179) #[] #[],.int .i64 130] 235)).aA V;have S1:=O (S0.o.aB V);have C1:=O (C0.o.aA V);clear V q1 u a1 z B E I J K R U c d k q;obtain⟨u,a1,z,B,E,I,J,K,R,U,c,d,k,q⟩:=S1.o.cells;have z1:=Qh.lt S1.o;go_wp2;clear r1;rw[rounds_succ];go_wp2_with fail;refine Zz (H2.o _) ?_;intro w2 Z;have q2:=Z.blk (Qh.new w1 #[.func (.func 180) #[] #[],.int .i64 30] 235) (fun h=>h);have r2:=q2.cell 1;simp at r2;replace Z:=((Zg Qb w1).alloc (.cells #[.func (.func 180) #[] #[],.int .i64 30] 235)).aA Z;have S2:=O (S1.o.aB Z);have C2:=O (C1.o.aA Z);clear Z q2 u a1 z B E I J K R U c d k q;obtain⟨u,a1,z,B,E,I,J,K,R,U,c,d,k,q⟩:=S2.o.cells;have z2:=Qh.lt S2.o;clear z1;go_wp2;clear r2;rw[rounds_succ];go_wp2_with fail;refine Zz (H3.o _) ?_;intro w3 c3;have q3:=c3.blk (Qh.new w2 #[.func (.func 181) #[] #[],.int .i64 130] 235) (fun h=>h);have r3:=q3.cell 1;simp at r3;replace c3:=((Zg Qb w2).alloc (.cells #[.func (.func 181) #[] #[],.int .i64 130] 235)).aA c3;have S3:=O (S2.o.aB c3);have C3:=O (C2.o.aA c3);clear c3 q3 u a1 z B E I J K R U c d k q;obtain⟨u,a1,z,B,E,I,J,K,R,U,c,d,k,q⟩:=S3.o.cells;have z3:=Qh.lt S3.o;clear z2;go_wp2;clear r3;rw[rounds_succ];go_wp2_with fail;refine Zz (H4.o _) ?_;intro w4 c4;have q4:=c4.blk (Qh.new w3 #[.func (.func 182) #[] #[],.int .i64 130] 235) (fun h=>h);have r4:=q4.cell 1;simp at r4;replace c4:=((Zg Qb w3).alloc (.cells #[.func (.func 182) #[] #[],.int .i64 130] 235)).aA c4;have S4:=O (S3.o.aB c4);have C4:=O (C3.o.aA c4);clear c4 q4 u a1 z B E I J K R U c d k q;obtain⟨u,a1,z,B,E,I,J,K,R,U,c,d,k,q⟩:=S4.o.cells;have z4:=Qh.lt S4.o;clear z3;go_wp2;clear r4;rw[rounds_succ];go_wp2_with fail;refine Zz (H5.o _) ?_;intro w5 c5;have q5:=c5.blk (Qh.new w4 #[.func (.func 183) #[] #[],.int .i64 130] 235) (fun h=>h);have r5:=q5.cell 1;simp at r5;replace c5:=((Zg Qb w4).alloc (.cells #[.func (.func 183) #[] #[],.int .i64 130] 235)).aA c5;have S5:=O (S4.o.aB c5);have C5:=O (C4.o.aA c5);clear c5 q5 u a1 z B E I J K R U c d k q;obtain⟨u,a1,z,B,E,I,J,K,R,U,c,d,k,q⟩:=S5.o.cells;have z5:=Qh.lt S5.o;clear z4;go_wp2;clear r5;rw[rounds_succ];go_wp2;go_ret;exact⟨rfl,C5.o⟩
end
structure Vm where
 sp:Yk
 d:Nat
def Vm.id(c:Vm):Int:=c.sp.id
abbrev Qm:=List Vm
def Qm.at(h:Qm)(id:Int):Option Vm:=h.find? fun c=>decide (c.sp.id=id)
def Qm.aM(h:Qm)(id:Int):List Int:=(h.filter fun c=>decide (c.sp.par=id)).map (·.sp.id)
def Mb(c:Vm):Qm→Qm
 |[]=>[c]
 |x::l=>if c.sp.id<x.sp.id then c::x::l else x::Mb c l
def Qm.depth(h:Qm)(par:Int):Nat:=if par=0 then 1 else match h.at par with
 |none=>0
 |some p=>if p.sp.leaf||decide (8≤p.d)then 0 else p.d+1
def Qm.aO(h:Qm)(s:Yk):Int:=
 if s.mayE≠0 then 130 else if 64≤h.length then 4 else if(h.at s.id).isSome then 80 else if h.depth s.par=0 then 160 else 0
def Qm.add(h:Qm)(s:Yk):Qm:=if h.aO s=0 then Mb ⟨s,h.depth s.par⟩ h else h
def Yk.aK(a s:Yk):Yk:={a with real:=s.real,share:=s.share,aN:=s.aN}
def Qm.aG(h:Qm)(s:Yk):Int:=match h.at s.id with
 |none=>81
 |some c=>if(c.sp.aK s).mayE≠0 then 130 else 0
def Qm.change(h:Qm)(s:Yk):Qm:=if h.aG s=0 then h.map fun x=>if x.sp.id=s.id then⟨x.sp.aK s,x.d⟩else x else h
def Qm.aP(h:Qm)(id:Int):Int:=match h.at id with
 |none=>81
 |some _=>if h.aM id≠[]then 161 else 0
def Qm.drop(h:Qm)(id:Int):Qm:=if h.aP id=0 then h.filter fun x=>!decide (x.sp.id=id)else h
def Qm.path(h:Qm):Nat→Int→List Int
 |0,_=>[]
 |n+1,id=>match h.at id with
  |none=>[]
  |some c=>id::h.path n c.sp.par
def Qm.below(h:Qm)(id x:Int):Bool:=decide (id=0)||(h.path 9 x).contains id
def Qm.aI(h:Qm)(id:Int):List Int:=(h.filter fun c=>c.sp.leaf&&h.below id c.sp.id).map (·.sp.id)
def Eo(n most:Int):Int:=if most<1∨65536≤most then 2 else if n<1∨most<n then 100 else 0
structure Qw where
 id:Int
 pk:Nat
 bt:Nat
 q:List Jr
 debt:Option Ju
structure Qf where
 most:Int
 tree:Qm
 aI:List Qw
 row:List Xu
 pick:Qe
def Qf.new(most:Int):Qf:=⟨most,[],[],[],Qe.new⟩
def Xl(c:Jy):Option Ju:=if c.none then none else some (Ju.new c)
def Yk.aJ(s:Yk):Bool:=!s.share.none&&decide s.share.May
def Ha(c:Jy):Kg:=if c.none||!decide c.May then none else some (.new c)
def Qe.put(p:Qe)(s:Yk):Qe:=match p.at s.par with
 |none=>p
 |some q=>if s.id<1||(p.at s.id).isSome||q.leaf then p else
  Qe.set (p++[⟨s.id,s.par,s.leaf,s.aJ,0,Ha s.aN,⟨[],0⟩,[],0⟩]) {q with mem:=if s.aJ then q.mem.add s.id s.share else q.mem,aM:=q.aM+1}
def Qe.drop(p:Qe)(id:Int):Qe:=match p.at id with
 |none=>p
 |some c=>if id<1||decide (0<c.aM)||p.aL id then p else match p.at c.par with
  |none=>p
  |some q=>(p.set {q with mem:=q.mem.drop id,aM:=q.aM-1}).filter fun x=>!decide (x.id=id)
def Qe.aK(p:Qe)(s:Yk):Qe:=match p.at s.id with
 |none=>p
 |some c=>if s.id<1||p.aL s.id then p else
  (p.fam s.id fun f=>if s.aJ then(f.drop s.id).add s.id s.share else f.drop s.id).map fun x=>if x.id=s.id then{x with aJ:=s.aJ,total:=0,limit:=Ha s.aN}else x
def Qf.leaf(s:Qf)(id:Int):Option Qw:=s.aI.find? fun l=>decide (l.id=id)
def Qf.setLeaf(s:Qf)(l:Qw):Qf:={s with aI:=s.aI.map fun x=>if x.id=l.id then l else x}
def Qf.qOf(s:Qf)(id:Int):List Jr:=((s.leaf id).map (·.q)).getD []
def Qf.many(s:Qf)(id:Int):Int:=((s.tree.aI id).map fun x=>((s.qOf x).length:Int)).sum
def Qf.bytes(s:Qf)(id:Int):Int:=((s.tree.aI id).map fun x=>Jn (s.qOf x)).sum
def Qf.aO(s:Qf)(c:Yk):Int:=s.tree.aO c
def Qf.add(s:Qf)(c:Yk):Qf:=if s.aO c=0 then
  {s with tree:=s.tree.add c,pick:=s.pick.put c,aI:=if c.leaf then s.aI++[⟨c.id,c.pk.toNat,c.bt.toNat,[],Xl c.real⟩]else s.aI}
 else s
def Qf.aG(s:Qf)(c:Yk):Int:=if(s.tree.at c.id).isNone then 81 else if 0<s.many c.id then 230 else s.tree.aG c
def Qf.change(s:Qf)(c:Yk):Qf:=if s.aG c=0 then
  {s with tree:=s.tree.change c,pick:=s.pick.aK c,aI:=s.aI.map fun l=>if l.id=c.id then{l with debt:=Xl c.real}else l}
 else s
def Qf.aP(s:Qf)(id:Int):Int:=if(s.tree.at id).isNone then 81 else if s.tree.aM id≠[]then 161 else if 0<s.many id then 230 else 0
def Qf.drop(s:Qf)(id:Int):Qf:=if s.aP id=0 then
  {s with tree:=s.tree.drop id,pick:=s.pick.drop id,aI:=s.aI.filter fun l=>!decide (l.id=id)}
 else s
def Hj(row:List Xu)(id:Int)(d:Ju):List Xu:=if d.aL then Vf id d.elig d.due row else Xa id row
def Qf.owe(s:Qf)(l:Qw)(f:Ju→Ju):Qf:=match l.debt with
 |none=>s.setLeaf l
 |some d=>{s.setLeaf {l with debt:=some (f d)}with row:=Hj s.row l.id (f d)}
def Qf.aQ(s:Qf)(p:Jr):Int:=match s.tree.at p.cls with
 |none=>81
 |some c=>if !c.sp.leaf then 162 else if Eo p.len s.most≠0 then Eo p.len s.most else match s.leaf p.cls with
  |none=>1
  |some l=>if l.q.length=l.pk∨(l.bt:Int)-Jn l.q<p.len then 110 else 0
def Qf.push(s:Qf)(p:Jr)(now:Nat):Qf:=if s.aQ p=0 then match s.leaf p.cls with
  |none=>s
  |some l=>
   let l':={l with q:=l.q++[p]}
   if l.q≠[]then s.setLeaf l' else
    let s':=s.owe l' fun d=>d.wake now p.len
    {s' with pick:=s'.pick.wake p.cls now}
 else s
structure ChM where
 p:Jr
 rule:Nat
 due:Nat
def Qf.takeC(s:Qf)(id:Int)(rule:Nat):ChM:=match s.leaf id with
 |none=>⟨Jr.zero,rule,0⟩
 |some l=>⟨l.q.headD Jr.zero,rule,match l.debt with
  |none=>0
  |some d=>if rule=1 then d.dueAt else 0⟩
def Qf.take(s:Qf)(id:Int)(rule:Nat):Qf:=match s.leaf id with
 |none=>s
 |some l=>
  let p:=l.q.headD Jr.zero;let c:=l.q.tail.headD Jr.zero;let s':=s.owe {l with q:=l.q.tail} fun d=>d.serve rule p.len c.len
  {s' with pick:=s'.pick.sent id (p.len*256).toNat (decide (l.q.tail≠[]))}
def Qf.who(s:Qf)(now:Nat):Option (Int×Nat):=match Jt now s.row with
 |some x=>some (x.2,1)
 |none=>(s.pick.next now 10 0).map fun id=>(id,2)
def Qf.next(s:Qf)(now:Nat):Option ChM×Qf:=match s.who now with
 |none=>(none,s)
 |some (id,rule)=>(some (s.takeC id rule),s.take id rule)
def Hk(row:List Xu):Nat:=match row with
 |[]=>Qq
 |e::_=>e.1
def Qf.tick(s:Qf):Nat:=min (Hk s.row) s.pick.tick
def Qf.elig(s:Qf)(id:Int):Nat:=(((s.leaf id).bind (·.debt)).map (·.from_)).getD Qq
def Qf.due(s:Qf)(id:Int):Nat:=(((s.leaf id).bind (·.debt)).map (·.dueAt)).getD Qq
end Go.Proofs.YtnnhmpehkbihnaaGreat
