/- A part of the proof: no condition. -/
import Derived.Test.YtnnhmpehkbihnaaGreatPs12
import Derived.Laws.StructEq
namespace Go.Proofs.YtnnhmpehkbihnaaGreat
set_option linter.unusedVariables false
set_option maxRecDepth 100000
set_option maxHeartbeats 4000000
open Go.RowKit
open Go.Proofs.Tryz
def Up(w:World)(g:Nat)(s:Yk)(b:Bool):Prop:=Qh w g (Z4 b s) 40
theorem Up.aB{w w'}{g:Nat}{s:Yk}{b:Bool}(h:Up w g s b)(c:Qc Qb w w'):Up w' g s b:=c.blk h (fun h=>h)
theorem Up.cells{w}{g:Nat}{s:Yk}{b:Bool}(h:Up w g s b):w.cell? ⟨g,0,none⟩=some (.int .i64 s.id)∧w.cell? ⟨g,1,none⟩=some (.int .i64 s.par)∧w.cell? ⟨g,2,none⟩=some (.bool b)∧w.cell? ⟨g,3,none⟩=some (.int .u64 s.real.f)∧w.cell? ⟨g,4,none⟩=some (.int .u64 s.real.l)∧w.cell? ⟨g,5,none⟩=some (.int .u64 s.real.r)∧w.cell? ⟨g,6,none⟩=some (.int .u64 s.share.f)∧w.cell? ⟨g,7,none⟩=some (.int .u64 s.share.l)∧w.cell? ⟨g,8,none⟩=some (.int .u64 s.share.r)∧w.cell? ⟨g,9,none⟩=some (.int .u64 s.aN.f)∧w.cell? ⟨g,10,none⟩=some (.int .u64 s.aN.l)∧w.cell? ⟨g,11,none⟩=some (.int .u64 s.aN.r)∧w.cell? ⟨g,12,none⟩=some (.int .i64 s.pk)∧w.cell? ⟨g,13,none⟩=some (.int .i64 s.bt):=
 ⟨Qh.cell h 0,Qh.cell h 1,Qh.cell h 2,Qh.cell h 3,Qh.cell h 4,Qh.cell h 5,Qh.cell h 6,Qh.cell h 7,Qh.cell h 8,Qh.cell h 9,Qh.cell h 10,Qh.cell h 11,Qh.cell h 12,Qh.cell h 13⟩
theorem Up.new(w:World)(s:Yk)(b:Bool):Up (w.alloc (.cells (Z4 b s) 40)) w.heap.size s b:=Qh.new _ _ _
theorem Up.curves{w w'}{g:Nat}{s:Yk}{b:Bool}(h:Up w g s b)(c:Qc Qb w w'):w'.cell? ⟨g,3,none⟩=some (.int .u64 s.real.f)∧w'.cell? ⟨g,4,none⟩=some (.int .u64 s.real.l)∧w'.cell? ⟨g,5,none⟩=some (.int .u64 s.real.r)∧w'.cell? ⟨g,6,none⟩=some (.int .u64 s.share.f)∧w'.cell? ⟨g,7,none⟩=some (.int .u64 s.share.l)∧w'.cell? ⟨g,8,none⟩=some (.int .u64 s.share.r):=
 ⟨Qh.cell (h.aB c) 3,Qh.cell (h.aB c) 4,Qh.cell (h.aB c) 5,Qh.cell (h.aB c) 6,Qh.cell (h.aB c) 7,Qh.cell (h.aB c) 8⟩
def Qrr(b x y:Bool):Int:=if b=false then 4 else if x=false∧y=false then 3 else if x=false then 1 else if y=false then 2 else 0
theorem Qsr(s:Yk)(b:Bool)(w):Cl 216 #[.agg (Z4 b s)] w fun e w'=>e=.returned (.int .u8 (Qrr b s.real.none s.share.none))∧Qc Qb w w':=by
 have R:=O (Kz s.real);have U:=O (Kz s.share);generalize s.real.none=x at R⊢;generalize s.share.none=y at U⊢;cases b with
 |false=>
  have u:=O (Up.new w s false);have z:=O ((Zg Qb w).alloc (.cells (Z4 false s) 40));have d:=O (fun(w')(c:Qc Qb (w.alloc (.cells (Z4 false s) 40)) w')=>u.o.curves c);go_enter func216,ntmps216;go_wp2;go_region_held3 (fun w':World=>w'.cell? ⟨w.heap.size,3,none⟩=some (.int .u64 s.real.f)∧w'.cell? ⟨w.heap.size,4,none⟩=some (.int .u64 s.real.l)∧w'.cell? ⟨w.heap.size,5,none⟩=some (.int .u64 s.real.r)∧w'.cell? ⟨w.heap.size,6,none⟩=some (.int .u64 s.share.f)∧w'.cell? ⟨w.heap.size,7,none⟩=some (.int .u64 s.share.l)∧w'.cell? ⟨w.heap.size,8,none⟩=some (.int .u64 s.share.r)) (exact d.o _ (by(repeat' (first|(with_reducible first|exact Zg _ _|assumption|refine Zh ?_ _|refine Zi ?_ _|refine Zj ?_|refine Zk ?_ _ ?_|(apply Or.inl;rfl))|(apply Or.inl;simp;done)|(apply Or.inr;simp;first|done|omega))))) (first|(go_at_call 128;refine(R.o _).mono ?_;rintro e w5⟨rfl,q⟩;replace q:Qc Qb (w.alloc (.cells (Z4 false s) 40)) w5:=Qc.aA (Zj (Zg _ _)) q)|(go_at_call 128;refine(U.o _).mono ?_;rintro e w6⟨rfl,k⟩;replace k:Qc Qb (w.alloc (.cells (Z4 false s) 40)) w6:=Qc.aA q k));all_goals
   have K:=O (z.o.aA k);obtain⟨V,a1,Z,a3,a4,a5,a6,a7,a8,a9,B,E,I,J⟩:=(u.o.aB k).cells;clear q k;go_wp2;go_ret;exact⟨rfl,K.o⟩
 |true=>
  cases x with
  |false=>
   cases y with
   |false=>
    have u:=O (Up.new w s true);have z:=O ((Zg Qb w).alloc (.cells (Z4 true s) 40));have d:=O (fun(w')(c:Qc Qb (w.alloc (.cells (Z4 true s) 40)) w')=>u.o.curves c);go_enter func216,ntmps216;go_wp2;go_region_held3 (fun w':World=>w'.cell? ⟨w.heap.size,3,none⟩=some (.int .u64 s.real.f)∧w'.cell? ⟨w.heap.size,4,none⟩=some (.int .u64 s.real.l)∧w'.cell? ⟨w.heap.size,5,none⟩=some (.int .u64 s.real.r)∧w'.cell? ⟨w.heap.size,6,none⟩=some (.int .u64 s.share.f)∧w'.cell? ⟨w.heap.size,7,none⟩=some (.int .u64 s.share.l)∧w'.cell? ⟨w.heap.size,8,none⟩=some (.int .u64 s.share.r)) (exact d.o _ (by(repeat' (first|(with_reducible first|exact Zg _ _|assumption|refine Zh ?_ _|refine Zi ?_ _|refine Zj ?_|refine Zk ?_ _ ?_|(apply Or.inl;rfl))|(apply Or.inl;simp;done)|(apply Or.inr;simp;first|done|omega))))) (first|(go_at_call 128;refine(R.o _).mono ?_;rintro e w5⟨rfl,q⟩;replace q:Qc Qb (w.alloc (.cells (Z4 true s) 40)) w5:=Qc.aA (Zj (Zg _ _)) q)|(go_at_call 128;refine(U.o _).mono ?_;rintro e w6⟨rfl,k⟩;replace k:Qc Qb (w.alloc (.cells (Z4 true s) 40)) w6:=Qc.aA q k));all_goals
     have K:=O (z.o.aA k);obtain⟨V,a1,Z,a3,a4,a5,a6,a7,a8,a9,B,E,I,J⟩:=(u.o.aB k).cells;clear q k;go_wp2;go_ret;exact⟨rfl,K.o⟩
   |true=>
    have u:=O (Up.new w s true);have z:=O ((Zg Qb w).alloc (.cells (Z4 true s) 40));have d:=O (fun(w')(c:Qc Qb (w.alloc (.cells (Z4 true s) 40)) w')=>u.o.curves c);go_enter func216,ntmps216;go_wp2;go_region_held3 (fun w':World=>w'.cell? ⟨w.heap.size,3,none⟩=some (.int .u64 s.real.f)∧w'.cell? ⟨w.heap.size,4,none⟩=some (.int .u64 s.real.l)∧w'.cell? ⟨w.heap.size,5,none⟩=some (.int .u64 s.real.r)∧w'.cell? ⟨w.heap.size,6,none⟩=some (.int .u64 s.share.f)∧w'.cell? ⟨w.heap.size,7,none⟩=some (.int .u64 s.share.l)∧w'.cell? ⟨w.heap.size,8,none⟩=some (.int .u64 s.share.r)) (exact d.o _ (by(repeat' (first|(with_reducible first|exact Zg _ _|assumption|refine Zh ?_ _|refine Zi ?_ _|refine Zj ?_|refine Zk ?_ _ ?_|(apply Or.inl;rfl))|(apply Or.inl;simp;done)|(apply Or.inr;simp;first|done|omega))))) (first|(go_at_call 128;refine(R.o _).mono ?_;rintro e w5⟨rfl,q⟩;replace q:Qc Qb (w.alloc (.cells (Z4 true s) 40)) w5:=Qc.aA (Zj (Zg _ _)) q)|(go_at_call 128;refine(U.o _).mono ?_;rintro e w6⟨rfl,k⟩;replace k:Qc Qb (w.alloc (.cells (Z4 true s) 40)) w6:=Qc.aA q k));all_goals
     have K:=O (z.o.aA k);obtain⟨V,a1,Z,a3,a4,a5,a6,a7,a8,a9,B,E,I,J⟩:=(u.o.aB k).cells;clear q k;go_wp2;go_ret;exact⟨rfl,K.o⟩
  |true=>
   cases y with
   |false=>
    have u:=O (Up.new w s true);have z:=O ((Zg Qb w).alloc (.cells (Z4 true s) 40));have d:=O (fun(w')(c:Qc Qb (w.alloc (.cells (Z4 true s) 40)) w')=>u.o.curves c);go_enter func216,ntmps216;go_wp2;go_region_held3 (fun w':World=>w'.cell? ⟨w.heap.size,3,none⟩=some (.int .u64 s.real.f)∧w'.cell? ⟨w.heap.size,4,none⟩=some (.int .u64 s.real.l)∧w'.cell? ⟨w.heap.size,5,none⟩=some (.int .u64 s.real.r)∧w'.cell? ⟨w.heap.size,6,none⟩=some (.int .u64 s.share.f)∧w'.cell? ⟨w.heap.size,7,none⟩=some (.int .u64 s.share.l)∧w'.cell? ⟨w.heap.size,8,none⟩=some (.int .u64 s.share.r)) (exact d.o _ (by(repeat' (first|(with_reducible first|exact Zg _ _|assumption|refine Zh ?_ _|refine Zi ?_ _|refine Zj ?_|refine Zk ?_ _ ?_|(apply Or.inl;rfl))|(apply Or.inl;simp;done)|(apply Or.inr;simp;first|done|omega))))) (first|(go_at_call 128;refine(R.o _).mono ?_;rintro e w5⟨rfl,q⟩;replace q:Qc Qb (w.alloc (.cells (Z4 true s) 40)) w5:=Qc.aA (Zj (Zg _ _)) q)|(go_at_call 128;refine(U.o _).mono ?_;rintro e w6⟨rfl,k⟩;replace k:Qc Qb (w.alloc (.cells (Z4 true s) 40)) w6:=Qc.aA q k));all_goals
     have K:=O (z.o.aA k);obtain⟨V,a1,Z,a3,a4,a5,a6,a7,a8,a9,B,E,I,J⟩:=(u.o.aB k).cells;clear q k;go_wp2;go_ret;exact⟨rfl,K.o⟩
   |true=>
    have u:=O (Up.new w s true);have z:=O ((Zg Qb w).alloc (.cells (Z4 true s) 40));have d:=O (fun(w')(c:Qc Qb (w.alloc (.cells (Z4 true s) 40)) w')=>u.o.curves c);go_enter func216,ntmps216;go_wp2;go_region_held3 (fun w':World=>w'.cell? ⟨w.heap.size,3,none⟩=some (.int .u64 s.real.f)∧w'.cell? ⟨w.heap.size,4,none⟩=some (.int .u64 s.real.l)∧w'.cell? ⟨w.heap.size,5,none⟩=some (.int .u64 s.real.r)∧w'.cell? ⟨w.heap.size,6,none⟩=some (.int .u64 s.share.f)∧w'.cell? ⟨w.heap.size,7,none⟩=some (.int .u64 s.share.l)∧w'.cell? ⟨w.heap.size,8,none⟩=some (.int .u64 s.share.r)) (exact d.o _ (by(repeat' (first|(with_reducible first|exact Zg _ _|assumption|refine Zh ?_ _|refine Zi ?_ _|refine Zj ?_|refine Zk ?_ _ ?_|(apply Or.inl;rfl))|(apply Or.inl;simp;done)|(apply Or.inr;simp;first|done|omega))))) (first|(go_at_call 128;refine(R.o _).mono ?_;rintro e w5⟨rfl,q⟩;replace q:Qc Qb (w.alloc (.cells (Z4 true s) 40)) w5:=Qc.aA (Zj (Zg _ _)) q)|(go_at_call 128;refine(U.o _).mono ?_;rintro e w6⟨rfl,k⟩;replace k:Qc Qb (w.alloc (.cells (Z4 true s) 40)) w6:=Qc.aA q k));all_goals
     have K:=O (z.o.aA k);obtain⟨V,a1,Z,a3,a4,a5,a6,a7,a8,a9,B,E,I,J⟩:=(u.o.aB k).cells;clear q k;go_wp2;go_ret;exact⟨rfl,K.o⟩
def Yk.shapedB(s:Yk)(b:Bool):Bool:=if b then(Qrr b s.real.none s.share.none != 0)&&(inB s.pk 1 4096&&inB s.bt 1 16777216)else s.real.none&&(!s.share.none&&((s.pk==0)&&(s.bt==0)))
theorem Qpi(s:Yk)(b:Bool)(w):Cl 181 #[.agg (Z4 b s)] w fun e w'=>e=.returned (.bool (s.shapedB b))∧Qc Qb w w':=by
 unfold Yk.shapedB;cases b with
 |true=>
  have H1:=O (Qsr s true);have H2:=O (Ac s.pk 1 4096);have H3:=O (Ac s.bt 1 16777216);rw[if_pos rfl];generalize inB s.pk 1 4096=x at H2⊢;generalize inB s.bt 1 16777216=y at H3⊢;generalize Qrr true s.real.none s.share.none=k at H1⊢;cases hk:k != 0 with
  |false=> have S0:=O (Up.new w s true);have C0:=O ((Zg Qb w).alloc (.cells (Z4 true s) 40));obtain⟨B,a1,E,I,J,K,R,U,V,Z,c,d,q,u⟩:=S0.o.cells;go_enter func181,ntmps181;go_wp2_with fail;refine Zz (H1.o _) ?_;intro w1 z;have S1:=O (S0.o.aB z);have C1:=O (C0.o.aA z);clear z B a1 E I J K R U V Z c d q u;obtain⟨B,a1,E,I,J,K,R,U,V,Z,c,d,q,u⟩:=S1.o.cells;go_wp2;go_ret;exact⟨rfl,C1.o⟩
  |true=>
   cases x with
   |false=> have S0:=O (Up.new w s true);have C0:=O ((Zg Qb w).alloc (.cells (Z4 true s) 40));obtain⟨B,a1,E,I,J,K,R,U,V,Z,c,d,q,u⟩:=S0.o.cells;go_enter func181,ntmps181;go_wp2_with fail;refine Zz (H1.o _) ?_;intro w1 z;have S1:=O (S0.o.aB z);have C1:=O (C0.o.aA z);clear z B a1 E I J K R U V Z c d q u;obtain⟨B,a1,E,I,J,K,R,U,V,Z,c,d,q,u⟩:=S1.o.cells;go_wp2_with fail;refine Zz (H2.o _) ?_;rintro aa rfl;go_wp2;go_ret;exact⟨rfl,C1.o⟩
   |true=> have S0:=O (Up.new w s true);have C0:=O ((Zg Qb w).alloc (.cells (Z4 true s) 40));obtain⟨B,a1,E,I,J,K,R,U,V,Z,c,d,q,u⟩:=S0.o.cells;go_enter func181,ntmps181;go_wp2_with fail;refine Zz (H1.o _) ?_;intro w1 z;have S1:=O (S0.o.aB z);have C1:=O (C0.o.aA z);clear z B a1 E I J K R U V Z c d q u;obtain⟨B,a1,E,I,J,K,R,U,V,Z,c,d,q,u⟩:=S1.o.cells;go_wp2_with fail;refine Zz (H2.o _) ?_;rintro aa rfl;go_wp2_with fail;refine Zz (H3.o _) ?_;rintro ab rfl;go_wp2;go_ret;exact⟨rfl,C1.o⟩
 |false=>
  have H1:=O (Kz s.real);have H2:=O (Kz s.share);rw[if_neg (by simp)];generalize s.real.none=x at H1⊢;generalize s.share.none=y at H2⊢;cases x with
  |false=> have S0:=O (Up.new w s false);have C0:=O ((Zg Qb w).alloc (.cells (Z4 false s) 40));obtain⟨B,a1,E,I,J,K,R,U,V,Z,c,d,q,u⟩:=S0.o.cells;go_enter func181,ntmps181;go_wp2_with fail;refine Zz (H1.o _) ?_;intro w1 z;have S1:=O (S0.o.aB z);have C1:=O (C0.o.aA z);clear z B a1 E I J K R U V Z c d q u;obtain⟨B,a1,E,I,J,K,R,U,V,Z,c,d,q,u⟩:=S1.o.cells;go_wp2;go_ret;exact⟨rfl,C1.o⟩
  |true=>
   cases y with
   |true=> have S0:=O (Up.new w s false);have C0:=O ((Zg Qb w).alloc (.cells (Z4 false s) 40));obtain⟨B,a1,E,I,J,K,R,U,V,Z,c,d,q,u⟩:=S0.o.cells;go_enter func181,ntmps181;go_wp2_with fail;refine Zz (H1.o _) ?_;intro w1 z;have S1:=O (S0.o.aB z);have C1:=O (C0.o.aA z);clear z B a1 E I J K R U V Z c d q u;obtain⟨B,a1,E,I,J,K,R,U,V,Z,c,d,q,u⟩:=S1.o.cells;go_wp2_with fail;refine Zz (H2.o _) ?_;intro w2 c2;have S2:=O (S1.o.aB c2);have C2:=O (C1.o.aA c2);clear c2 B a1 E I J K R U V Z c d q u;obtain⟨B,a1,E,I,J,K,R,U,V,Z,c,d,q,u⟩:=S2.o.cells;go_wp2;go_ret;exact⟨rfl,C2.o⟩
   |false=>
    cases hp:s.pk==0 with
    |false=> have S0:=O (Up.new w s false);have C0:=O ((Zg Qb w).alloc (.cells (Z4 false s) 40));obtain⟨B,a1,E,I,J,K,R,U,V,Z,c,d,q,u⟩:=S0.o.cells;go_enter func181,ntmps181;go_wp2_with fail;refine Zz (H1.o _) ?_;intro w1 z;have S1:=O (S0.o.aB z);have C1:=O (C0.o.aA z);clear z B a1 E I J K R U V Z c d q u;obtain⟨B,a1,E,I,J,K,R,U,V,Z,c,d,q,u⟩:=S1.o.cells;go_wp2_with fail;refine Zz (H2.o _) ?_;intro w2 c2;have S2:=O (S1.o.aB c2);have C2:=O (C1.o.aA c2);clear c2 B a1 E I J K R U V Z c d q u;obtain⟨B,a1,E,I,J,K,R,U,V,Z,c,d,q,u⟩:=S2.o.cells;go_wp2;go_ret;exact⟨rfl,C2.o⟩
    |true=> have S0:=O (Up.new w s false);have C0:=O ((Zg Qb w).alloc (.cells (Z4 false s) 40));obtain⟨B,a1,E,I,J,K,R,U,V,Z,c,d,q,u⟩:=S0.o.cells;go_enter func181,ntmps181;go_wp2_with fail;refine Zz (H1.o _) ?_;intro w1 z;have S1:=O (S0.o.aB z);have C1:=O (C0.o.aA z);clear z B a1 E I J K R U V Z c d q u;obtain⟨B,a1,E,I,J,K,R,U,V,Z,c,d,q,u⟩:=S1.o.cells;go_wp2_with fail;refine Zz (H2.o _) ?_;intro w2 c2;have S2:=O (S1.o.aB c2);have C2:=O (C1.o.aA c2);clear c2 B a1 E I J K R U V Z c d q u;obtain⟨B,a1,E,I,J,K,R,U,V,Z,c,d,q,u⟩:=S2.o.cells;go_wp2;go_ret;exact⟨rfl,C2.o⟩
theorem Qid(s:Yk)(w):Cl 181 #[.agg (Z4 s.leaf s)] w fun e w'=>e=.returned (.bool (s.shapedB s.leaf))∧Qc Qb w w':=Qpi s s.leaf w
section
def Yk.curvesB(s:Yk):Bool:=decide s.real.May&&(decide s.share.May&&decide s.aN.May)
def Yk.sharedB(s:Yk):Bool:=s.share.goes&&(s.aN.goes&&(s.aN.none||!s.share.none))
def Yk.mayE(s:Yk):Int:=if s.named=false then 130 else if s.curvesB=false then 30 else if s.shapedB s.leaf=false then 130 else if s.sharedB=false then 130 else if s.aM=false then 130 else 0
theorem Quq(w):(Instr.index 236 (.agg #[.func (.func 179) #[] #[],.int .i64 130,.func (.func 180) #[] #[],.int .i64 30,.func (.func 181) #[] #[],.int .i64 130,.func (.func 182) #[] #[],.int .i64 130,.func (.func 183) #[] #[],.int .i64 130]) (.int .i64 0)).run prog w=.ok (.agg #[.func (.func 179) #[] #[],.int .i64 130]) w:=by kernel_rfl
theorem Qur(w):(Instr.index 236 (.agg #[.func (.func 179) #[] #[],.int .i64 130,.func (.func 180) #[] #[],.int .i64 30,.func (.func 181) #[] #[],.int .i64 130,.func (.func 182) #[] #[],.int .i64 130,.func (.func 183) #[] #[],.int .i64 130]) (.int .i64 1)).run prog w=.ok (.agg #[.func (.func 180) #[] #[],.int .i64 30]) w:=by kernel_rfl
theorem Qus(w):(Instr.index 236 (.agg #[.func (.func 179) #[] #[],.int .i64 130,.func (.func 180) #[] #[],.int .i64 30,.func (.func 181) #[] #[],.int .i64 130,.func (.func 182) #[] #[],.int .i64 130,.func (.func 183) #[] #[],.int .i64 130]) (.int .i64 2)).run prog w=.ok (.agg #[.func (.func 181) #[] #[],.int .i64 130]) w:=by kernel_rfl
theorem Qut(w):(Instr.index 236 (.agg #[.func (.func 179) #[] #[],.int .i64 130,.func (.func 180) #[] #[],.int .i64 30,.func (.func 181) #[] #[],.int .i64 130,.func (.func 182) #[] #[],.int .i64 130,.func (.func 183) #[] #[],.int .i64 130]) (.int .i64 3)).run prog w=.ok (.agg #[.func (.func 182) #[] #[],.int .i64 130]) w:=by kernel_rfl
theorem Quu(w):(Instr.index 236 (.agg #[.func (.func 179) #[] #[],.int .i64 130,.func (.func 180) #[] #[],.int .i64 30,.func (.func 181) #[] #[],.int .i64 130,.func (.func 182) #[] #[],.int .i64 130,.func (.func 183) #[] #[],.int .i64 130]) (.int .i64 4)).run prog w=.ok (.agg #[.func (.func 183) #[] #[],.int .i64 130]) w:=by kernel_rfl
attribute [local go_sem] Quq Qur Qus Qut Quu
theorem Qef(s:Yk)(w):Cl 121 #[.agg (Z4 s.leaf s)] w fun e w'=>e=.returned (.int .i64 s.mayE)∧Qc Qb w w':=by
 have S0:=O (Xx.new w s);have C0:=O ((Zg Qb w).alloc (.cells (Z4 s.leaf s) 40));have H1:=O (Qlf s);have H2:=O (Qic s);have H3:=O (Qid s);have H4:=O (Qie s);have hM:s.mayE=if s.named=false then 130 else if s.curvesB=false then 30 else if s.shapedB s.leaf=false then 130 else if s.sharedB=false then 130 else if s.aM=false then 130 else 0:=rfl;have hc:s.curvesB=(decide s.real.May&&(decide s.share.May&&decide s.aN.May)):=rfl;have hs:s.sharedB=(s.share.goes&&(s.aN.goes&&(s.aN.none||!s.share.none))):=rfl;have H5:s.curvesB=true→Hi (∀w,Cl 183 #[.agg (Z4 s.leaf s)] w fun e w'=>e=.returned (.bool s.aM)∧Qc Qb w w'):=fun h=>by rw[hc]at h;simp only[Zw,decide_eq_true_eq]at h;exact O (Qlg s h.1 h.2.2)
 rw[←hc]at H2;rw[←hs]at H4;rw[hM];clear hc hs hM;generalize s.named=x1 at H1⊢;generalize s.curvesB=x2 at H2 H5⊢;generalize s.shapedB s.leaf=x3 at H3⊢;generalize s.sharedB=x4 at H4⊢;cases x1 with
 |false=> clear H5;obtain⟨u,a1,z,B,E,I,J,K,R,U,c,d,k,q⟩:=S0.o.cells;go_enter func121,ntmps121;go_wp2;refine wp_loop_rounds 1 ?_;rw[rounds_succ];go_wp2_with fail;refine Zz (H1.o _) ?_;intro w1 V;have q1:=V.blk (Qh.new (w.alloc (.cells (Z4 s.leaf s) 40)) #[.func (.func 179) #[] #[],.int .i64 130] 235) (fun h=>h);have r1:=q1.cell 1;simp at r1;replace V:=((Zg Qb (w.alloc (.cells (Z4 s.leaf s) 40))).alloc (.cells #[.func (.func 179) #[] #[],.int .i64 130] 235)).aA V;have S1:=O (S0.o.aB V);have C1:=O (C0.o.aA V);clear V q1 u a1 z B E I J K R U c d k q;obtain⟨u,a1,z,B,E,I,J,K,R,U,c,d,k,q⟩:=S1.o.cells;have z1:=Qh.lt S1.o;go_wp2;go_ret;exact⟨rfl,C1.o⟩
 |true=>
  cases x2 with
  |false=> clear H5;obtain⟨u,a1,z,B,E,I,J,K,R,U,c,d,k,q⟩:=S0.o.cells;go_enter func121,ntmps121;go_wp2;refine wp_loop_rounds 2 ?_;rw[rounds_succ];go_wp2_with fail;refine Zz (H1.o _) ?_;intro w1 V;have q1:=V.blk (Qh.new (w.alloc (.cells (Z4 s.leaf s) 40)) #[.func (.func 179) #[] #[],.int .i64 130] 235) (fun h=>h);have r1:=q1.cell 1;simp at r1;replace V:=((Zg Qb (w.alloc (.cells (Z4 s.leaf s) 40))).alloc (.cells #[.func (.func 179) #[] #[],.int .i64 130] 235)).aA V;have S1:=O (S0.o.aB V);have C1:=O (C0.o.aA V);clear V q1 u a1 z B E I J K R U c d k q;obtain⟨u,a1,z,B,E,I,J,K,R,U,c,d,k,q⟩:=S1.o.cells;have z1:=Qh.lt S1.o;go_wp2;clear r1;rw[rounds_succ];go_wp2_with fail;refine Zz (H2.o _) ?_;intro w2 Z;have q2:=Z.blk (Qh.new w1 #[.func (.func 180) #[] #[],.int .i64 30] 235) (fun h=>h);have r2:=q2.cell 1;simp at r2;replace Z:=((Zg Qb w1).alloc (.cells #[.func (.func 180) #[] #[],.int .i64 30] 235)).aA Z;have S2:=O (S1.o.aB Z);have C2:=O (C1.o.aA Z);clear Z q2 u a1 z B E I J K R U c d k q;obtain⟨u,a1,z,B,E,I,J,K,R,U,c,d,k,q⟩:=S2.o.cells;have z2:=Qh.lt S2.o;clear z1;go_wp2;go_ret;exact⟨rfl,C2.o⟩
  |true=>
   replace H5:=H5 rfl;generalize s.aM=x5 at H5⊢;cases x3 with
   |false=> obtain⟨u,a1,z,B,E,I,J,K,R,U,c,d,k,q⟩:=S0.o.cells;go_enter func121,ntmps121;go_wp2;refine wp_loop_rounds 3 ?_;rw[rounds_succ];go_wp2_with fail;refine Zz (H1.o _) ?_;intro w1 V;have q1:=V.blk (Qh.new (w.alloc (.cells (Z4 s.leaf s) 40)) #[.func (.func 179) #[] #[],.int .i64 130] 235) (fun h=>h);have r1:=q1.cell 1;simp at r1;replace V:=((Zg Qb (w.alloc (.cells (Z4 s.leaf s) 40))).alloc (.cells #[.func (.func 179) #[] #[],.int .i64 130] 235)).aA V;have S1:=O (S0.o.aB V);have C1:=O (C0.o.aA V);clear V q1 u a1 z B E I J K R U c d k q;obtain⟨u,a1,z,B,E,I,J,K,R,U,c,d,k,q⟩:=S1.o.cells;have z1:=Qh.lt S1.o;go_wp2;clear r1;rw[rounds_succ];go_wp2_with fail;refine Zz (H2.o _) ?_;intro w2 Z;have q2:=Z.blk (Qh.new w1 #[.func (.func 180) #[] #[],.int .i64 30] 235) (fun h=>h);have r2:=q2.cell 1;simp at r2;replace Z:=((Zg Qb w1).alloc (.cells #[.func (.func 180) #[] #[],.int .i64 30] 235)).aA Z;have S2:=O (S1.o.aB Z);have C2:=O (C1.o.aA Z);clear Z q2 u a1 z B E I J K R U c d k q;obtain⟨u,a1,z,B,E,I,J,K,R,U,c,d,k,q⟩:=S2.o.cells;have z2:=Qh.lt S2.o;clear z1;go_wp2;clear r2;rw[rounds_succ];go_wp2_with fail;refine Zz (H3.o _) ?_;intro w3 c3;have q3:=c3.blk (Qh.new w2 #[.func (.func 181) #[] #[],.int .i64 130] 235) (fun h=>h);have r3:=q3.cell 1;simp at r3;replace c3:=((Zg Qb w2).alloc (.cells #[.func (.func 181) #[] #[],.int .i64 130] 235)).aA c3;have S3:=O (S2.o.aB c3);have C3:=O (C2.o.aA c3);clear c3 q3 u a1 z B E I J K R U c d k q;obtain⟨u,a1,z,B,E,I,J,K,R,U,c,d,k,q⟩:=S3.o.cells;have z3:=Qh.lt S3.o;clear z2;go_wp2;go_ret;exact⟨rfl,C3.o⟩
   |true=>
    cases x4 with
    |false=> obtain⟨u,a1,z,B,E,I,J,K,R,U,c,d,k,q⟩:=S0.o.cells;go_enter func121,ntmps121;go_wp2;refine wp_loop_rounds 4 ?_;rw[rounds_succ];go_wp2_with fail;refine Zz (H1.o _) ?_;intro w1 V;have q1:=V.blk (Qh.new (w.alloc (.cells (Z4 s.leaf s) 40)) #[.func (.func 179) #[] #[],.int .i64 130] 235) (fun h=>h);have r1:=q1.cell 1;simp at r1;replace V:=((Zg Qb (w.alloc (.cells (Z4 s.leaf s) 40))).alloc (.cells #[.func (.func 179) #[] #[],.int .i64 130] 235)).aA V;have S1:=O (S0.o.aB V);have C1:=O (C0.o.aA V);clear V q1 u a1 z B E I J K R U c d k q;obtain⟨u,a1,z,B,E,I,J,K,R,U,c,d,k,q⟩:=S1.o.cells;have z1:=Qh.lt S1.o;go_wp2;clear r1;rw[rounds_succ];go_wp2_with fail;refine Zz (H2.o _) ?_;intro w2 Z;have q2:=Z.blk (Qh.new w1 #[.func (.func 180) #[] #[],.int .i64 30] 235) (fun h=>h);have r2:=q2.cell 1;simp at r2;replace Z:=((Zg Qb w1).alloc (.cells #[.func (.func 180) #[] #[],.int .i64 30] 235)).aA Z;have S2:=O (S1.o.aB Z);have C2:=O (C1.o.aA Z);clear Z q2 u a1 z B E I J K R U c d k q;obtain⟨u,a1,z,B,E,I,J,K,R,U,c,d,k,q⟩:=S2.o.cells;have z2:=Qh.lt S2.o;clear z1;go_wp2;clear r2;rw[rounds_succ];go_wp2_with fail;refine Zz (H3.o _) ?_;intro w3 c3;have q3:=c3.blk (Qh.new w2 #[.func (.func 181) #[] #[],.int .i64 130] 235) (fun h=>h);have r3:=q3.cell 1;simp at r3;replace c3:=((Zg Qb w2).alloc (.cells #[.func (.func 181) #[] #[],.int .i64 130] 235)).aA c3;have S3:=O (S2.o.aB c3);have C3:=O (C2.o.aA c3);clear c3 q3 u a1 z B E I J K R U c d k q;obtain⟨u,a1,z,B,E,I,J,K,R,U,c,d,k,q⟩:=S3.o.cells;have z3:=Qh.lt S3.o;clear z2;go_wp2;clear r3;rw[rounds_succ];go_wp2_with fail;refine Zz (H4.o _) ?_;intro w4 c4;have q4:=c4.blk (Qh.new w3 #[.func (.func 182) #[] #[],.int .i64 130] 235) (fun h=>h);have r4:=q4.cell 1;simp at r4;replace c4:=((Zg Qb w3).alloc (.cells #[.func (.func 182) #[] #[],.int .i64 130] 235)).aA c4;have S4:=O (S3.o.aB c4);have C4:=O (C3.o.aA c4);clear c4 q4 u a1 z B E I J K R U c d k q;obtain⟨u,a1,z,B,E,I,J,K,R,U,c,d,k,q⟩:=S4.o.cells;have z4:=Qh.lt S4.o;clear z3;go_wp2;go_ret;exact⟨rfl,C4.o⟩
    |true=>
     cases x5 with
     |false=> obtain⟨u,a1,z,B,E,I,J,K,R,U,c,d,k,q⟩:=S0.o.cells;go_enter func121,ntmps121;go_wp2;refine wp_loop_rounds 5 ?_;rw[rounds_succ];go_wp2_with fail;refine Zz (H1.o _) ?_;intro w1 V;have q1:=V.blk (Qh.new (w.alloc (.cells (Z4 s.leaf s) 40)) #[.func (.func 179) #[] #[],.int .i64 130] 235) (fun h=>h);have r1:=q1.cell 1;simp at r1;replace V:=((Zg Qb (w.alloc (.cells (Z4 s.leaf s) 40))).alloc (.cells #[.func (.func 179) #[] #[],.int .i64 130] 235)).aA V;have S1:=O (S0.o.aB V);have C1:=O (C0.o.aA V);clear V q1 u a1 z B E I J K R U c d k q;obtain⟨u,a1,z,B,E,I,J,K,R,U,c,d,k,q⟩:=S1.o.cells;have z1:=Qh.lt S1.o;go_wp2;clear r1;rw[rounds_succ];go_wp2_with fail;refine Zz (H2.o _) ?_;intro w2 Z;have q2:=Z.blk (Qh.new w1 #[.func (.func 180) #[] #[],.int .i64 30] 235) (fun h=>h);have r2:=q2.cell 1;simp at r2;replace Z:=((Zg Qb w1).alloc (.cells #[.func (.func 180) #[] #[],.int .i64 30] 235)).aA Z;have S2:=O (S1.o.aB Z);have C2:=O (C1.o.aA Z);clear Z q2 u a1 z B E I J K R U c d k q;obtain⟨u,a1,z,B,E,I,J,K,R,U,c,d,k,q⟩:=S2.o.cells;have z2:=Qh.lt S2.o;clear z1;go_wp2;clear r2;rw[rounds_succ];go_wp2_with fail;refine Zz (H3.o _) ?_;intro w3 c3;have q3:=c3.blk (Qh.new w2 #[.func (.func 181) #[] #[],.int .i64 130] 235) (fun h=>h);have r3:=q3.cell 1;simp at r3;replace c3:=((Zg Qb w2).alloc (.cells #[.func (.func 181) #[] #[],.int .i64 130] 235)).aA c3;have S3:=O (S2.o.aB c3);have C3:=O (C2.o.aA c3);clear c3 q3 u a1 z B E I J K R U c d k q;obtain⟨u,a1,z,B,E,I,J,K,R,U,c,d,k,q⟩:=S3.o.cells;have z3:=Qh.lt S3.o;clear z2;go_wp2;clear r3;rw[rounds_succ];go_wp2_with fail;refine Zz (H4.o _) ?_;intro w4 c4;have q4:=c4.blk (Qh.new w3 #[.func (.func 182) #[] #[],.int .i64 130] 235) (fun h=>h);have r4:=q4.cell 1;simp at r4;replace c4:=((Zg Qb w3).alloc (.cells #[.func (.func 182) #[] #[],.int .i64 130] 235)).aA c4;have S4:=O (S3.o.aB c4);have C4:=O (C3.o.aA c4);clear c4 q4 u a1 z B E I J K R U c d k q;obtain⟨u,a1,z,B,E,I,J,K,R,U,c,d,k,q⟩:=S4.o.cells;have z4:=Qh.lt S4.o;clear z3;go_wp2;clear r4;rw[rounds_succ];go_wp2_with fail;refine Zz (H5.o _) ?_;intro w5 c5;have q5:=c5.blk (Qh.new w4 #[.func (.func 183) #[] #[],.int .i64 130] 235) (fun h=>h);have r5:=q5.cell 1;simp at r5;replace c5:=((Zg Qb w4).alloc (.cells #[.func (.func 183) #[] #[],.int .i64 130] 235)).aA c5;have S5:=O (S4.o.aB c5);have C5:=O (C4.o.aA c5);clear c5 q5 u a1 z B E I J K R U c d k q;obtain⟨u,a1,z,B,E,I,J,K,R,U,c,d,k,q⟩:=S5.o.cells;have z5:=Qh.lt S5.o;clear z4;go_wp2;go_ret;exact⟨rfl,C5.o⟩
     |true=> obtain⟨u,a1,z,B,E,I,J,K,R,U,c,d,k,q⟩:=S0.o.cells;go_enter func121,ntmps121;go_wp2;refine wp_loop_rounds 6 ?_;rw[rounds_succ];go_wp2_with fail;refine Zz (H1.o _) ?_;intro w1 V;have q1:=V.blk (Qh.new (w.alloc (.cells (Z4 s.leaf s) 40)) #[.func (.func 179) #[] #[],.int .i64 130] 235) (fun h=>h);have r1:=q1.cell 1;simp at r1;replace V:=((Zg Qb (w.alloc (.cells (Z4 s.leaf s) 40))).alloc (.cells #[.func (.func 179) #[] #[],.int .i64 130] 235)).aA V;have S1:=O (S0.o.aB V);have C1:=O (C0.o.aA V);clear V q1 u a1 z B E I J K R U c d k q;obtain⟨u,a1,z,B,E,I,J,K,R,U,c,d,k,q⟩:=S1.o.cells;have z1:=Qh.lt S1.o;go_wp2;clear r1;rw[rounds_succ];go_wp2_with fail;refine Zz (H2.o _) ?_;intro w2 Z;have q2:=Z.blk (Qh.new w1 #[.func (.func 180) #[] #[],.int .i64 30] 235) (fun h=>h);have r2:=q2.cell 1;simp at r2;replace Z:=((Zg Qb w1).alloc (.cells #[.func (.func 180) #[] #[],.int .i64 30] 235)).aA Z;have S2:=O (S1.o.aB Z);have C2:=O (C1.o.aA Z);clear Z q2 u a1 z B E I J K R U c d k q;obtain⟨u,a1,z,B,E,I,J,K,R,U,c,d,k,q⟩:=S2.o.cells;have z2:=Qh.lt S2.o;clear z1;go_wp2;clear r2;rw[rounds_succ];go_wp2_with fail;refine Zz (H3.o _) ?_;intro w3 c3;have q3:=c3.blk (Qh.new w2 #[.func (.func 181) #[] #[],.int .i64 130] 235) (fun h=>h);have r3:=q3.cell 1;simp at r3;replace c3:=((Zg Qb w2).alloc (.cells #[.func (.func 181) #[] #[],.int .i64 130] 235)).aA c3;have S3:=O (S2.o.aB c3);have C3:=O (C2.o.aA c3);clear c3 q3 u a1 z B E I J K R U c d k q;obtain⟨u,a1,z,B,E,I,J,K,R,U,c,d,k,q⟩:=S3.o.cells;have z3:=Qh.lt S3.o;clear z2;go_wp2;clear r3;rw[rounds_succ];go_wp2_with fail;refine Zz (H4.o _) ?_;intro w4 c4;have q4:=c4.blk (Qh.new w3 #[.func (.func 182) #[] #[],.int .i64 130] 235) (fun h=>h);have r4:=q4.cell 1;simp at r4;replace c4:=((Zg Qb w3).alloc (.cells #[.func (.func 182) #[] #[],.int .i64 130] 235)).aA c4;have S4:=O (S3.o.aB c4);have C4:=O (C3.o.aA c4);clear c4 q4 u a1 z B E I J K R U c d k q;obtain⟨u,a1,z,B,E,I,J,K,R,U,c,d,k,q⟩:=S4.o.cells;have z4:=Qh.lt S4.o;clear z3;go_wp2;clear r4;rw[rounds_succ];go_wp2_with fail;refine Zz (H5.o _) ?_;intro w5 c5;have q5:=c5.blk (Qh.new w4 #[.func (.func 183) #[] #[],.int .i64 130] 235) (fun h=>h);have r5:=q5.cell 1;simp at r5;replace c5:=((Zg Qb w4).alloc (.cells #[.func (.func 183) #[] #[],.int .i64 130] 235)).aA c5;have S5:=O (S4.o.aB c5);have C5:=O (C4.o.aA c5);clear c5 q5 u a1 z B E I J K R U c d k q;obtain⟨u,a1,z,B,E,I,J,K,R,U,c,d,k,q⟩:=S5.o.cells;have z5:=Qh.lt S5.o;clear z4;go_wp2;clear r5;rw[rounds_succ];go_wp2;go_ret;exact⟨rfl,C5.o⟩
end
structure Jr where
 id:Int
 cls:Int
 len:Int
 at_:Int
def Jr.cells(p:Jr):List Value:=[.int .u64 p.id,.int .i64 p.cls,.int .i64 p.len,.int .u64 p.at_]
theorem Jr.aF(p:Jr):p.cells.length=4:=rfl
def Jr.zero:Jr:=⟨0,0,0,0⟩
theorem pktT:Qce prog Jr.cells 4 27 34 32 Jr.zero where
 ht:=underlying27
 hi:=Ee (by kernel_rfl)
 pos:=by decide
 hc:=Jr.aF
 one:=by intro x u c;simp only[Jr.cells,Zu,List.not_mem_nil,or_false]at c;rcases c with rfl|rfl|rfl|rfl<;>rfl
def Jn:List Jr→Int
 |[]=>0
 |p::l=>p.len+Jn l
theorem Tk(a b:List Jr):Jn (a++b)=Jn a+Jn b:=by
 induction a with
 |nil=>simp[Jn]
 |cons p a c=>simp only[List.cons_append,Jn,c];omega
def Ll(p:Jr):Prop:=1≤p.len∧p.len≤65535
theorem Hd:∀(l:List Jr),(∀p∈l,Ll p)→0≤Jn l
 |[],_=>by simp[Jn]
 |p::l,h=>by have:=Hd l (fun q c=>h q (by simp[c]));have:=(h p (by simp)).1;simp only[Jn];omega
def Ow(L:List Jr)(f:Nat)(l:List Jr):Prop:=∀i,i<l.length→L[(f+i)%L.length]? =l[i]?
structure Jz(w:World)(b r:Nat)(pk bt:Nat)(l:List Jr):Prop where
 ne:b≠r
 pk1:1≤pk
 pk2:pk≤4096
 bt1:1≤bt
 bt2:bt≤16777216
 many:l.length≤pk
 held:Jn l≤bt
 good:∀p∈l,Ll p
 ring:∃(L:List Jr)(f:Nat),Qh w b #[.int .i64 pk,.int .i64 bt,.slice (some ⟨r,0,none⟩) L.length L.length,.int .i64 f,.int .i64 l.length,.int .i64 (Jn l)] 123∧
  RowBlk Jr.cells w r L 34∧f<L.length∧l.length≤L.length∧L.length≤8192∧Ow L f l
theorem Jz.aB{w w1}{b r pk bt:Nat}{l:List Jr}{S:Nat→Prop}(h:Jz w b r pk bt l)(hc:Qc S w w1)(B:¬S b)(hr:¬S r):Jz w1 b r pk bt l:=by obtain⟨h0,h1,c,d,k,q,u,z,L,f,q1,q2,E⟩:=h;exact⟨h0,h1,c,d,k,q,u,z,L,f,hc.blk q1 B,hc.blk q2 hr,E⟩
theorem Jz.lt{w}{b r pk bt:Nat}{l:List Jr}(h:Jz w b r pk bt l):b<w.heap.size∧r<w.heap.size:=by obtain⟨_,_,_,_,_,_,_,_,L,f,q1,q2,_⟩:=h;exact⟨q1.lt,q2.lt⟩
theorem Qpq(b:Nat)(n:Int)(w:World)(h0:w.cell? ⟨b,0,none⟩=some (.int .i64 n)):
  Cl 78 #[.pointer (some ⟨b,0,none⟩)] w fun e w'=>e=.returned (.bool (n==0))∧w=w':=by
 go_enter func78,ntmps78;go_wp2;go_ret;exact⟨rfl,rfl⟩
theorem Hy(b:Nat)(n:Int)(w:World)(h0:w.cell? ⟨b,0,none⟩=some (.int .i64 n))(hn:1≤n):
  Cl 78 #[.pointer (some ⟨b,0,none⟩)] w fun e w'=>e=.returned (.bool false)∧w=w':=
 (Qpq b n w h0).mono fun e w'⟨c,d⟩=>⟨by rw[c];congr 2;simp;omega,d⟩
theorem Ml(b:Nat)(f n:Int)(a:Option Addr)(len cap:Nat)(w:World)(u:w.cell? ⟨b,2,none⟩=some (.slice a len cap))(z:w.cell? ⟨b,3,none⟩=some (.int .i64 f))
  (hf:0≤f) (c:f≤10000) (hn:0≤n) (q:n≤10000) (hl:0<len) (d:len≤10000):
  Cl 131 #[.pointer (some ⟨b,0,none⟩),.int .i64 n] w fun e w'=>e=.returned (.int .i64 ((f+n)%len))∧∃k,w'=w.drewN k:=by
 go_enter func131,ntmps131;go_wp2;go_quiet (fail);go_wp2;go_ret;exact⟨rfl,_,rfl⟩
theorem Qin{w}{b r pk bt:Nat}{l:List Jr}(h:Jz w b r pk bt l):
  Cl 31 #[.pointer (some ⟨b,0,none⟩)] w fun e w'=>e=.returned (.int .i64 l.length)∧w=w':=by
 obtain⟨_,p1,k,_,_,_,_,_,L,f,q1,_⟩:=h;have c:=q1.cell 0;have d:=q1.cell 4;simp at c d;have N:=O (Hy b pk w c (by omega));clear q1;go_enter func31,ntmps31;go_wp2_with fail;refine Zy N ?_;rintro w1 rfl;go_wp2;go_ret;exact⟨rfl,rfl⟩
theorem Qls{w}{b r pk bt:Nat}{l:List Jr}(h:Jz w b r pk bt l):
  Cl 32 #[.pointer (some ⟨b,0,none⟩)] w fun e w'=>e=.returned (.int .i64 (Jn l))∧w=w':=by
 obtain⟨_,p1,k,_,_,_,_,_,L,f,q1,_⟩:=h;have c:=q1.cell 0;have d:=q1.cell 5;simp at c d;have N:=O (Hy b pk w c (by omega));clear q1;go_enter func32,ntmps32;go_wp2_with fail;refine Zy N ?_;rintro w1 rfl;go_wp2;go_ret;exact⟨rfl,rfl⟩
structure Vm where
 sp:Yk
 d:Nat
def Vm.id(c:Vm):Int:=c.sp.id
abbrev Qm:=List Vm
def Qm.at(h:Qm)(id:Int):Option Vm:=h.find? fun c=>decide (c.sp.id=id)
def Qm.aM(h:Qm)(id:Int):List Int:=(h.filter fun c=>decide (c.sp.par=id)).map (·.sp.id)
def Mb(c:Vm):Qm→Qm
 |[]=>[c]
 |x::l=>if c.sp.id<x.sp.id then c::x::l else x::Mb c l
def Qm.depth(h:Qm)(par:Int):Nat:=if par=0 then 1 else match h.at par with
 |none=>0
 |some p=>if p.sp.leaf||decide (8≤p.d)then 0 else p.d+1
def Qm.aO(h:Qm)(s:Yk):Int:=
 if s.mayE≠0 then 130 else if 64≤h.length then 4 else if(h.at s.id).isSome then 80 else if h.depth s.par=0 then 160 else 0
def Qm.add(h:Qm)(s:Yk):Qm:=if h.aO s=0 then Mb ⟨s,h.depth s.par⟩ h else h
def Yk.aK(a s:Yk):Yk:={a with real:=s.real,share:=s.share,aN:=s.aN}
def Qm.aG(h:Qm)(s:Yk):Int:=match h.at s.id with
 |none=>81
 |some c=>if(c.sp.aK s).mayE≠0 then 130 else 0
def Qm.change(h:Qm)(s:Yk):Qm:=if h.aG s=0 then h.map fun x=>if x.sp.id=s.id then⟨x.sp.aK s,x.d⟩else x else h
def Qm.aP(h:Qm)(id:Int):Int:=match h.at id with
 |none=>81
 |some _=>if h.aM id≠[]then 161 else 0
def Qm.drop(h:Qm)(id:Int):Qm:=if h.aP id=0 then h.filter fun x=>!decide (x.sp.id=id)else h
def Qm.path(h:Qm):Nat→Int→List Int
 |0,_=>[]
 |n+1,id=>match h.at id with
  |none=>[]
  |some c=>id::h.path n c.sp.par
def Qm.below(h:Qm)(id x:Int):Bool:=decide (id=0)||(h.path 9 x).contains id
def Qm.aI(h:Qm)(id:Int):List Int:=(h.filter fun c=>c.sp.leaf&&h.below id c.sp.id).map (·.sp.id)
def Eo(n most:Int):Int:=if most<1∨65536≤most then 2 else if n<1∨most<n then 100 else 0
structure Qw where
 id:Int
 pk:Nat
 bt:Nat
 q:List Jr
 debt:Option Ju
structure Qf where
 most:Int
 tree:Qm
 aI:List Qw
 row:List Xu
 pick:Qe
def Qf.new(most:Int):Qf:=⟨most,[],[],[],Qe.new⟩
def Xl(c:Jy):Option Ju:=if c.none then none else some (Ju.new c)
def Yk.aJ(s:Yk):Bool:=!s.share.none&&decide s.share.May
def Ha(c:Jy):Kg:=if c.none||!decide c.May then none else some (.new c)
def Qe.put(p:Qe)(s:Yk):Qe:=match p.at s.par with
 |none=>p
 |some q=>if s.id<1||(p.at s.id).isSome||q.leaf then p else
  Qe.set (p++[⟨s.id,s.par,s.leaf,s.aJ,0,Ha s.aN,⟨[],0⟩,[],0⟩]) {q with mem:=if s.aJ then q.mem.add s.id s.share else q.mem,aM:=q.aM+1}
def Qe.drop(p:Qe)(id:Int):Qe:=match p.at id with
 |none=>p
 |some c=>if id<1||decide (0<c.aM)||p.aL id then p else match p.at c.par with
  |none=>p
  |some q=>(p.set {q with mem:=q.mem.drop id,aM:=q.aM-1}).filter fun x=>!decide (x.id=id)
def Qe.aK(p:Qe)(s:Yk):Qe:=match p.at s.id with
 |none=>p
 |some c=>if s.id<1||p.aL s.id then p else
  (p.fam s.id fun f=>if s.aJ then(f.drop s.id).add s.id s.share else f.drop s.id).map fun x=>if x.id=s.id then{x with aJ:=s.aJ,total:=0,limit:=Ha s.aN}else x
def Qf.leaf(s:Qf)(id:Int):Option Qw:=s.aI.find? fun l=>decide (l.id=id)
def Qf.setLeaf(s:Qf)(l:Qw):Qf:={s with aI:=s.aI.map fun x=>if x.id=l.id then l else x}
def Qf.qOf(s:Qf)(id:Int):List Jr:=((s.leaf id).map (·.q)).getD []
def Qf.many(s:Qf)(id:Int):Int:=((s.tree.aI id).map fun x=>((s.qOf x).length:Int)).sum
def Qf.bytes(s:Qf)(id:Int):Int:=((s.tree.aI id).map fun x=>Jn (s.qOf x)).sum
def Qf.aO(s:Qf)(c:Yk):Int:=s.tree.aO c
def Qf.add(s:Qf)(c:Yk):Qf:=if s.aO c=0 then
  {s with tree:=s.tree.add c,pick:=s.pick.put c,aI:=if c.leaf then s.aI++[⟨c.id,c.pk.toNat,c.bt.toNat,[],Xl c.real⟩]else s.aI}
 else s
def Qf.aG(s:Qf)(c:Yk):Int:=if(s.tree.at c.id).isNone then 81 else if 0<s.many c.id then 230 else s.tree.aG c
def Qf.change(s:Qf)(c:Yk):Qf:=if s.aG c=0 then
  {s with tree:=s.tree.change c,pick:=s.pick.aK c,aI:=s.aI.map fun l=>if l.id=c.id then{l with debt:=Xl c.real}else l}
 else s
def Qf.aP(s:Qf)(id:Int):Int:=if(s.tree.at id).isNone then 81 else if s.tree.aM id≠[]then 161 else if 0<s.many id then 230 else 0
def Qf.drop(s:Qf)(id:Int):Qf:=if s.aP id=0 then
  {s with tree:=s.tree.drop id,pick:=s.pick.drop id,aI:=s.aI.filter fun l=>!decide (l.id=id)}
 else s
def Hj(row:List Xu)(id:Int)(d:Ju):List Xu:=if d.aL then Vf id d.elig d.due row else Xa id row
def Qf.owe(s:Qf)(l:Qw)(f:Ju→Ju):Qf:=match l.debt with
 |none=>s.setLeaf l
 |some d=>{s.setLeaf {l with debt:=some (f d)}with row:=Hj s.row l.id (f d)}
def Qf.aQ(s:Qf)(p:Jr):Int:=match s.tree.at p.cls with
 |none=>81
 |some c=>if !c.sp.leaf then 162 else if Eo p.len s.most≠0 then Eo p.len s.most else match s.leaf p.cls with
  |none=>1
  |some l=>if l.q.length=l.pk∨(l.bt:Int)-Jn l.q<p.len then 110 else 0
def Qf.push(s:Qf)(p:Jr)(now:Nat):Qf:=if s.aQ p=0 then match s.leaf p.cls with
  |none=>s
  |some l=>
   let l':={l with q:=l.q++[p]}
   if l.q≠[]then s.setLeaf l' else
    let s':=s.owe l' fun d=>d.wake now p.len
    {s' with pick:=s'.pick.wake p.cls now}
 else s
structure ChM where
 p:Jr
 rule:Nat
 due:Nat
def Qf.takeC(s:Qf)(id:Int)(rule:Nat):ChM:=match s.leaf id with
 |none=>⟨Jr.zero,rule,0⟩
 |some l=>⟨l.q.headD Jr.zero,rule,match l.debt with
  |none=>0
  |some d=>if rule=1 then d.dueAt else 0⟩
def Qf.take(s:Qf)(id:Int)(rule:Nat):Qf:=match s.leaf id with
 |none=>s
 |some l=>
  let p:=l.q.headD Jr.zero;let c:=l.q.tail.headD Jr.zero;let s':=s.owe {l with q:=l.q.tail} fun d=>d.serve rule p.len c.len
  {s' with pick:=s'.pick.sent id (p.len*256).toNat (decide (l.q.tail≠[]))}
def Qf.who(s:Qf)(now:Nat):Option (Int×Nat):=match Jt now s.row with
 |some x=>some (x.2,1)
 |none=>(s.pick.next now 10 0).map fun id=>(id,2)
def Qf.next(s:Qf)(now:Nat):Option ChM×Qf:=match s.who now with
 |none=>(none,s)
 |some (id,rule)=>(some (s.takeC id rule),s.take id rule)
def Hk(row:List Xu):Nat:=match row with
 |[]=>Qq
 |e::_=>e.1
def Qf.tick(s:Qf):Nat:=min (Hk s.row) s.pick.tick
def Qf.elig(s:Qf)(id:Int):Nat:=(((s.leaf id).bind (·.debt)).map (·.from_)).getD Qq
def Qf.due(s:Qf)(id:Int):Nat:=(((s.leaf id).bind (·.debt)).map (·.dueAt)).getD Qq
section
attribute [local go_sem] Qp
theorem Qj5{w}{F:Fp}{b:Nat}{d:Ju}(h:Ye w F b d)(hn:d.run.l.length<549755813888):
  Cl 40 #[ptr b] w fun e w'=>∃b',e=.returned (ptr b')∧Ye w' (Qn Qb w w') b' d∧Qc Qb w w':=by
 obtain⟨p,G,I,R,hG⟩:=h.ex;have Z:=O (Ty I);obtain⟨k,J⟩:=Zx (w.heap.size);obtain⟨W,hW⟩:=Zx (w.alloc (.cells (Fs d p) 150));have E:Hi (Qc Qb w W):=O (by rw[hW];exact(Zg _ _).alloc _);have B:Hi (Qh W k (Fs d p) 150):=O (by rw[hW,J];exact Qh.new _ _ _);have V:=O J;have U:=O (Mo (runP.aB R E.o (Jl.none G)) (by omega));obtain⟨a0,a1,a2,a3,a4⟩:=Ym I;obtain⟨e0,e1,e2,e3,e4⟩:=Ym (show Qh (w.alloc (.cells (Fs d p) 150)) b _ _ from hW▸E.o.blk I (fun h=>h));unfold Fs ptr at*;clear h I R hG hn;go_enter func40,ntmps40;go_wp2_with fail;refine Zy Z ?_;rintro w1 rfl;go_wp2_with fail;rw[←J,←hW];refine Zo U ?_;rintro e w2⟨q,rfl,z,u⟩;have K:Hi (∀w',w'=w2.setCell ⟨k,0,none⟩ (.pointer (some ⟨q,0,none⟩))→Ye w' (Qn Qb w w') k d∧Qc Qb w w'):=O (by
  rintro w' rfl;have ab:=V.o;have aa:=B.o.lt;have hc:Qc (fun j=>j=k) w2 (w2.setCell ⟨k,0,none⟩ (.pointer (some ⟨q,0,none⟩))):=(Zg (fun j=>j=k) w2).setCell (a:=⟨k,0,none⟩) _ (.inl rfl);have s0:=E.o.size;refine⟨O1.new (p:=q) (G:=Qn Qb W w2) (runP.aB z hc ?_) (fun j c=>c.elim (fun h=>h.elim) (fun h=>by omega)) runP ((u.blk B.o (fun h=>h)).set' 0 _ rfl) (by omega) (fun h=>h.elim (fun h=>h) (fun h=>by omega)),(E.o.aA u).setCell (a:=⟨k,0,none⟩) _ (.inr (by show w.heap.size≤k;omega))⟩;rintro j c rfl;rcases c with c|c;·exact c
  ·omega)
 have f2:∀j,w2.frozen? ⟨k,j,none⟩=false:=(u.blk B.o (fun h=>h)).frozen;obtain⟨d0,d1,d2,d3,d4⟩:=Ym (u.blk B.o (fun h=>h));clear J hW z u a0 a1 a2 a3 a4 e0 e1 e2 e3 e4;go_wp2;go_ret;exact⟨_,rfl,K.o _ rfl⟩
def Kv(w:World)(F:Fp)(v:Value)(o:Option Ju):Prop:=match o with
 |none=>v=.pointer none∧Bd F w
 |some d=>∃b,v=ptr b∧Ye w F b d
theorem Kv.good(v:Value)(o:Option Ju):Uy (fun w F=>Kv w F v o):=by
 cases o with
 |none=>exact Qop _
 |some d=>exact Qtk (P:=fun b w F=>v=ptr b∧Ye w F b d) (fun b=>⟨fun h=>Ye.obj.bd h.2,fun h hc k=>⟨h.1,Ye.obj.aB h.2 hc k⟩,fun h hs c=>⟨h.1,Ye.obj.more h.2 hs c⟩⟩)
theorem Qn8(c:Jy)(hc:c.May)(w):Cl 129 #[cV c] w fun e w'=>∃b,e=.returned (ptr b)∧Ye w' (Qn Qb w w') b (Ju.new c)∧Qc Qb w w':=by
 obtain⟨W,hW⟩:=Zx (w.alloc (.cells #[.int .u64 c.f,.int .u64 c.l,.int .u64 c.r] 38));have I:Hi (Qc Qb w W):=O (by rw[hW];exact(Zg _ _).alloc _);have E:Hi (Qh W w.heap.size #[.int .u64 c.f,.int .u64 c.l,.int .u64 c.r] 38):=O (by rw[hW];exact Qh.new _ _ _);have z:=O (fun w=>K8 c w);rw[decide_eq_true hc]at z;have J:=O (fun w=>Cv c hc w);unfold cV ptr at*;clear hc;go_enter func129,ntmps129;go_wp2_with fail;rw[←hW];refine Zz (z.o _) ?_;intro w1 k;obtain⟨K,a1,R⟩:=L6 (k.blk E.o (fun h=>h));have u:=O (I.o.aA k);clear k hW;go_wp2_with fail;refine(J.o _).mono ?_;rintro e w2⟨p,rfl,B,q⟩;have d:Hi (∀w',w'=w2.alloc (.cells #[.pointer (some ⟨p,0,none⟩),.int .u64 0,.bool false,.int .u64 0,.int .u64 0] 150)→Ye w' (Qn Qb w w') w2.heap.size (Ju.new c)∧Qc Qb w w'):=O (by
  rintro w' rfl;have hc:Qc Qb w2 (w2.alloc (.cells #[.pointer (some ⟨p,0,none⟩),.int .u64 0,.bool false,.int .u64 0,.int .u64 0] 150)):=(Zg _ _).alloc _;have s1:=u.o.size;have s2:=q.size;exact⟨O1.new (p:=p) (G:=Qn Qb w1 w2) (runP.aB B hc (Jl.none _)) (fun j U=>U.elim (fun h=>h.elim) (fun h=>by omega)) runP (Qh.new _ _ _) (by omega) (fun h=>h.elim (fun h=>h) (fun h=>by omega)),(u.o.aA q).aA hc⟩)
 clear B q K a1 R;go_wp2;go_ret;exact⟨_,rfl,d.o _ rfl⟩
theorem Qgx(c:Jy)(hc:c.May)(w):Cl 71 #[cV c] w fun e w'=>∃v,e=.returned v∧Kv w' (Qn Qb w w') v (Xl c)∧Qc Qb w w':=by
 obtain⟨W,hW⟩:=Zx (w.alloc (.cells #[.int .u64 c.f,.int .u64 c.l,.int .u64 c.r] 38));have I:Hi (Qc Qb w W):=O (by rw[hW];exact(Zg _ _).alloc _);have R:Hi (Qh W w.heap.size #[.int .u64 c.f,.int .u64 c.l,.int .u64 c.r] 38):=O (by rw[hW];exact Qh.new _ _ _);have E:=O (fun w=>Kz c w);have U:=O (fun w=>Qn8 c hc w);unfold Xl;cases d:c.none with
 |true=> rw[d]at E;have u:=O (fun w'(hc:Qc Qb w w')=>show Kv w' (Qn Qb w w') (.pointer none) none∧Qc Qb w w' from⟨⟨rfl,fun k q=>q.elim (fun h=>h.elim) (fun h=>h.2)⟩,hc⟩);rw[if_pos rfl];unfold cV ptr at*;clear hc d;go_enter func71,ntmps71;go_wp2_with fail;rw[←hW];refine Zz (E.o _) ?_;intro w1 z;have B:=O (I.o.aA z);clear z hW;go_wp2;go_ret;exact⟨_,rfl,u.o _ B.o⟩
 |false=> rw[d]at E;rw[if_neg Bool.false_ne_true];unfold cV ptr at*;clear hc d;go_enter func71,ntmps71;go_wp2_with fail;rw[←hW];refine Zz (E.o _) ?_;intro w1 z;obtain⟨V,a1,Z⟩:=L6 (z.blk R.o (fun h=>h));have B:=O (I.o.aA z);clear z hW;go_wp2_with fail;refine(U.o _).mono ?_;rintro e w2⟨p,rfl,K,J⟩;have u:=O (show Kv w2 (Qn Qb w w2) (.pointer (some ⟨p,0,none⟩)) (some (Ju.new c))∧Qc Qb w w2 from⟨⟨p,rfl,Ye.obj.more K (fun k q=>q.elim .inl (fun q=>.inr ⟨Zp B.o.size q.1,q.2⟩)) (fun k q=>q.elim (fun h=>h.elim) (fun h=>h.2))⟩,B.o.aA J⟩);clear K J V a1 Z;go_wp2;go_ret;exact⟨_,rfl,u.o⟩
theorem Qkb{w}{F H:Fp}{b q:Nat}{l:List Xu}{d:Ju}(h:Yq w F b l)(k:Ye w H q d)(hl:l.length<4611686018427387903)(id:Int):
  Cl 75 #[ptr b,.int .i64 id,ptr q] w fun e w'=>e=.returned (.tuple #[])∧Yq w' (Qn F w w') b (Hj l id d)∧Qc F w w':=by
 have u:=O (Li k);have E:=O (Ay k);have I:=O (Cb k);unfold Ju.from_ Ju.dueAt at*;cases ha:d.aL with
 |false=> rw[ha]at u;have B:=O (Qj9 h (by omega) id);rw[show Hj l id d=Xa id l by unfold Hj;rw[ha];rfl];unfold ptr at*;clear h k ha hl;go_enter func75,ntmps75;go_wp2_with fail;refine Zy u ?_;rintro w1 rfl;go_wp2_with fail;refine Zy B ?_;rintro w1⟨h1,c⟩;have z:=O (Zt h1 c);clear h1 c;go_wp2;refine bodyPost_ret (v:=.tuple #[]) (by simp[results,Tryz.results75,go_sem]) rfl ⟨rfl,z.o⟩
 |true=> rw[ha,if_pos rfl]at E I;rw[ha]at u;have B:=O (Qoe h hl id d.elig d.due);rw[show Hj l id d=Vf id d.elig d.due l by unfold Hj;rw[ha];rfl];unfold ptr at*;clear h k ha hl;go_enter func75,ntmps75;go_wp2_with fail;refine Zy u ?_;rintro w1 rfl;go_wp2_with fail;refine Zy E ?_;rintro w1 rfl;go_wp2_with fail;refine Zy I ?_;rintro w1 rfl;go_wp2_with fail;refine Zy B ?_;rintro w1⟨h1,c⟩;have z:=O (Zt h1 c);clear h1 c;go_wp2;refine bodyPost_end (by simp[*,results,Tryz.results75,go_sem]) rfl ⟨rfl,z.o⟩
end
section
attribute [local go_sem] Qp
abbrev Oj:World→Fp→Nat→Xh→Prop:=O1 209 (fun _ p=>#[.iface 205 (.agg #[ptr p])]) (fun r=>r) Yv
theorem Oj.obj:Hf Oj:=O1.obj runP
def Ho(w:World)(F:Fp)(b:Nat)(l:Kg):Prop:=match l with
 |none=>Tv b #[.iface 240 (.agg #[])] 209 w F
 |some r=>Oj w F b r
theorem Ho.obj:Hf Ho where
 bd:=fun{w F b x}h=>by cases x with|none=>exact(Ks _ _ _).bd h|some r=>exact Oj.obj.bd h
 own:=fun{w F b x}h=>by cases x with|none=>exact h.2.1|some r=>exact Oj.obj.own h
 aB:=fun{w w' F S b x}h hc d=>by cases x with|none=>exact(Ks _ _ _).aB h hc d|some r=>exact Oj.obj.aB h hc d
 more:=fun{w F F' b x}h hs c=>by cases x with|none=>exact(Ks _ _ _).more h hs c|some r=>exact Oj.obj.more h hs c
theorem Qbg(v:Value)(w):(Instr.typeAssert (.iface 205 v) 207 205 true).run prog w=.ok (.tuple #[v,.bool true]) w:=by have h:=underlying205;simp[Instr.typeAssert,run_underlying h,go_sem,Result.andThen]
theorem Qck(v:Value)(w):(Instr.typeAssert (.iface 240 v) 207 205 true).run prog w=.ok (.tuple #[.agg #[.pointer none],.bool false]) w:=by
 have h:=underlying205;have c:(zeroValue 205).run prog w=.ok (.agg #[.pointer none]) w:=by go_simp
 simp[Instr.typeAssert,run_underlying h,go_sem,Result.andThen,c]
theorem Iu(v:Value)(w):(Instr.typeAssert (.iface 240 v) 207 240 true).run prog w=.ok (.tuple #[v,.bool true]) w:=by have h:=underlying240;simp[Instr.typeAssert,run_underlying h,go_sem,Result.andThen]
attribute [local go_sem] Qbg Qck Iu
theorem Rg{w}{b p:Nat}(h:Qh w b #[.iface 205 (.agg #[ptr p])] 209):Cl 156 #[ptr b] w fun e w'=>e=.returned (ptr p)∧Qc Qb w w':=by have c:=Jf h;unfold ptr at*;clear h;go_enter func156,ntmps156;go_wp2;go_ret;refine⟨rfl,?_⟩;exact Zh (Zg _ _) _
theorem Mc{w}{b:Nat}(h:Qh w b #[.iface 240 (.agg #[])] 209):Cl 156 #[ptr b] w fun e w'=>e=.returned (.pointer none)∧Qc Qb w w':=by have c:=Jf h;unfold ptr at*;clear h;go_enter func156,ntmps156;go_wp2;go_ret;refine⟨rfl,?_⟩;exact Zg _ _
theorem F8(w):Cl 156 #[.pointer none] w fun e w'=>e=.returned (.pointer none)∧Qc Qb w w':=by go_enter func156,ntmps156;go_wp2;go_ret;exact⟨rfl,Zg _ _⟩
end
section
attribute [local go_sem] Qp
theorem Qkw{w}{F:Fp}{b:Nat}{l:Kg}(h:Ho w F b l)(hn:∀r,l=some r→r.l.length<549755813888)(now total:Nat)(h1:now<18446744073709551616)(R:total<18446744073709551616):
  Cl 139 #[ptr b,.int .u64 now,.int .u64 total] w fun e w'=>e=.returned (.tuple #[])∧Ho w' (Qn F w w') b (l.wake now total)∧Qc F w w':=by
 have d:=O (fun w'(hc:Qc Qb w w')=>Ho.obj.same h hc);cases l with
 |none=> have E:=O (Mc h.1);rw[show Kg.wake none now total=none from rfl];unfold ptr at*;clear h hn h1 R;go_enter func139,ntmps139;go_wp2_with fail;refine Zy E ?_;intro w1 u;have c:=O u;clear u;go_wp2;refine bodyPost_end (by simp[*,results,Tryz.results139,go_sem]) rfl ⟨rfl,d.o _ c.o⟩
 |some r=>
  have h:Oj w F b r:=h;have H:=O h;obtain⟨p,G,U,V,hG⟩:=h.ex;have E:=O (Rg U);have I:=O U;have q:=O hG;have HR:=O (fun w'(hc:Qc Qb w w')=>Rv (runP.aB V hc (Jl.none G)) (hn r rfl) now total h1 R);rw[show Kg.wake (some r) now total=some (r.start now total)from rfl];have J:=O (runP.bd V);unfold ptr at*;clear h hn h1 R U V hG d;go_enter func139,ntmps139;go_wp2_with fail;refine Zy E ?_;intro w1 u;have c:=O u;clear u;go_wp2_with fail;refine Zz (HR.o _ c.o) ?_;rintro w2⟨z,Z⟩;have FF:Hi (Oj w2 (Qn F w w2) b (r.start now total)∧Qc F w w2):=O (by
   have K:Qc G w w2:=c.o.none.aA Z;exact H.o.made (x':=r.start now total) q.o runP K (runP.more z (fun k B=>B.elim .inl (fun B=>.inr ⟨Zp c.o.size B.1,B.2⟩)) (J.o.ext K)) (Zg _ _) (K.blk I.o (fun h=>(q.o _ h).2 rfl)))
  clear z Z;go_wp2;refine bodyPost_end (by simp[*,results,Tryz.results139,go_sem]) rfl ⟨rfl,FF.o⟩
theorem Qo1{w}{F:Fp}{b:Nat}{l:Kg}(h:Ho w F b l)(hn:∀r,l=some r→r.l.length<549755813888)(total:Nat)(q:total<18446744073709551616):
  Cl 168 #[ptr b,.int .u64 total] w fun e w'=>e=.returned (.int .u64 (l.fit total:Nat))∧Qc Qb w w':=by
 cases l with
 |none=> have k:=O (Mc h.1);rw[show Kg.fit none total=0 from rfl];unfold ptr at*;clear h hn q;go_enter func168,ntmps168;go_wp2_with fail;refine Zy k ?_;intro w1 c;have d:=O c;clear c;go_wp2;go_ret;exact⟨rfl,d.o⟩
 |some r=> have h:Oj w F b r:=h;obtain⟨p,G,B,E,J⟩:=h.ex;have k:=O (Rg B);have u:=O (fun w'(hc:Qc Qb w w')=>Ru (runP.aB E hc (Jl.none G)) (by have:=hn r rfl;omega) total q);rw[show Kg.fit (some r) total=r.reach total from rfl];generalize r.reach total=x at u⊢;unfold ptr at*;clear h hn q B E J;go_enter func168,ntmps168;go_wp2_with fail;refine Zy k ?_;intro w1 c;have d:=O c;clear c;go_wp2_with fail;refine Zz (u.o _ d.o) ?_;intro w2 z;have I:=O (d.o.aA z);clear z;go_wp2;go_ret;exact⟨rfl,I.o⟩
theorem Qku{w}{F:Fp}{b:Nat}{l:Kg}(h:Ho w F b l)(hn:∀r,l=some r→r.l.length<549755813888):
  Cl 86 #[ptr b] w fun e w'=>∃b',e=.returned (ptr b')∧Ho w' (Qn Qb w w') b' l∧Qc Qb w w':=by
 cases l with
 |none=>
  have B:=O (Mc h.1);have K:=O h.1;unfold ptr at*;clear h hn;go_enter func86,ntmps86;go_wp2_with fail;refine Zy B ?_;intro w1 d;have a0:=Jf (d.blk K.o (fun h=>h));have c:Hi (∀w',w'=w1.alloc (.cells #[.iface 240 (.agg #[])] 209)→Ho w' (Qn Qb w w') w1.heap.size none∧Qc Qb w w'):=O (by
   rintro w' rfl;exact⟨⟨Qh.new _ _ _,.inr ⟨d.size,by simp⟩,fun k Z=>Z.elim (fun h=>h.elim) (fun h=>h.2)⟩,d.alloc _⟩)
  clear d;go_wp2;go_ret;exact⟨_,rfl,c.o _ rfl⟩
 |some r=>
  have h:Oj w F b r:=h;obtain⟨p,G,I,J,U⟩:=h.ex;have B:=O (Rg I);have R:=O (fun w'(hc:Qc Qb w w')=>Mo (runP.aB J hc (Jl.none G)) (by have:=hn r rfl;omega));unfold ptr at*;clear h hn I J U;go_enter func86,ntmps86;go_wp2_with fail;refine Zy B ?_;intro w1 d;have z:=O d;clear d;go_wp2_with fail;refine(R.o _ z.o).mono ?_;rintro e w2⟨q,rfl,u,E⟩;have c:Hi (∀w',w'=w2.alloc (.cells #[.iface 205 (.agg #[.pointer (some ⟨q,0,none⟩)])] 209)→Ho w' (Qn Qb w w') w2.heap.size (some r)∧Qc Qb w w'):=O (by
   rintro w' rfl;have hc:Qc Qb w2 (w2.alloc (.cells #[.iface 205 (.agg #[.pointer (some ⟨q,0,none⟩)])] 209)):=(Zg _ _).alloc _;have s1:=z.o.size;have s2:=E.size;exact⟨O1.new (p:=q) (G:=Qn Qb w1 w2) (runP.aB u hc (Jl.none _)) (fun j V=>V.elim (fun h=>h.elim) (fun h=>by omega)) runP (Qh.new _ _ _) (by omega) (fun h=>h.elim (fun h=>h) (fun h=>by omega)),(z.o.aA E).aA hc⟩)
  clear u E;go_wp2;go_ret;exact⟨_,rfl,c.o _ rfl⟩
theorem Qdj(c:Jy)(w):Cl 126 #[cV c] w fun e w'=>∃b,e=.returned (ptr b)∧Ho w' (Qn Qb w w') b (Ha c)∧Qc Qb w w':=by
 obtain⟨W,hW⟩:=Zx (w.alloc (.cells #[.int .u64 c.f,.int .u64 c.l,.int .u64 c.r] 38));have V:Hi (Qc Qb w W):=O (by rw[hW];exact(Zg _ _).alloc _);have B0:Hi (Qh W w.heap.size #[.int .u64 c.f,.int .u64 c.l,.int .u64 c.r] 38):=O (by rw[hW];exact Qh.new _ _ _);have J:=O (fun w=>Kz c w);have U:=O (fun w=>K8 c w);have B:Hi (∀w1 w',Qc Qb w w1→w'=w1.alloc (.cells #[.iface 240 (.agg #[])] 209)→Ho w' (Qn Qb w w') w1.heap.size none∧Qc Qb w w'):=O (by
  rintro w1 w' d rfl;exact⟨⟨Qh.new _ _ _,.inr ⟨d.size,by simp⟩,fun k hk=>hk.elim (fun h=>h.elim) (fun h=>h.2)⟩,d.alloc _⟩)
 unfold Ha;cases z:c.none with
 |true=> rw[z]at J;rw[show(if(true||!decide c.May)=true then(none:Kg)else some (Xh.new c))=none from rfl];unfold cV ptr at*;clear z;go_enter func126,ntmps126;go_wp2_with fail;rw[←hW];refine Zz (J.o _) ?_;intro w1 d;have I:=O (V.o.aA d);clear d hW;go_wp2;go_ret;exact⟨_,rfl,B.o _ _ I.o rfl⟩
 |false=>
  rw[z]at J;cases u:decide c.May with
  |false=> rw[u]at U;rw[show(if(false||!false)=true then(none:Kg)else some (Xh.new c))=none from rfl];unfold cV ptr at*;clear z u;go_enter func126,ntmps126;go_wp2_with fail;rw[←hW];refine Zz (J.o _) ?_;intro w1 d;obtain⟨a0,a1,a2⟩:=L6 (d.blk B0.o (fun h=>h));have I:=O (V.o.aA d);clear d hW;go_wp2_with fail;refine Zz (U.o _) ?_;intro w2 E;have R:=O (I.o.aA E);clear E a0 a1 a2;go_wp2;go_ret;exact⟨_,rfl,B.o _ _ R.o rfl⟩
  |true=>
   have HR:=O (fun w=>Cv c (of_decide_eq_true u) w);rw[u]at U;rw[show(if(false||!true)=true then(none:Kg)else some (Xh.new c))=some (Xh.new c)from rfl];unfold cV ptr at*;clear z u;go_enter func126,ntmps126;go_wp2_with fail;rw[←hW];refine Zz (J.o _) ?_;intro w1 d;have B1:=O (d.blk B0.o (fun h=>h));obtain⟨a0,a1,a2⟩:=L6 B1.o;have I:=O (V.o.aA d);clear d hW;go_wp2_with fail;refine Zz (U.o _) ?_;intro w2 E;have R:=O (I.o.aA E);obtain⟨e0,e1,e2⟩:=L6 (E.blk B1.o (fun h=>h));clear E a0 a1 a2;go_wp2_with fail;refine(HR.o _).mono ?_;rintro e w3⟨q,rfl,K,c3⟩;have Z:Hi (∀w',w'=w3.alloc (.cells #[.iface 205 (.agg #[.pointer (some ⟨q,0,none⟩)])] 209)→Ho w' (Qn Qb w w') w3.heap.size (some (Xh.new c))∧Qc Qb w w'):=O (by
    rintro w' rfl;have hc:Qc Qb w3 (w3.alloc (.cells #[.iface 205 (.agg #[.pointer (some ⟨q,0,none⟩)])] 209)):=(Zg _ _).alloc _;have s1:=R.o.size;have s2:=c3.size;exact⟨O1.new (p:=q) (G:=Qn Qb w2 w3) (runP.aB K hc (Jl.none _)) (fun j hj=>hj.elim (fun h=>h.elim) (fun h=>by omega)) runP (Qh.new _ _ _) (by omega) (fun h=>h.elim (fun h=>h) (fun h=>by omega)),(R.o.aA c3).aA hc⟩)
   clear K c3 e0 e1 e2;go_wp2;go_ret;exact⟨_,rfl,Z.o _ rfl⟩
def Pp(m:Jh)(p:Nat):Array Value:=#[.int .u64 m.total,.int .u64 m.v,ptr p,.bool m.aL]
abbrev Vj:World→Fp→Nat→Jh→Prop:=O1 215 Pp Jh.run Yv
theorem Vj.obj:Hf Vj:=O1.obj runP
theorem Sm{X:Type}{key:X→Int}{Is:World→Fp→Nat→X→Prop}(c:Hf Is)(m:Nat)(ad:Int→Nat)(l:List X):Uy (fun w F=>Yn key Is w F m ad l) where
 bd:=fun h=>h.bd
 aB:=fun h hc k=>h.aB c hc k
 more:=fun h hs d=>h.more hs d
theorem Mz{X:Type}{key:X→Int}{l l':List X}(d:l.Perm l')(hn:(l.map key).Nodup)(i:Int):Hn key i l=Hn key i l':=by
 have u:(l'.map key).Nodup:=(d.map _).nodup_iff.1 hn;cases h:Hn key i l' with
 |some x=> obtain⟨h1,c⟩:=Y3 h;exact Ls hn (d.mem_iff.2 h1) c
 |none=>
  cases c:Hn key i l with
  |none=>rfl
  |some x=> obtain⟨k,q⟩:=Y3 c;exact absurd q (Lz h x (d.mem_iff.1 k))
def Qtj(b m:Nat)(mark:Nat)(ad:Int→Nat)(l:List Jh):List Ya:=
 [Tv b #[.map (some m),.int .u64 mark] 212,fun w G=>Yn Jh.id Vj w G m ad l]
theorem Yc(b m mark:Nat)(ad:Int→Nat)(l:List Jh):∀P∈Qtj b m mark ad l,Uy P:=by
 intro P c;simp only[Qtj,Zu,List.not_mem_nil,or_false]at c;rcases c with rfl|rfl;·exact Ks _ _ _
 ·exact Sm Vj.obj _ _ _
def J0(w:World)(F:Fp)(b:Nat)(f:Jc):Prop:=∃m ad l,l.Perm f.all∧Oh (Qtj b m f.mark ad l) w F
theorem J0.obj:Hf J0 where
 bd:=fun⟨m,ad,l,_,h⟩=>(Je (Yc _ m _ ad l)).bd h
 own:=fun⟨m,ad,l,_,h⟩=>by obtain⟨G,h1,d⟩:=J6 (Yc _ m _ ad l) 0 rfl h;exact d _ h1.2.1
 aB:=fun⟨m,ad,l,c,h⟩hc q=>⟨m,ad,l,c,(Je (Yc _ m _ ad l)).aB h hc q⟩
 more:=fun⟨m,ad,l,c,h⟩hs k=>⟨m,ad,l,c,(Je (Yc _ m _ ad l)).more h hs k⟩
theorem J0.opn{w}{F:Fp}{b:Nat}{f:Jc}(h:J0 w F b f):
  ∃m ad l,l.Perm f.all∧Qh w b #[.map (some m),.int .u64 f.mark] 212∧∃G,Yn Jh.id Vj w G m ad l:=by
 obtain⟨m,ad,l,d,h⟩:=h;obtain⟨k,h0,_⟩:=J6 (Yc _ m _ ad l) 0 rfl h;obtain⟨c,h1,_⟩:=J6 (Yc _ m _ ad l) 1 rfl h;exact⟨m,ad,l,d,h0.1,c,h1⟩
theorem Jc.at_eq{f:Jc}{l:List Jh}(c:l.Perm f.all)(hn:(l.map Jh.id).Nodup)(i:Int):f.at i=Hn Jh.id i l:=(Mz c hn i).symm
theorem Qjt(w):(zeroValue 213).run prog w=.ok (.pointer none) w:=by go_simp
def atP(ad:Int→Nat)(i:Int)(o:Option Jh):Value:=match o with
 |none=>.pointer none
 |some _=>ptr (ad i)
theorem Qb2{w}{G:Fp}{b m:Nat}{v:Value}{ad:Int→Nat}{l:List Jh}(q:Qh w b #[.map (some m),v] 212)(d:Yn Jh.id Vj w G m ad l)(i:Int):
  Cl 189 #[ptr b,.int .i64 i] w fun e w'=>e=.returned (atP ad i (Hn Jh.id i l))∧w=w':=by
 have c:=d.look i;have k:=Du (P:=prog) d.map underlying210 underlying3 (Qjt w) i;rw[c]at k;have u:((Hn Jh.id i l).map fun _=>ptr (ad i)).getD (.pointer none)=atP ad i (Hn Jh.id i l):=by cases Hn Jh.id i l<;>rfl
 rw[u]at k;generalize atP ad i (Hn Jh.id i l)=r at k⊢;obtain⟨z,a1⟩:=Q4 q;unfold ptr at*;clear q d c u;go_enter func189,ntmps189;go_wp2;go_ret;exact⟨rfl,rfl⟩
end
end Go.Proofs.YtnnhmpehkbihnaaGreat
