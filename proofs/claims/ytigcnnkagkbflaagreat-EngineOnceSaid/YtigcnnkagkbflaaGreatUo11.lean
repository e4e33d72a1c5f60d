/- A part of the proof: no condition. -/
import Derived.Test.YtigcnnkagkbflaaGreatUo01
namespace Go.Proofs.YtigcnnkagkbflaaGreat
set_option linter.unusedVariables false
set_option maxRecDepth 100000
set_option maxHeartbeats 4000000
open Go.RowKit
open Go.Proofs.Tryz
def inB(n a b:Int):Bool:=decide (a<=n/\n<=b)
def Yk.named(s:Yk):Bool:=inB s.id 1 65535&&inB s.par 0 65535&&decide (s.id≠s.par)
theorem Ac(n a b:Int)(w):ZW 247 #[ZI n,ZI a,ZI b] w (.bool (inB n a b)) λw'=>w=w':=by
 unfold inB;by_cases c:a<=n
 .by_cases k:n<=b
  .have d:decide (a<=n/\n<=b)=true:=by simp[c,k]
   rw[d];apply WH func247;exact WE
  .have d:decide (a<=n/\n<=b)=false:=by simp[k]
   rw[d];have k:b<n:=by omega
   apply WH func247;exact WE
 .have d:decide (a<=n/\n<=b)=false:=by simp[c]
  rw[d];have c:n<a:=by omega
  apply WH func247;exact WE
theorem Qu5(a b:Int):(a != b)=decide (a≠b):=by by_cases h:a=b<;>simp[h]
theorem Qlf(s:Yk)(w):ZW 219 #[.agg (Z4 s.leaf s)] w (.bool s.named) λw'=>Qc Qb w w':=by
 have c:=O (Ac s.id 1 65535);have k:=O (Ac s.par 0 65535);have d:s.named=(inB s.id 1 65535&&inB s.par 0 65535&&(s.id != s.par)):=by rw[Qu5];rfl
 generalize inB s.id 1 65535=x at c d;generalize inB s.par 0 65535=y at k d;rw[d];clear d;cases x with
 |false=> apply WH func219;go_wp2_with fail;apply Zz (c.o _);rintro w1 rfl;go_wp2;go_ret;refine⟨rfl,?_⟩;(exact Z0)
 |true=>
  cases y with
  |false=> apply WH func219;go_wp2_with fail;apply Zz (c.o _);rintro w1 rfl;go_wp2_with fail;apply Zz (k.o _);rintro w1 rfl;go_wp2;go_ret;refine⟨rfl,?_⟩;(exact Z0)
  |true=> apply WH func219;go_wp2_with fail;apply Zz (c.o _);rintro w1 rfl;go_wp2_with fail;apply Zz (k.o _);rintro w1 rfl;go_wp2;go_ret;refine⟨by simp,?_⟩;(exact Z0)
end Go.Proofs.YtigcnnkagkbflaaGreat
