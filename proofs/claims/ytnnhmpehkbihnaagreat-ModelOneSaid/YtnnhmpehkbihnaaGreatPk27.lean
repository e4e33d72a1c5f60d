/- A part of the proof: no condition. -/
import Derived.Test.YtnnhmpehkbihnaaGreatPk24
import Derived.Test.YtnnhmpehkbihnaaGreatPk26
import Derived.ScopeJumps
namespace Go.Proofs.YtnnhmpehkbihnaaGreat
set_option linter.unusedVariables false
set_option maxRecDepth 100000
set_option maxHeartbeats 4000000
open Go.RowKit
open Go.Proofs.Tryz
section
attribute [local go_sem] Qp
attribute [local irreducible] Kl
structure Ps(N:Nat)(c:Qx):Prop where
 total:c.total≤Xw
 lim:∀r,c.limit=some r→r.l.length≤N
 mem:∀x∈c.mem.all,x.total≤Xw∧x.run.l.length≤N∧x.v≤Qq
 mark:c.mem.mark≤Qq
 tree:c.tree.length≤N
 aM:c.aM≤65536
structure Qs(dep:Int→Nat)(N:Nat)(p:Qe):Prop where
 nd:(p.map Qx.id).Nodup
 root:∃r,p.at 0=some r∧r.leaf=false
 up:dep 0=0∧∀c∈p,c.id≠0→0<c.id∧(∃q,p.at c.par=some q)∧dep c.id=dep c.par+1∧dep c.id≤8
 tr:∀q∈p,∀e∈q.tree,∃c,p.at e.2.1=some c∧c.par=q.id∧0<e.2.1
 ok:∀c∈p,Ps N c
theorem Ps.more{N M:Nat}{c:Qx}(h:Ps N c)(d:N≤M):Ps M c:=⟨h.total,fun r hr=>Zp (h.lim r hr) d,fun x k=>⟨(h.mem x k).1,Zp (h.mem x k).2.1 d,(h.mem x k).2.2⟩,h.mark,Zp h.tree d,h.aM⟩
theorem Qs.par{dep:Int→Nat}{N:Nat}{p:Qe}(h:Qs dep N p){i:Int}{c:Qx}(hc:p.at i=some c)(hi:0<i):∃q,p.at c.par=some q:=by obtain⟨k,rfl⟩:=Qe.aE hc;obtain⟨_,d⟩:=h.up;exact(d c k (by omega)).2.1
theorem Qs.pos{dep:Int→Nat}{N:Nat}{p:Qe}(h:Qs dep N p){i:Int}{c:Qx}(hc:p.at i=some c):0≤i:=by
 obtain⟨k,rfl⟩:=Qe.aE hc;obtain⟨_,d⟩:=h.up;by_cases h0:c.id=0;·omega
 ·have:=(d c k h0).1;omega
section
variable{A:Dz}{w:World}{F:Fp}{b:Nat}{p:Qe}{N:Nat}{dep:Int→Nat}
theorem Qo.fam(h:Qo A w F b p){i:Int}{c:Qx}(hc:p.at i=some c):∃G,J0 w G (A.pf i) c.mem:=by obtain⟨d,rfl⟩:=Qe.aE hc;obtain⟨G,h1,_⟩:=h.famOf d;exact⟨G,h1⟩
theorem Qo.cell(h:Qo A w F b p){i:Int}{c:Qx}(hc:p.at i=some c):Qh w (A.ad i) (Pn c (A.vl i) (A.pf i) (A.pt i)) 143:=by obtain⟨d,rfl⟩:=Qe.aE hc;exact h.cells d
theorem Xz{i:Int}{c:Qx}(hc:p.at i=some c):pkV A p i=ptr (A.ad i):=by unfold pkV;rw[hc]
theorem Ep{i:Int}(hc:p.at i=none):pkV A p i=.pointer none:=by unfold pkV;rw[hc]
theorem Qo.drew(h:Qo A w F b p):Qo A w.drew F b p:=(Qo.obj A).aB h (Zg Qb w).drew (Jl.none F)
theorem Hw(h:Qo A w F b p)(i:Int):Cl 93 #[ptr b,.int .i64 i] w fun e w'=>e=.returned (pkV A p i)∧w=w':=by have c:=h.look1 i;have d:=Jf h.blk;generalize pkV A p i=v at c⊢;unfold ptr;clear h;go_enter func93,ntmps93;go_wp2;go_ret;exact⟨rfl,rfl⟩
theorem Qe.awake_eq{i:Int}{c q:Qx}(hc:p.at i=some c)(d:p.at c.par=some q)(hi:0<i):p.aL i=q.mem.up i:=by unfold Qe.aL;rw[hc];dsimp only;rw[d];simp[hi]
theorem Qe.awake_none{i:Int}(hc:p.at i=none):p.aL i=false:=by unfold Qe.aL;rw[hc]
theorem Qe.awake_neg{i:Int}(hi:¬0<i):p.aL i=false:=by
 unfold Qe.aL;cases p.at i with
 |none=>rfl
 |some c=>simp[hi]
theorem Qe.v_eq{i:Int}{c q:Qx}(hc:p.at i=some c)(d:p.at c.par=some q)(hi:0<i):p.v i=q.mem.v i:=by unfold Qe.v;rw[hc];dsimp only;rw[d,if_neg (by omega)];rfl
theorem Qe.v_none{i:Int}(hc:p.at i=none):p.v i=0:=by unfold Qe.v;rw[hc]
theorem Qe.v_neg{i:Int}(hi:¬0<i):p.v i=0:=by
 unfold Qe.v;cases p.at i with
 |none=>rfl
 |some c=>dsimp only;rw[if_pos (by omega)]
theorem Hx(h:Qo A w F b p)(d:Qs dep N p)(i:Int):Cl 100 #[ptr b,.int .i64 i] w fun e w'=>e=.returned (.bool (p.aL i))∧Qc Qb w w':=by
 have u:=O (Hw h i);have B:=O (Zg Qb w).drew;by_cases hi:0<i
 ·have d1:decide (0<i)=true:=by simpa using hi
  cases k:p.at i with
  |none=>
   rw[Qe.awake_none k];rw[Ep k]at u;unfold ptr at*;clear h k d;go_enter func100,ntmps100;go_wp2_with fail;refine Zy u ?_;rintro w1 rfl;go_wp2_with fail;refine Qj [(0,0),(0,1),(0,2),(0,3),(0,4),(0,5),(0,6),(0,7),(0,8),(0,9),(0,10),(0,11),(0,12),(0,13),(0,14),(0,15),(0,16),(0,17),(0,18),(0,19),(2,20),(0,21),(2,22)] Zq (by kernel_rfl) (fun _ _ _ _ _ h=>h) ?_;simp only[Jk,Zf,Ze,Zd];iterate 7 (refine Jq (by kernel_rfl) (by go_simp;try rfl) ?_)
   iterate 14 (first|(refine Qs8 (by kernel_rfl) ?_)|(refine Qmz (by kernel_rfl) ?_)|(refine Qs7 (by kernel_rfl) ?_);try simp only[Act.put,Za,Zc,Zb])
   refine Jq (by kernel_rfl) (by go_simp;try rfl) ?_;refine J7 ?_;go_wp2_with fail;refine Jo ?_;go_wp2;go_ret;exact⟨rfl,B.o⟩
  |some c=>
   obtain⟨q,z⟩:=d.par k hi;obtain⟨G,I⟩:=h.drew.fam z;have E:=O (Qjg I i);rw[Qe.awake_eq k z hi];rw[Xz k]at u;have J:=h.drew.look1 c.par;rw[Xz z]at J;have K:=Jf h.drew.blk;obtain⟨R,U,V,Z,c4,c5,c6,c7⟩:=Ja (h.drew.cell k);obtain⟨q0,q1,q2,q3,q4,q5,q6,q7⟩:=Ja (h.drew.cell z);generalize q.mem.up i=r at E⊢;unfold ptr at*;clear h k d z I;go_enter func100,ntmps100;go_wp2_with fail;refine Zy u ?_;rintro w1 rfl;go_wp2_with fail;refine Qj [(0,0),(0,1),(0,2),(0,3),(0,4),(0,5),(0,6),(0,7),(0,8),(0,9),(0,10),(0,11),(0,12),(0,13),(0,14),(0,15),(0,16),(0,17),(0,18),(0,19),(2,20),(0,21),(2,22)] Zq (by kernel_rfl) (fun _ _ _ _ _ h=>h) ?_;simp only[Jk,Zf,Ze,Zd];iterate 20 (refine Jq (by kernel_rfl) (by go_simp;try rfl) ?_)
   clear J K R U V Z c4 c5 c6 c7 q0 q1 q2 q3 q4 q5 q6 q7;refine J7 ?_;go_wp2_with fail;refine Zy E ?_;rintro w2 rfl;go_wp2_with fail;refine Jq (by kernel_rfl) (by go_simp;try rfl) ?_;refine J7 ?_;go_wp2_with fail;refine Jo ?_;go_wp2;go_ret;exact⟨rfl,B.o⟩
 ·have d1:decide (0<i)=false:=by simpa using hi
  rw[Qe.awake_neg hi];generalize pkV A p i=v at u;unfold ptr at*;clear h d;go_enter func100,ntmps100;go_wp2_with fail;refine Zy u ?_;rintro w1 rfl;go_wp2_with fail;refine Qj [(0,0),(0,1),(0,2),(0,3),(0,4),(0,5),(0,6),(0,7),(0,8),(0,9),(0,10),(0,11),(0,12),(0,13),(0,14),(0,15),(0,16),(0,17),(0,18),(0,19),(2,20),(0,21),(2,22)] Zq (by kernel_rfl) (fun _ _ _ _ _ h=>h) ?_;simp only[Jk,Zf,Ze,Zd];iterate 3 (refine Jq (by kernel_rfl) (by go_simp;try rfl) ?_)
  iterate 2 (first|(refine Qs8 (by kernel_rfl) ?_)|(refine Qmz (by kernel_rfl) ?_)|(refine Qs7 (by kernel_rfl) ?_);try simp only[Act.put,Za,Zc,Zb])
  iterate 2 (refine Jq (by kernel_rfl) (by go_simp;try rfl) ?_)
  iterate 14 (first|(refine Qs8 (by kernel_rfl) ?_)|(refine Qmz (by kernel_rfl) ?_)|(refine Qs7 (by kernel_rfl) ?_);try simp only[Act.put,Za,Zc,Zb])
  refine Jq (by kernel_rfl) (by go_simp;try rfl) ?_;refine J7 ?_;go_wp2_with fail;refine Jo ?_;go_wp2;go_ret;exact⟨rfl,B.o⟩
theorem Qnl(h:Qo A w F b p)(d:Qs dep N p)(i:Int):Cl 114 #[ptr b,.int .i64 i] w fun e w'=>e=.returned (.int .u64 ((p.v i:Nat):Int))∧Qc Qb w w':=by
 have u:=O (Hw h i);have J:=O (Zg Qb w).drew;by_cases hi:0<i
 ·have d1:decide (i<1)=false:=by simp;omega
  have d2:¬i<1:=by omega
  cases k:p.at i with
  |none=> rw[Qe.v_none k];rw[Ep k]at u;unfold ptr at*;clear h k d;go_enter func114,ntmps114;go_wp2_with fail;refine Zy u ?_;rintro w1 rfl;go_wp2;go_ret;exact⟨rfl,Zg _ _⟩
  |some c=>
   obtain⟨q,z⟩:=d.par k hi;obtain⟨G,E⟩:=h.drew.fam z;have B:=O (Quf E i);rw[Qe.v_eq k z hi];rw[Xz k]at u;have I:=h.drew.look1 c.par;rw[Xz z]at I;have K:=Jf h.drew.blk;obtain⟨R,U,V,Z,c4,c5,c6,c7⟩:=Ja (h.drew.cell k);obtain⟨q0,q1,q2,q3,q4,q5,q6,q7⟩:=Ja (h.drew.cell z);generalize q.mem.v i=r at B⊢;unfold ptr at*;clear h k d z E;go_enter func114,ntmps114;go_wp2_with fail;refine Zy u ?_;rintro w1 rfl;go_wp2_with fail;refine Qj [(0,0),(0,1),(0,2),(0,3),(0,4),(0,5),(0,6),(0,7),(0,8),(0,9),(0,10),(0,11),(0,12),(2,13),(2,14)] Zq (by kernel_rfl) (fun _ _ _ _ _ h=>h) ?_;simp only[Jk,Zf,Ze,Zd];iterate 13 (refine Jq (by kernel_rfl) (by go_simp;try rfl) ?_)
   clear I K R U V Z c4 c5 c6 c7 q0 q1 q2 q3 q4 q5 q6 q7;refine J7 ?_;go_wp2_with fail;refine Zy B ?_;rintro w2 rfl;go_wp2_with fail;refine J7 ?_;go_wp2_with fail;refine Jo ?_;go_wp2;go_ret;exact⟨rfl,J.o⟩
 ·have d1:decide (i<1)=true:=by simp;omega
  have d2:i<1:=by omega
  rw[Qe.v_neg hi];generalize pkV A p i=v at u;unfold ptr at*;clear h d;go_enter func114,ntmps114;go_wp2_with fail;refine Zy u ?_;rintro w1 rfl;go_wp2;go_ret;exact⟨rfl,Zg _ _⟩
def Qe.totalOf(p:Qe)(i:Int):Nat:=if 0<i then((p.at i).map (·.total)).getD 0 else 0
theorem Qik(h:Qo A w F b p)(i:Int):Cl 115 #[ptr b,.int .i64 i] w fun e w'=>e=.returned (.int .u64 ((p.totalOf i:Nat):Int))∧Qc Qb w w':=by
 have d:=O (Hw h i);unfold Qe.totalOf;by_cases hi:0<i
 ·have q:decide (0<i)=true:=by simpa using hi
  rw[if_pos hi];cases k:p.at i with
  |none=> rw[Ep k]at d;dsimp only[Option.map_none,Option.getD_none];unfold ptr at*;clear h k;go_enter func115,ntmps115;go_wp2_with fail;refine Zy d ?_;rintro w1 rfl;go_wp2;go_ret;exact⟨rfl,Zg _ _⟩
  |some c=> rw[Xz k]at d;dsimp only[Zn,Option.getD_some];obtain⟨u,z,B,E,I,J,K,R⟩:=Ja (h.cell k);unfold ptr at*;clear h k;go_enter func115,ntmps115;go_wp2_with fail;refine Zy d ?_;rintro w1 rfl;go_wp2;go_ret;exact⟨rfl,Zg _ _⟩
 ·have q:decide (0<i)=false:=by simpa using hi
  rw[if_neg hi];generalize pkV A p i=v at d;unfold ptr at*;clear h;go_enter func115,ntmps115;go_wp2_with fail;refine Zy d ?_;rintro w1 rfl;go_wp2;go_ret;exact⟨rfl,Zg _ _⟩
end
section
variable{A:Dz}{w:World}{F:Fp}{b:Nat}{p:Qe}{N:Nat}{dep:Int→Nat}
theorem Qo2(x:Nat)(w):Cl 168 #[.pointer none,.int .u64 x] w fun e w'=>e=.returned (.int .u64 0)∧Qc Qb w w':=by have k:=O (F8 w);go_enter func168,ntmps168;go_wp2_with fail;refine Zy k ?_;intro w1 c;have d:=O c;clear c;go_wp2;go_ret;exact⟨rfl,d.o⟩
theorem Qky{v:Value}{l:Kg}{G:Fp}(h:Do v l w G)(hn:∀r,l=some r→r.l.length<549755813888)(x:Nat)(c:x<18446744073709551616):
  Cl 168 #[v,.int .u64 x] w fun e w'=>e=.returned (.int .u64 ((l.fit x:Nat):Int))∧Qc Qb w w':=by
 rcases h with⟨rfl,rfl,_⟩|⟨b,rfl,h⟩;·exact Qo2 x w
 ·exact Qo1 h hn x c
theorem Qo.lim(h:Qo A w F b p){i:Int}{c:Qx}(hc:p.at i=some c):∃G,Do (A.vl i) c.limit w G:=by obtain⟨d,rfl⟩:=Qe.aE hc;obtain⟨G,h1,_⟩:=h.limOf d;exact⟨G,h1⟩
theorem Qo.tre(h:Qo A w F b p){i:Int}{c:Qx}(hc:p.at i=some c):∃G,Jg w G (A.pt i) c.tree:=by obtain⟨d,rfl⟩:=Qe.aE hc;obtain⟨G,h1,_⟩:=h.treeOf d;exact⟨G,h1⟩
theorem Qcx(h:Qo A w F b p){i:Int}{c:Qx}(hc:p.at i=some c)(u:Ps N c)(hN:N<549755813888):
  Cl 101 #[ptr (A.ad i)] w fun e w'=>e=.returned (.int .u64 ((c.fit:Nat):Int))∧Qc Qb w w':=by
 obtain⟨G1,hl⟩:=h.drew.lim hc;have R:=O (Qky hl (fun r hr=>Nat.lt_of_le_of_lt (u.lim r hr) hN) c.total (by have:=u.total;have:=Yz;omega));obtain⟨G2,ht⟩:=h.tre hc;have I:=O (fun w'(hc:Qc Qb w w')=>My (Jg.obj.aB ht hc (Jl.none G2)));have HB:=O (h.cell hc);obtain⟨d0,d1,d2,d3,d4,d5,d6,d7⟩:=Ja (h.drew.cell hc);unfold Qx.fit;dsimp only;generalize c.limit.fit c.total=own at R⊢;cases q:c.leaf with
 |true=>
  have K:=O q;simp only[if_true];unfold ptr at*;clear h hc u hl ht q;go_enter func101,ntmps101;go_wp2_with fail;refine Qj [(0,0),(0,1),(0,2),(0,3),(0,4),(0,5),(0,6),(0,7),(2,8),(2,9)] Zq (by kernel_rfl) (fun _ _ _ _ _ h=>h) ?_;simp only[Jk,Zf,Ze,Zd];iterate 8 (refine Jq (by kernel_rfl) (by go_simp;try rfl) ?_)
  clear d0 d1 d2 d3 d4 d5 d6 d7;refine J7 ?_;go_wp2_with fail;refine Zy R ?_;intro w1 E;have z:=O E.undrew;obtain⟨U,d,V,J,Z,c5,c6,c7⟩:=Ja (z.o.blk HB.o (fun h=>h));rw[K.o]at d;clear E;go_wp2_with fail;refine J7 ?_;go_wp2_with fail;refine Jo ?_;go_wp2;go_ret;exact⟨rfl,z.o⟩
 |false=>
  have K:=O q;simp only[Bool.false_eq_true,if_false];cases B:low c.tree with
  |none=>
   rw[B]at I;dsimp only[Option.getD_none,Option.isSome_none]at I⊢;rw[show((Qq:Nat):Int)=9223372036854775808 from rfl];unfold ptr at*;clear h hc u hl ht q B;go_enter func101,ntmps101;go_wp2_with fail;refine Qj [(0,0),(0,1),(0,2),(0,3),(0,4),(0,5),(0,6),(0,7),(2,8),(2,9)] Zq (by kernel_rfl) (fun _ _ _ _ _ h=>h) ?_;simp only[Jk,Zf,Ze,Zd];iterate 8 (refine Jq (by kernel_rfl) (by go_simp;try rfl) ?_)
   clear d0 d1 d2 d3 d4 d5 d6 d7;refine J7 ?_;go_wp2_with fail;refine Zy R ?_;intro w1 E;have z:=O E.undrew;obtain⟨U,d,V,J,Z,c5,c6,c7⟩:=Ja (z.o.blk HB.o (fun h=>h));rw[K.o]at d;unfold ptr at*;clear E;go_wp2_with fail;refine J7 ?_;go_wp2_with fail;refine Jo ?_;go_wp2_with fail;refine Zz (I.o _ z.o) ?_;intro w2 k;have C2:=O (z.o.aA k);clear k U d V J Z c5 c6 c7;go_wp2;go_ret;exact⟨rfl,C2.o⟩
  |some s=>
   rw[B]at I;dsimp only[Option.getD_some,Option.isSome_some]at I⊢;obtain⟨s1,s2⟩:=s;dsimp only at I⊢;have HI:=O (fun(w:World)(g:Nat)(h:w.cell? ⟨g,0,none⟩=some (.int .u64 s1))=>Qjf (c:=1) (own:=own) h);unfold ptr at*;clear h hc u hl ht q B;go_enter func101,ntmps101;go_wp2_with fail;refine Qj [(0,0),(0,1),(0,2),(0,3),(0,4),(0,5),(0,6),(0,7),(2,8),(2,9)] Zq (by kernel_rfl) (fun _ _ _ _ _ h=>h) ?_;simp only[Jk,Zf,Ze,Zd];iterate 8 (refine Jq (by kernel_rfl) (by go_simp;try rfl) ?_)
   clear d0 d1 d2 d3 d4 d5 d6 d7;refine J7 ?_;go_wp2_with fail;refine Zy R ?_;intro w1 E;have z:=O E.undrew;obtain⟨U,d,V,J,Z,c5,c6,c7⟩:=Ja (z.o.blk HB.o (fun h=>h));rw[K.o]at d;unfold ptr at*;clear E;go_wp2_with fail;refine J7 ?_;go_wp2_with fail;refine Jo ?_;go_wp2_with fail;refine Zz (I.o _ z.o) ?_;intro w2 k;have C2:=O (z.o.aA k);clear k U d V J Z c5 c6 c7;go_wp2_with fail;refine Zz (HI.o _ _ (Jf (Qh.new _ _ _))) ?_;intro w3 J;have C3:=O ((C2.o.alloc _).aA J);clear J;go_wp2;go_ret;exact⟨rfl,C3.o⟩
theorem Qpj(h:Qo A w F b p)(k:Qs dep N p)(Z:N<549755813888)(i:Int):
  Cl 48 #[ptr b,.int .i64 i] w fun e w'=>e=.returned (.int .u64 ((p.fitAt i:Nat):Int))∧Qc Qb w w':=by
 have z:=O (Hx h k i);unfold Qe.fitAt;rcases Bool.eq_false_or_eq_true (p.aL i)with d|d
 ·rw[if_pos d];rw[d]at z;have hc:∃c,p.at i=some c:=by
   cases hx:p.at i with
   |none=>rw[Qe.awake_none hx]at d;cases d
   |some c=>exact⟨c,rfl⟩
  obtain⟨c,hc⟩:=hc;rw[hc];dsimp only[Zn,Option.getD_some];have E:=O (fun w'(B:Qc Qb w w')=>Qcx ((Qo.obj A).aB h B (Jl.none F)) hc (k.ok c (Qe.aE hc).1) Z);have I:=O (fun w'(B:Qc Qb w w')=>((Qo.obj A).aB h B (Jl.none F)).look1 i);rw[Xz hc]at I;have R:=O h.blk;generalize c.fit=v at E⊢;unfold ptr at*;clear h k hc d;go_enter func48,ntmps48;go_wp2_with fail;refine Zy z ?_;intro w1 q;have u:=O q;have V:=I.o _ q;have U:=Jf (q.blk R.o (fun h=>h));clear q;go_wp2_with fail;refine Zz (E.o _ u.o) ?_;intro w2 J;have K:=O (u.o.aA J);clear J V U;go_wp2;go_ret;exact⟨rfl,K.o⟩
 ·rw[if_neg (by rw[d];decide)];rw[d]at z;rw[show((Qq:Nat):Int)=9223372036854775808 from rfl];unfold ptr at*;clear h k d;go_enter func48,ntmps48;go_wp2_with fail;refine Zy z ?_;intro w1 q;have u:=O q;clear q;go_wp2;go_ret;exact⟨rfl,u.o⟩
theorem Qln(h:Qo A w F b p)(d:Qs dep N p):
  Cl 50 #[ptr b] w fun e w'=>e=.returned (.int .u64 ((p.tick:Nat):Int))∧Qc Qb w w':=by
 have z:=O (Hw h 0);obtain⟨r,hr,_⟩:=d.root;rw[Xz hr]at z;obtain⟨G,ht⟩:=h.tre hr;have k:=O (My ht);obtain⟨B,E,I,J,K,R,U,V⟩:=Ja (h.cell hr);unfold Qe.tick;rw[hr];dsimp only;cases c:low r.tree with
 |none=> rw[c]at k;dsimp only[Option.getD_none,Option.isSome_none]at k⊢;rw[show((Qq:Nat):Int)=9223372036854775808 from rfl];unfold ptr at*;clear h d hr ht c;go_enter func50,ntmps50;go_wp2_with fail;refine Zy z ?_;rintro w1 rfl;go_wp2_with fail;refine Zy k ?_;intro w1 q;have u:=O q;clear q B E I J K R U V;go_wp2;go_ret;exact⟨rfl,u.o⟩
 |some s=> rw[c]at k;obtain⟨s1,s2⟩:=s;dsimp only[Option.getD_some,Option.isSome_some]at k⊢;unfold ptr at*;clear h d hr ht c;go_enter func50,ntmps50;go_wp2_with fail;refine Zy z ?_;rintro w1 rfl;go_wp2_with fail;refine Zy k ?_;intro w1 q;have u:=O q;clear q B E I J K R U V;go_wp2;go_ret;exact⟨rfl,u.o⟩
end
end
section
attribute [local go_sem] Qp
attribute [local irreducible] Kl J9
section
variable{A:Dz}{w:World}{F:Fp}{b:Nat}{p:Qe}{N:Nat}{dep:Int→Nat}
theorem Qcf{v:Nat}{l:List Xu}{e:Xu}(h:Xf v l=some e):e∈l:=List.mem_of_find?_eq_some h
theorem Qpf(p:Qe)(now n:Nat)(i:Int){c:Qx}(hc:p.at i=some c):p.next now (n+1) i=if c.leaf then some i else match Xf now c.tree with
  |none=>none
  |some e=>p.next now n e.2.1:=by
 rw[Qe.next,hc];rfl
theorem Qll(h:Qo A w F b p)(z:Qs dep N p)(now:Nat):
  Cl 44 #[ptr b,.int .u64 now] w fun e w'=>e=.returned (.tuple #[.int .i64 ((p.next now 10 0).getD 0),.bool (p.next now 10 0).isSome])∧Qc Qb w w':=by
 have HA:=O (Hw h 0);obtain⟨r,hr,_⟩:=z.root;obtain⟨Eu,hd⟩:=z.up;rw[Xz hr]at HA;have HO:=O z;have HH:=O h;have k:Hi (∃(id:Int)(c:Qx)(n:Nat),(0:Int)=id∧A.ad 0=A.ad id∧p.at id=some c∧n+dep id=9∧p.next now (n+1) id=p.next now 10 0∧Qc Qb w w):=O ⟨0,r,9,rfl,rfl,hr,by omega,rfl,Zg _ _⟩;generalize ac:p.next now 10 0=ae at k⊢;have HD:=O hd;unfold ptr at*;clear h z hr ac hd;go_enter func44,ntmps44;go_wp2_with fail;refine Zy HA ?_;rintro w1 rfl;go_wp2_with fail;go_loopw [6,7] (fun i v wr=>∃(id:Int)(c:Qx)(n:Nat),i=.int .i64 id∧v=.pointer (some ⟨A.ad id,0,none⟩)∧p.at id=some c∧n+dep id=9∧p.next now (n+1) id=ae∧Qc Qb w wr) (fun i _ wr=>9-dep (intOf i));case atStart=> obtain⟨id,c,n,h1,h2,h3,h4,h5,h6⟩:=k.o;exact⟨id,c,n,by rw[←h1],by rw[←h2],h3,h4,h5,h6⟩
 case round=>
  obtain⟨id,c,n,rfl,rfl,hc,hn,d,K⟩:=hrel;have J:=(Qo.obj A).aB HH.o K (Jl.none F);obtain⟨c0,c1,c2,c3,c4,c5,c6,c7⟩:=Ja (J.cell hc);rw[Qpf p now n id hc]at d;cases aa:c.leaf with
  |true=> rw[aa]at d c1;simp only[if_true]at d;subst d;have U:=O K;clear J K hc;go_wp2;refine bodyPost_ret (v:=.tuple #[.int .i64 id,.bool true]) (by simp[results,Tryz.results44,go_sem]) rfl ⟨rfl,U.o⟩
  |false=>
   rw[aa]at d c1;simp only[Bool.false_eq_true,if_false]at d;obtain⟨G,ht⟩:=J.tre hc;have R:=O (Qen ht now);cases q:Xf now c.tree with
   |none=> rw[q]at R d;dsimp only[Option.map_none,Option.getD_none,Option.isSome_none]at R d;subst d;have U:=O K;unfold ptr at*;clear J K hc ht q;go_wp2_with fail;refine Zy R ?_;intro w2 B;have C2:=O (U.o.aA B);clear B c0 c1 c2 c3 c4 c5 c6 c7;go_wp2;refine bodyPost_ret (v:=.tuple #[.int .i64 0,.bool false]) (by simp[results,Tryz.results44,go_sem]) rfl ⟨rfl,C2.o⟩
   |some x=>
    rw[q]at R d;dsimp only[Zn,Option.getD_some,Option.isSome_some]at R d;obtain⟨V,rfl⟩:=Qe.aE hc;obtain⟨c',u,ab,ah⟩:=HO.o.tr c V x (Qcf q);obtain⟨E,Z⟩:=Qe.aE u;have I:=HD.o c' E (by omega);rw[Z,ab]at I;have af:Hi (∃(id:Int)(c:Qx)(n:Nat),Value.int .i64 x.2.1=.int .i64 id∧(Value.pointer (some ⟨A.ad x.2.1,0,none⟩))=.pointer (some ⟨A.ad id,0,none⟩)∧p.at id=some c∧n+dep id=9∧p.next now (n+1) id=ae):=O ⟨x.2.1,c',n-1,rfl,rfl,u,by omega,by rw[show n-1+1=n by omega];exact d⟩;have LT:Hi (9-dep x.2.1<9-dep c.id):=O (by omega);have U:=O K;have hL:=fun w'(B:Qc Qb wr w')=>((Qo.obj A).aB J B (Jl.none F)).look1 x.2.1;rw[Xz u]at hL;have HL:=O hL;have HB:=O J.blk;unfold ptr at*;clear J K hc ht q u V E hL I d hn;go_wp2_with fail;refine Zy R ?_;intro w2 B;have CC:=O B;have C2:=O (U.o.aA B);clear B c0 c1 c2 c3 c4 c5 c6 c7;go_wp2_with fail;refine Jp [(0,0),(1,1),(1,2),(1,3),(1,4),(1,5),(1,6),(2,7),(3,8)] (fun wv=>Qc (Qb) (w2) wv) Zq (by kernel_rfl) (fun _ _ _ _ _ h=>h) (by(repeat' (first|(with_reducible first|exact Zg _ _|assumption|refine Zh ?_ _|refine Zi ?_ _|refine Zj ?_|refine Zk ?_ _ ?_|(apply Or.inl;rfl))|(apply Or.inl;simp;done)|(apply Or.inr;simp;first|done|omega)))) ?_;simp only[Jk,Zf,Ze,Zd];refine Xe (by kernel_rfl) (by go_simp;try rfl) ?_;iterate 6 (refine Qy (by kernel_rfl) (fun wv hv=>by(have zz:=hv.blk (CC.o.blk HB.o (fun h=>h)) (fun h=>h);have y0:=Jf zz;have y1:=HL.o _ (CC.o.aA hv));go_simp;try rfl) ?_;try simp only[Act.put,Za,Zc,Zb])
    refine Yb ?_;go_wp2_with fail;refine⟨(Zg _ _).drew,?_⟩;refine Km ?_;go_wp2_with fail;refine Ky ?_;go_wp2;obtain⟨ag,c2,n2,r1,r2,r3,r4,r5⟩:=af.o;exact⟨⟨ag,c2,n2,r1,r2,r3,r4,r5,C2.o.drew⟩,LT.o⟩
end
section
variable{A:Dz}{w:World}{F:Fp}{b:Nat}{p:Qe}{N:Nat}{dep:Int→Nat}
theorem St{i:Int}{c q:Qx}(hc:p.at i=some c)(d:p.at c.par=some q):p.note i=p.set {q with tree:=if p.aL i then Vf i (p.v i) c.fit q.tree else Xa i q.tree}:=by unfold Qe.note;rw[hc];dsimp only;rw[d]
theorem Ke{G:Fp}{w w1 w2:World}(h:w.heap.size≤w1.heap.size):∀k,Qn G w1 w2 k→Qn G w w2 k:=fun k c=>c.elim .inl (fun c=>.inr ⟨Zp h c.1,c.2⟩)
theorem Mj(h:Qo A w F b p)(u:Qs dep N p)(hN:N<549755813888){i:Int}{c q:Qx}(hi:0<i)(hc:p.at i=some c)(V:p.at c.par=some q):
  Cl 141 #[ptr b,.int .i64 i] w fun e w'=>e=.returned (.tuple #[])∧Qo A w' (Qn F w w') b (p.note i)∧Qc F w w':=by
 rw[St hc V];obtain⟨J,af⟩:=Qe.aE V;have k:=u.ok q J;have R:=h.look1 i;rw[Xz hc]at R;have U:=h.drew.look1 c.par;rw[Xz V]at U;have a0:=Jf h.blk;have ac:=Jf h.drew.blk;obtain⟨c0,_,_,_,_,_,_,_⟩:=Ja (h.drew.cell hc);obtain⟨_,_,_,_,_,_,q6,_⟩:=Ja (h.drew.cell V);obtain⟨G,ht,ae,z⟩:=h.treeOf J;rw[af]at ht;have E:=O (Hx h.drew u i);have HV:=O (fun w'(B:Qc Qb w w')=>Qnl ((Qo.obj A).aB h B (Jl.none F)) u i);have HF:=O (fun w'(B:Qc Qb w w')=>Qcx ((Qo.obj A).aB h B (Jl.none F)) hc (u.ok c (Qe.aE hc).1) hN);have I:=O (fun w'(B:Qc Qb w w')=>Qct (Jg.obj.aB ht B (Jl.none G)) (Nat.lt_of_le_of_lt k.tree (by omega)) i (p.v i) c.fit);have ab:=O (fun w'(B:Qc Qb w w')=>Tt (Jg.obj.aB ht B (Jl.none G)) (Nat.lt_of_le_of_lt k.tree (by omega)) i);have aa:Hi (∀w1 w2 t,Qc Qb w w1→Jg w2 (Qn G w1 w2) (A.pt c.par) t→Qc G w1 w2→Qo A w2 (Qn F w w2) b (p.set {q with tree:=t})∧Qc F w w2):=O (fun w1 w2 t K h2 c2=>by
  have B:Qc G w w2:=K.none.aA c2;exact z w2 t (by rw[af];exact Jg.obj.more h2 (Ke K.size) ((Jg.obj.bd ht).ext B)) B)
 rcases Bool.eq_false_or_eq_true (p.aL i)with d|d
 ·rw[if_pos d];rw[d]at E;generalize p.v i=v at HV I⊢;generalize c.fit=ft at HF I⊢;unfold ptr at*;clear h u hc V ht z d ae k J ab;go_enter func141,ntmps141;go_wp2_with fail;refine Qj [(0,0),(0,1),(0,2),(0,3),(0,4),(0,5),(0,6),(0,7),(0,8),(0,9),(0,10),(0,11),(2,12)] Zq (by kernel_rfl) (fun _ _ _ _ _ h=>h) ?_;simp only[Jk,Zf,Ze,Zd];iterate 12 (refine Jq (by kernel_rfl) (by go_simp;try rfl) ?_)
  refine J7 ?_;go_wp2_with fail;refine Jo ?_;clear R U a0 ac c0 q6;go_wp2_with fail;refine Zy E ?_;intro w1 K;have Z:=O K.undrew;clear K;go_wp2_with fail;refine Zz (HV.o _ Z.o) ?_;intro w2 c2;have C2:=O (Z.o.aA c2);clear c2;go_wp2_with fail;refine Zz (HF.o _ C2.o) ?_;intro w3 c3;have C3:=O (C2.o.aA c3);clear c3;go_wp2_with fail;refine Zz (I.o _ C3.o) ?_;rintro w4⟨h4,c4⟩;have FF:=O (aa.o _ _ _ C3.o h4 c4);clear h4 c4;go_wp2;refine bodyPost_end (by simp[*,results,Tryz.results141,go_sem]) rfl ⟨rfl,FF.o⟩
 ·rw[if_neg (by rw[d];decide)];rw[d]at E;unfold ptr at*;clear h u hc V ht z d ae k J I HV HF;go_enter func141,ntmps141;go_wp2_with fail;refine Qj [(0,0),(0,1),(0,2),(0,3),(0,4),(0,5),(0,6),(0,7),(0,8),(0,9),(0,10),(0,11),(2,12)] Zq (by kernel_rfl) (fun _ _ _ _ _ h=>h) ?_;simp only[Jk,Zf,Ze,Zd];iterate 12 (refine Jq (by kernel_rfl) (by go_simp;try rfl) ?_)
  refine J7 ?_;go_wp2_with fail;refine Jo ?_;clear R U a0 ac c0 q6;go_wp2_with fail;refine Zy E ?_;intro w1 K;have Z:=O K.undrew;clear K;go_wp2_with fail;refine Zz (ab.o _ Z.o) ?_;rintro w4⟨h4,c4⟩;have FF:=O (aa.o _ _ _ Z.o h4 c4);clear h4 c4;go_wp2;refine bodyPost_end (by simp[*,results,Tryz.results141,go_sem]) rfl ⟨rfl,FF.o⟩
end
def Eu:List Int→Int
 |[]=>0
 |i::_=>i
section
variable{A:Dz}{w:World}{F:Fp}{b:Nat}{p:Qe}{N:Nat}
theorem Lo(g:FuncId)(R:Array Value)(eg:∀ac w,(callFunc g ac).run prog w=.ok (.enter g ac) w)(d:Qe→Int→Qe)(J:List Int→Qe→Prop)(mu:Int→Nat)
  (hJ:∀id rest p',J (id::rest) p'→0<id∧mu (Eu rest)<mu id∧J rest (d p' id)∧(∃c,p'.at id=some c)∧∃c',(d p' id).at id=some c'∧c'.par=Eu rest)
  (hS:∀id rest p' w',J (id::rest) p'→Qo A w' (Qn F w w') b p'→Qc F w w'→Cl g (#[.int .i64 id,ptr (A.ad id)]++R) w' fun e ai=>e=.returned (.tuple #[])∧Qo A ai (Qn (Qn F w w') w' ai) b (d p' id)∧Qc (Qn F w w') w' ai)
  (h:Qo A w F b p) (l:List Int) (hl:J l p) (i:Int) (hi:i=Eu l):
  Cl 136 #[ptr b,.int .i64 i,.func (.func g) #[] R] w fun e w'=>e=.returned (.tuple #[])∧Qo A w' (Qn F w w') b (l.foldl d p)∧Qc F w w':=by
 have I:Hi (∃rest p',i=Eu rest∧J rest p'∧rest.foldl d p'=l.foldl d p∧Qo A w (Qn F w w) b p'∧Qc F w w):=O ⟨l,p,hi,hl,rfl,(Qo.obj A).more h (fun k hk=>.inl hk) (((Qo.obj A).bd h).ext (Zg F w)),Zg _ _⟩;have HJ:=O hJ;have HS:=O hS;have aj:=O ((Qo.obj A).bd h);generalize ak:l.foldl d p=al at I⊢;unfold ptr at*;clear h hl hJ hS hi ak;go_enter func136,ntmps136;go_wp2;refine wp_scope_jumps 0 (fun a' wr=>∃rest p' u3 u4 u5 u6 u7 u8 u9 u10 u11 u12 u13 u14 u15 u16 u17 u18 u19 u20 u21 u22,a'={tmps:=#[.pointer (some ⟨b,0,none⟩),.int .i64 (Eu rest),.func (.func g) #[] R,u3,u4,u5,u6,u7,u8,u9,u10,u11,u12,u13,u14,u15,u16,u17,u18,u19,u20,u21,u22],defers:=[]}∧J rest p'∧rest.foldl d p'=al∧Qo A wr (Qn F w wr) b p'∧Qc F w wr)
  (fun a' _=>mu (intOf (a'.tmps.getD 1 undef))) rfl ?_ ?_
 ·obtain⟨rest,p',rfl,hj,hf,E,hc⟩:=I.o;cases rest with
  |nil=> dsimp only[List.foldl_nil]at hf;rw[show Eu []=0 from rfl];subst hf;have ae:=O (Zt E hc);clear hj E hc;go_wp2;go_step3;go_wp2;simp only[Exit.jump];refine bodyPost_end (results_none rfl _ _ _) rfl ⟨rfl,ae.o⟩
  |cons id rest=>
   dsimp only[List.foldl_cons]at hf;rw[show Eu (id::rest)=id from rfl];obtain⟨aa,Z,V,⟨c,U⟩,c',q,u⟩:=HJ.o id rest p' hj;have d1:decide (0<id)=true:=by simpa using aa
   have hL:=E.look1 id;rw[Xz U]at hL;have a0:=Jf E.blk;have HC:=O (HS.o id rest p' w hj E hc);have CC:=O hc;have af:=O hf;have ag:=O V;have ab:=O Z;have z:=O (Zt q u);obtain⟨nx,B⟩:=Zx (Eu rest);rw[←B]at ab z;have ah:=O B;clear B;unfold ptr at*;clear hj V E U q hc hf u Z;go_wp2;go_step3;go_wp2_with fail;refine Zy HC ?_;rintro w2⟨h2,c2⟩;obtain⟨k1,k2⟩:=(Qo.obj A).two h2 aj.o CC.o c2;obtain⟨d0,_,_,_,_,_,_,_⟩:=Ja (k1.cell z.o.1);rw[z.o.2]at d0;have K:=O (Zt k1 k2);clear h2 c2 k1 k2 hL a0;go_wp2;go_step3;exact⟨rfl,⟨rest,_,_,_,_,_,_,_,_,_,_,_,_,_,_,_,_,_,_,_,_,_,by rw[←ah.o],ag.o,af.o,K.o.1,K.o.2⟩⟩
 ·rintro a' wr⟨rest,p',u3,u4,u5,u6,u7,u8,u9,u10,u11,u12,u13,u14,u15,u16,u17,u18,u19,u20,u21,u22,rfl,hj,hf,E,hc⟩;cases rest with
  |nil=> dsimp only[List.foldl_nil]at hf;rw[show Eu []=0 from rfl];subst hf;have ae:=O (Zt E hc);clear hj E hc;go_wp2;simp only[Exit.jump];refine bodyPost_end (results_none rfl _ _ _) rfl ⟨rfl,ae.o⟩
  |cons id rest=>
   dsimp only[List.foldl_cons]at hf;rw[show Eu (id::rest)=id from rfl];obtain⟨aa,Z,V,⟨c,U⟩,c',q,u⟩:=HJ.o id rest p' hj;have d1:decide (0<id)=true:=by simpa using aa
   have hL:=E.look1 id;rw[Xz U]at hL;have a0:=Jf E.blk;have HC:=O (HS.o id rest p' wr hj E hc);have CC:=O hc;have af:=O hf;have ag:=O V;have ab:=O Z;have z:=O (Zt q u);obtain⟨nx,B⟩:=Zx (Eu rest);rw[←B]at ab z;have ah:=O B;clear B;unfold ptr at*;clear hj V E U q hc hf u Z;go_wp2_with fail;refine Zy HC ?_;rintro w2⟨h2,c2⟩;obtain⟨k1,k2⟩:=(Qo.obj A).two h2 aj.o CC.o c2;obtain⟨d0,_,_,_,_,_,_,_⟩:=Ja (k1.cell z.o.1);rw[z.o.2]at d0;have K:=O (Zt k1 k2);clear h2 c2 k1 k2 hL a0;go_wp2;go_step3;exact⟨rfl,⟨rest,_,_,_,_,_,_,_,_,_,_,_,_,_,_,_,_,_,_,_,_,_,by rw[←ah.o],ag.o,af.o,K.o.1,K.o.2⟩,ab.o⟩
end
end
section
variable{p:Qe}{N M:Nat}{dep:Int→Nat}
theorem Hq{x y:Qx}(h:p.at x.id=some y):(p.set x).at x.id=some x:=by
 unfold Qe.at Qe.set at*;induction p with
 |nil=>cases h
 |cons z p d=>
  rw[List.map_cons,List.find?_cons];rw[List.find?_cons]at h;by_cases c:z.id=x.id;·simp[c]
  ·simp only[c,decide_false,if_false]at h⊢;exact d h
theorem V5{x:Qx}{i:Int}(h:i≠x.id):(p.set x).at i=p.at i:=by
 unfold Qe.at Qe.set;induction p with
 |nil=>rfl
 |cons z p k=>
  rw[List.map_cons,List.find?_cons,List.find?_cons];by_cases c:z.id=x.id;·rw[if_pos c];have h1:¬x.id=i:=fun e=>h e.symm;have q:¬z.id=i:=fun e=>h (by rw[←e,c]);simp only[h1,q,decide_false];exact k
  ·rw[if_neg c];by_cases d:z.id=i;·simp[d]
   ·simp only[d,decide_false];exact k
theorem V0{x y:Qx}(h:p.at x.id=some y)(i:Int):(p.set x).at i=if i=x.id then some x else p.at i:=by
 split;·rename_i e;rw[e];exact Hq h
 ·rename_i e;exact V5 e
theorem Qns(x:Qx):(p.set x).map Qx.id=p.map Qx.id:=by
 unfold Qe.set;rw[List.map_map];refine List.map_congr_left fun y _=>?_;simp only[Function.comp];split;·rename_i h;exact h.symm
 ·rfl
theorem mem_set{x y:Qx}(h:y∈p.set x):y=x∨(y∈p∧y.id≠x.id):=by
 obtain⟨z,c,rfl⟩:=Z3.1 h;by_cases e:z.id=x.id;·rw[if_pos e];exact .inl rfl
 ·rw[if_neg e];exact .inr ⟨c,e⟩
theorem Qs.set(h:Qs dep N p)(hm:N≤M){x y:Qx}(I:p.at x.id=some y)(Z:x.par=y.par)(hl:x.leaf=y.leaf)(hk:Ps M x)
  (ht:∀e∈x.tree,∃c,p.at e.2.1=some c∧c.par=x.id∧0<e.2.1):Qs dep M (p.set x):=by
 have U:=(Qe.aE I).2;have look:∀{i c},p.at i=some c→∃c',(p.set x).at i=some c'∧c'.par=c.par∧c'.leaf=c.leaf:=fun{i c}hc=>by
  rw[V0 I];by_cases e:i=x.id;·subst e;rw[I]at hc;obtain rfl:=Zs hc;exact⟨x,by rw[if_pos rfl],Z,hl⟩
  ·exact⟨c,by rw[if_neg e];exact hc,rfl,rfl⟩
 refine⟨by rw[Qns];exact h.nd,?_,⟨h.up.1,fun c hc h0=>?_⟩,fun q B e V=>?_,fun c hc=>?_⟩;·obtain⟨r,hr,K⟩:=h.root;obtain⟨r',h1,_,u⟩:=look hr;exact⟨r',h1,u.trans K⟩
 ·obtain⟨E,R,k⟩:∃E,E∈p∧E.id=c.id∧E.par=c.par:=by
   rcases mem_set hc with rfl|⟨hc,_⟩;·exact⟨y,(Qe.aE I).1,U,Z.symm⟩
   ·exact⟨c,hc,rfl,rfl⟩
  have:=h.up.2 E R (by rw[k.1];exact h0);rw[k.1,k.2]at this;obtain⟨h1,⟨q,B⟩,z⟩:=this;obtain⟨q',J,_⟩:=look B;exact⟨h1,⟨q',J⟩,z⟩
 ·rcases mem_set B with rfl|⟨B,_⟩;·obtain⟨c,hc,h1,u⟩:=ht e V;obtain⟨c',d,z,_⟩:=look hc;exact⟨c',d,z.trans h1,u⟩
  ·obtain⟨c,hc,h1,u⟩:=h.tr q B e V;obtain⟨c',d,z,_⟩:=look hc;exact⟨c',d,z.trans h1,u⟩
 ·rcases mem_set hc with rfl|⟨hc,_⟩;·exact hk
  ·exact(h.ok c hc).more hm
theorem Qs.more(h:Qs dep N p)(d:N≤M):Qs dep M p:=⟨h.nd,h.root,h.up,h.tr,fun c hc=>(h.ok c hc).more d⟩
def Vy(p:Qe):List Int→Prop
 |[]=>True
 |id::rest=>0<id∧(∃c,p.at id=some c∧c.par=Eu rest)∧Vy p rest
def Jv(p p':Qe):Prop:=∀i,(p'.at i).map (fun c=>(c.par,c.leaf,c.aJ))=(p.at i).map (fun c=>(c.par,c.leaf,c.aJ))
theorem Jv.get{p p':Qe}(h:Jv p p'){i:Int}{c:Qx}(hc:p.at i=some c):∃c',p'.at i=some c'∧c'.par=c.par∧c'.leaf=c.leaf∧c'.aJ=c.aJ:=by
 have:=h i;rw[hc]at this;cases h':p'.at i with
 |none=>rw[h']at this;cases this
 |some c'=> rw[h']at this;simp only[Zn,Option.some.injEq,Prod.mk.injEq]at this;exact⟨c',rfl,this⟩
theorem Jv.refl(p:Qe):Jv p p:=fun _=>rfl
theorem Jv.trans{p p' p'':Qe}(h:Jv p p')(h':Jv p' p''):Jv p p'':=fun i=>(h' i).trans (h i)
theorem Jv.set{x y:Qx}(c:p.at x.id=some y)(d:x.par=y.par)(hl:x.leaf=y.leaf)(hs:x.aJ=y.aJ):Jv p (p.set x):=fun i=>by
 rw[V0 c];by_cases e:i=x.id;·subst e;rw[if_pos rfl,c];simp[d,hl,hs]
 ·rw[if_neg e]
theorem Vy.same{p p':Qe}(h:Jv p p'):∀{l:List Int},Vy p l→Vy p' l
 |[],_=>trivial
 |id::rest,⟨h1,⟨c,hc,hp⟩,h3⟩=>by obtain⟨c',d,e,_⟩:=h.get hc;exact⟨h1,⟨c',d,e.trans hp⟩,Vy.same h h3⟩
theorem Qs.pid(h:Qs dep N p){i:Int}{c q:Qx}(hc:p.at i=some c)(hi:0<i)(u:p.at c.par=some q):q.id≠i∧q.id=c.par:=by obtain⟨k,rfl⟩:=Qe.aE hc;have h1:=(Qe.aE u).2;have d:=(h.up.2 c k (by omega)).2.2.1;refine⟨fun e=>?_,h1⟩;rw[h1]at e;rw[e]at d;omega
def Kw(N:Nat)(f:Jc):Prop:=(∀x∈f.all,x.total≤Xw∧x.run.l.length≤N∧x.v≤Qq)∧f.mark≤Qq
theorem reach_le(r:Xh)(y:Nat):r.reach y≤Qq:=by
 unfold Xh.reach Kn;split
 ·split;·exact Nat.zero_le _
  ·exact Zv _
 ·split;·exact Zv _
  ·exact Nat.min_le_left _ _
theorem Kw.more{f:Jc}(h:Kw N f)(d:N≤M):Kw M f:=⟨fun x c=>⟨(h.1 x c).1,Zp (h.1 x c).2.1 d,(h.1 x c).2.2⟩,h.2⟩
theorem Qg2{f:Jc}{a x:Jh}(h:x∈(f.set a).all):x=a∨x∈f.all:=by
 obtain⟨z,c,rfl⟩:=Z3.1 h;split;·exact .inl rfl
 ·exact .inr c
theorem Kw.set{f:Jc}{a:Jh}(h:Kw N f)(d:N≤M)(ha:a.total≤Xw∧a.run.l.length≤M∧a.v≤Qq):Kw M (f.set a):=⟨fun x c=>(Qg2 c).elim (fun e=>e▸ha) (fun c=>(h.more d).1 x c),h.2⟩
theorem Kw.made{f:Jc}{a:Jh}{v:Nat}(h:Kw N f)(d:N≤M)(ha:a.total≤Xw∧a.run.l.length≤M)(c:v≤Qq):Kw M (f.made a v):=by have h1:=h.set (a:={a with v:=v}) d ⟨ha.1,ha.2,c⟩;exact⟨h1.1,Nat.max_le.2 ⟨h.2,c⟩⟩
theorem Qsu{f:Jc}(h:Kw N f){x:Jh}(d:x∈f.all):f.start x≤Qq:=by have k:=(h.1 x d).2.2;have c:=h.2;unfold Jc.start;have h1:f.most≤Qq:=Qaq _ fun z q=>(h.1 z (List.mem_filter.1 q).1).2.2;have u:f.least≤Qq:=Cg _;split<;>omega
theorem Kw.wake{f:Jc}(h:Kw N f)(i:Int):Kw (N+1) (f.wake i):=by
 unfold Jc.wake;cases d:f.at i with
 |none=>exact h.more (Nat.le_succ _)
 |some m=>
  have c:=(Jc.aE d).1;dsimp only;split;·exact h.more (Nat.le_succ _)
  ·exact h.made (Nat.le_succ _) ⟨(h.1 m c).1,by have:=(h.1 m c).2.1;dsimp only;rw[Gj];omega⟩ (Qsu h c)
theorem Kw.sleep{f:Jc}(h:Kw N f)(i:Int):Kw N (f.sleep i):=by
 unfold Jc.sleep;cases c:f.at i with
 |none=>exact h
 |some m=>exact h.set (Zv _) (h.1 m (Jc.aE c).1)
theorem Kw.gain{f:Jc}(h:Kw N f)(i:Int)(g:Nat):Kw N (f.gain i g):=by
 unfold Jc.gain;cases d:f.at i with
 |none=>exact h
 |some m=>
  have c:=h.1 m (Jc.aE d).1;have ht:m.total+min g (Xw-m.total)≤Xw:=by have:=c.1;omega
  dsimp only;split;·exact h.made (Zv _) ⟨ht,c.2.1⟩ (reach_le _ _)
  ·exact h.set (Zv _) ⟨ht,c.2⟩
theorem Kw.add{f:Jc}(h:Kw N f)(i:Int)(c:Jy):Kw N (f.add i c):=by
 unfold Jc.add;cases d:f.at i with
 |some m=>exact h
 |none=>
  refine⟨fun x d=>?_,h.2⟩;rcases Zl.1 d with d|d;·exact h.1 x d
  ·obtain rfl:x=_:=by simpa using d
   exact⟨Nat.zero_le _,Nat.zero_le _,Nat.zero_le _⟩
theorem Kw.drop{f:Jc}(h:Kw N f)(i:Int):Kw N (f.drop i):=⟨fun x c=>h.1 x (List.mem_filter.1 c).1,h.2⟩
theorem Ps.fam{c:Qx}(h:Ps N c):Kw N c.mem:=⟨h.mem,h.mark⟩
theorem Ps.withMem{c:Qx}(h:Ps N c){f:Jc}(d:N≤M)(hf:Kw M f):Ps M {c with mem:=f}:=⟨h.total,(h.more d).lim,hf.1,hf.2,(h.more d).tree,h.aM⟩
theorem Py{i:Int}{c q:Qx}{f:Jc→Jc}(hc:p.at i=some c)(d:p.at c.par=some q):p.fam i f=p.set {q with mem:=f q.mem}:=by unfold Qe.fam;rw[hc];dsimp only;rw[d]
theorem Qs.fam(h:Qs dep N p)(E:N≤M){i:Int}{c q:Qx}{f:Jc→Jc}(hc:p.at i=some c)(hi:0<i)(z:p.at c.par=some q)(hf:Kw M (f q.mem)):
  Qs dep M (p.fam i f)∧Jv p (p.fam i f)∧(p.fam i f).at i=some c∧(p.fam i f).at c.par=some {q with mem:=f q.mem}:=by
 rw[Py hc z];obtain⟨B,k⟩:=h.pid hc hi z;have d:p.at ({q with mem:=f q.mem}:Qx).id=some q:=by show p.at q.id=_;rw[k];exact z
 have u:=(Qe.aE z).1;refine⟨h.set E d rfl rfl ((h.ok q u).withMem E hf) (fun e I=>h.tr q u e I),Jv.set d rfl rfl rfl,?_,?_⟩;·exact(V5 (x:={q with mem:=f q.mem}) (show i≠q.id from fun e=>B e.symm)).trans hc
 ·rw[←k];exact Hq d
theorem Qo4{l:Kg}{r:Xh}{now t:Nat}(h:l.wake now t=some r)(hl:∀r,l=some r→r.l.length≤N):r.l.length≤N+1:=by
 unfold Kg.wake at h;cases l with
 |none=>cases h
 |some c=> obtain rfl:=Zs h;have:=hl c rfl;rw[Gj];omega
theorem Qs.up1(h:Qs dep N p)(now:Nat){i:Int}{c q:Qx}(hc:p.at i=some c)(hi:0<i)(I:p.at c.par=some q):Qs dep (N+1) (p.up1 now i)∧Jv p (p.up1 now i):=by
 unfold Qe.up1;rw[hc];dsimp only;split;·exact⟨h.more (Nat.le_succ _),Jv.refl _⟩
 ·have E:=(Qe.aE I).1;have B:=(Qe.aE hc).2;obtain⟨h1,J,z,R⟩:=h.fam (f:=fun f=>f.wake i) (Nat.le_succ N) hc hi I ((h.ok q E).fam.wake i);have u:(p.fam i fun f=>f.wake i).at ({c with limit:=c.limit.wake now c.total}:Qx).id=some c:=by show Qe.at _ c.id=_;rw[B];exact z
  have k:=h.ok c (Qe.aE hc).1;have d:=h1.ok c (Qe.aE z).1;refine⟨h1.set (Zv _) u rfl rfl ⟨k.total,fun r hr=>Qo4 hr k.lim,d.mem,d.mark,d.tree,k.aM⟩ (fun e K=>h1.tr c (Qe.aE z).1 e K),J.trans (Jv.set u rfl rfl rfl)⟩
theorem Qs.note(h:Qs dep N p){i:Int}{c q:Qx}(hc:p.at i=some c)(hi:0<i)(E:p.at c.par=some q):Qs dep (N+1) (p.note i)∧Jv p (p.note i):=by
 rw[St hc E];obtain⟨J,z⟩:=h.pid hc hi E;have B:=(Qe.aE E).1;have d:=h.ok q B;have key:∀t:List Xu,t.length≤N+1→(∀e∈t,e.2.1=i∨e∈q.tree)→Qs dep (N+1) (p.set {q with tree:=t})∧Jv p (p.set {q with tree:=t}):=fun t hl ht=>by
  have u:p.at ({q with tree:=t}:Qx).id=some q:=by show p.at q.id=_;rw[z];exact E
  refine⟨h.set (Nat.le_succ _) u rfl rfl ⟨d.total,(d.more (Nat.le_succ _)).lim,(d.more (Nat.le_succ _)).mem,d.mark,hl,d.aM⟩ (fun e k=>?_),Jv.set u rfl rfl rfl⟩;rcases ht e k with k|k;·exact⟨c,by rw[k];exact hc,z.symm,by rw[k];exact hi⟩
  ·exact h.tr q B e k
 have I:(Xa i q.tree).length≤q.tree.length:=List.length_filter_le _ _;split
 ·refine key _ ?_ fun e k=>?_;·have:=(En (p.v i,i,c.fit) (Xa i q.tree)).length_eq;unfold Vf;have K:=d.tree;simp only[Zm]at this;omega
  ·rcases Lb.1 k with rfl|k;·exact .inl rfl
   ·exact .inr (List.mem_filter.1 k).1
 ·exact key _ (by have:=d.tree;omega) fun e k=>.inr (List.mem_filter.1 k).1
theorem Qs.gain1(h:Qs dep N p)(g:Nat){i:Int}{c q:Qx}(hc:p.at i=some c)(hi:0<i)(K:p.at c.par=some q):Qs dep (N+1) (p.gain1 g i)∧Jv p (p.gain1 g i):=by
 unfold Qe.gain1;rw[hc];dsimp only;obtain⟨I,J⟩:=h.pid hc hi K;have u:=(Qe.aE hc).2;have d:=h.ok c (Qe.aE hc).1;have k:p.at ({c with total:=c.total+min g (Xw-c.total)}:Qx).id=some c:=by show p.at c.id=_;rw[u];exact hc
 have h1:=h.set (Nat.le_succ N) k rfl rfl ⟨(by have:=d.total;dsimp only;omega),(d.more (Nat.le_succ _)).lim,(d.more (Nat.le_succ _)).mem,d.mark,(d.more (Nat.le_succ _)).tree,d.aM⟩ (fun e U=>h.tr c (Qe.aE hc).1 e U);have R:=Jv.set (p:=p) k rfl rfl rfl;have B:(p.set {c with total:=c.total+min g (Xw-c.total)}).at i=some {c with total:=c.total+min g (Xw-c.total)}:=by have:=Hq k;rw[←u];exact this
 have z:(p.set {c with total:=c.total+min g (Xw-c.total)}).at c.par=some q:=by exact(V5 (x:={c with total:=c.total+min g (Xw-c.total)}) (show c.par≠c.id from fun e=>I (by rw[J,e,u]))).trans K
 have E:=(h1.ok q (Qe.aE z).1).fam.gain i g;obtain⟨k1,k2,_⟩:=h1.fam (f:=fun f=>f.gain i g) (Zv _) B hi z E;exact⟨k1,R.trans k2⟩
theorem Qs.rest1(h:Qs dep N p)(sl:Bool){i:Int}{c q:Qx}(hc:p.at i=some c)(hi:0<i)(d:p.at c.par=some q):Qs dep (N+1) (p.rest1 sl i)∧Jv p (p.rest1 sl i):=by
 unfold Qe.rest1;rw[hc];dsimp only;split;·obtain⟨k1,k2,k,u⟩:=h.fam (f:=fun f=>f.sleep i) (Zv _) hc hi d ((h.ok q (Qe.aE d).1).fam.sleep i);obtain⟨l1,l2⟩:=k1.note k hi u;exact⟨l1,k2.trans l2⟩
 ·exact h.note hc hi d
structure Y9(dep:Int→Nat)(N L:Nat)(p0:Qe)(rest:List Int)(p:Qe):Prop where
 len:rest.length≤L
 ok:Qs dep (N+(L-rest.length)) p
 path:Vy p rest
 same:Jv p0 p
theorem Y9.head{p0:Qe}{L:Nat}{id:Int}{rest:List Int}(h:Y9 dep N L p0 (id::rest) p):0<id∧∃c q,p.at id=some c∧p.at c.par=some q∧c.par=Eu rest:=by obtain⟨h1,⟨c,hc,d⟩,_⟩:=h.path;obtain⟨q,k⟩:=h.ok.par hc h1;exact⟨h1,c,q,hc,k,d⟩
theorem Y9.next{p0:Qe}{L:Nat}{id:Int}{rest:List Int}(h:Y9 dep N L p0 (id::rest) p){p':Qe}(d:Qs dep (N+(L-(id::rest).length)+1) p')(hs:Jv p p'):
  0<id∧dep (Eu rest)<dep id∧Y9 dep N L p0 rest p'∧(∃c,p.at id=some c)∧∃c',p'.at id=some c'∧c'.par=Eu rest:=by
 obtain⟨h1,c,q,hc,J,B⟩:=h.head;obtain⟨I,u⟩:=Qe.aE hc;have E:=(h.ok.up.2 c I (by omega)).2.2.1;rw[B,u]at E;obtain⟨c',k,z,_⟩:=hs.get hc;have hl:=h.len;simp only[Zm]at hl d;refine⟨h1,by omega,⟨by omega,?_,Vy.same hs h.path.2.2,h.same.trans hs⟩,⟨c,hc⟩,c',k,z.trans B⟩;rw[show N+(L-rest.length)=N+(L-(rest.length+1))+1 by omega];exact d
end
section
attribute [local go_sem] Qp
attribute [local irreducible] Kl J9
section
variable{A:Dz}{w:World}{F:Fp}{b:Nat}{p:Qe}{N:Nat}{dep:Int→Nat}
theorem Qkx(now x:Nat)(w):Cl 139 #[.pointer none,.int .u64 now,.int .u64 x] w fun e w'=>e=.returned (.tuple #[])∧Qc Qb w w':=by have k:=O (F8 w);go_enter func139,ntmps139;go_wp2_with fail;refine Zy k ?_;intro w1 c;have d:=O c;clear c;go_wp2;refine bodyPost_end (by simp[*,results,Tryz.results139,go_sem]) rfl ⟨rfl,d.o⟩
theorem Qhs{v:Value}{l:Kg}{G:Fp}(h:Do v l w G)(hn:∀r,l=some r→r.l.length<549755813888)(now x:Nat)(h1:now<18446744073709551616)(d:x<18446744073709551616):
  Cl 139 #[v,.int .u64 now,.int .u64 x] w fun e w'=>e=.returned (.tuple #[])∧Do v (l.wake now x) w' (Qn G w w')∧Qc G w w':=by
 rcases h with⟨rfl,rfl,k⟩|⟨q,rfl,h⟩;·refine Zz (Qkx now x w) ?_;intro w1 c;exact⟨rfl,.inl ⟨rfl,rfl,k.ext (c.none (F:=G))⟩,c.none⟩
 ·refine Zz (Qkw h hn now x h1 d) ?_;rintro w1⟨h',c⟩;exact⟨rfl,.inr ⟨q,rfl,h'⟩,c⟩
theorem Qo.famAt(h:Qo A w F b p){i:Int}{q:Qx}(I:p.at i=some q):
  ∃G:Fp,J0 w G (A.pf i) q.mem∧(∀k,G k→F k)∧∀w1 w2 f,Qc Qb w w1→J0 w2 (Qn G w1 w2) (A.pf i) f→Qc G w1 w2→Qo A w2 (Qn F w w2) b (p.set {q with mem:=f})∧Qc F w w2:=by
 obtain⟨E,hi⟩:=Qe.aE I;obtain⟨G,h1,z,B⟩:=h.famOf E;rw[hi]at h1;refine⟨G,h1,z,fun w1 w2 f c hf u=>?_⟩;have d:Qc G w w2:=c.none.aA u;exact B w2 f (by rw[hi];exact J0.obj.more hf (Ke c.size) ((J0.obj.bd h1).ext d)) d
theorem Qo.limAt(h:Qo A w F b p){i:Int}{q:Qx}(I:p.at i=some q):
  ∃G:Fp,Do (A.vl i) q.limit w G∧(∀k,G k→F k)∧∀w1 w2 f,Qc Qb w w1→Do (A.vl i) f w2 (Qn G w1 w2)→Qc G w1 w2→Qo A w2 (Qn F w w2) b (p.set {q with limit:=f})∧Qc F w w2:=by
 obtain⟨E,hi⟩:=Qe.aE I;obtain⟨G,h1,z,B⟩:=h.limOf E;rw[hi]at h1;refine⟨G,h1,z,fun w1 w2 f c hf u=>?_⟩;have d:Qc G w w2:=c.none.aA u;exact B w2 f (by rw[hi];exact(Do.good _ _).more hf (Ke c.size) (((Do.good _ _).bd h1).ext d)) d
theorem Qpm(h:Qo A w F b p)(k:Qs dep N p)(hN:N<549755813887){i:Int}{c q:Qx}(hi:0<i)(hc:p.at i=some c)(U:p.at c.par=some q)(now:Nat)(ae:now<18446744073709551616)
  {Bp Bn:Nat}(K:Qh w Bp #[ptr b] 77)(V:Qh w Bn #[.int .u64 now] 29)(aq:¬F Bp)(an:¬F Bn):
  Cl 137 #[.int .i64 i,ptr (A.ad i),.pointer (some ⟨Bp,0,none⟩),.pointer (some ⟨Bn,0,none⟩)] w fun e w'=>e=.returned (.tuple #[])∧Qo A w' (Qn F w w') b (p.up1 now i)∧Qc F w w':=by
 have J:=O (Hx h k i);have a0:=Jf K;have am:=(Qo.obj A).bd h;obtain⟨c0,c1,I,c3,c4,c5,c6,c7⟩:=Ja (h.cell hc);have B:Hi (∀w',Qc Qb w w'→Qo A w' (Qn F w w') b p∧Qc F w w'):=O (fun w' d=>(Qo.obj A).same h d);have stay:∀w',Qc Qb w w'→p.up1 now i=p→Qo A w' (Qn F w w') b (p.up1 now i)∧Qc F w w':=fun w' d e=>by rw[e];exact B.o w' d
 rcases Bool.eq_false_or_eq_true (p.aL i)with z|z
 ·have e:p.up1 now i=p:=by unfold Qe.up1;rw[hc];simp[z]
  have ST:=O (fun w'(d:Qc Qb w w')=>stay w' d e);rw[z]at J;unfold ptr at*;clear h k hc U z K V stay B e;go_enter func137,ntmps137;go_wp2_with fail;refine Zy J ?_;intro w1 d;have ab:=O (ST.o _ d);clear d;go_wp2;refine bodyPost_ret (results_none rfl _ _ _) rfl ⟨rfl,ab.o⟩
 ·rw[z]at J;cases E:c.aJ with
  |false=>
   have e:p.up1 now i=p:=by unfold Qe.up1;rw[hc];simp[E]
   have ST:=O (fun w'(d:Qc Qb w w')=>stay w' d e);have HC:=O (h.cell hc);have HS:=O E;unfold ptr at*;clear h k hc U z K V stay B e E c0 c1 I c3 c4 c5 c6 c7;go_enter func137,ntmps137;go_wp2_with fail;refine Zy J ?_;intro w1 d;have ab:=O (ST.o _ d);obtain⟨c0,c1,I,c3,c4,c5,c6,c7⟩:=Ja (d.blk HC.o (fun h=>h));rw[HS.o]at I;clear d;go_wp2;refine bodyPost_ret (results_none rfl _ _ _) rfl ⟨rfl,ab.o⟩
  |true=>
   obtain⟨k1,k2,k3,k4⟩:=k.fam (f:=fun f=>f.wake i) (Nat.le_succ N) hc hi U ((k.ok q (Qe.aE U).1).fam.wake i);have e:p.up1 now i=(p.fam i fun f=>f.wake i).set {c with limit:=c.limit.wake now c.total}:=by unfold Qe.up1;rw[hc];simp[E,z]
   rw[e];have e2:=Py (f:=fun f=>f.wake i) hc U;obtain⟨G,hF,ao,aa⟩:=h.famAt U;have u:=k.ok q (Qe.aE U).1;have ah:=O (fun w'(d:Qc Qb w w')=>Qmw (J0.obj.aB hF d (Jl.none G)) (fun x hx=>⟨(u.mem x hx).1,by have:=(u.mem x hx).2.1;omega,(u.mem x hx).2.2⟩) u.mark i);have aj:Hi (∀w1 w2,Qc Qb w w1→J0 w2 (Qn G w1 w2) (A.pf c.par) (q.mem.wake i)→Qc G w1 w2→Qo A w2 (Qn F w w2) b (p.fam i fun f=>f.wake i)∧Qc F w w2):=O (fun w1 w2 d hf I=>by rw[e2];exact aa w1 w2 _ d hf I);have R:=k.ok c (Qe.aE hc).1;have ai:Hi (∀w2,Qo A w2 (Qn F w w2) b (p.fam i fun f=>f.wake i)→Qc F w w2→Cl 139 #[A.vl i,.int .u64 now,.int .u64 c.total] w2.drew fun e w'=>e=.returned (.tuple #[])∧Qo A w' (Qn F w w') b ((p.fam i fun f=>f.wake i).set {c with limit:=c.limit.wake now c.total})∧Qc F w w'):=O (by
    intro w2 h2 ak;obtain⟨G2,hl,ar,ac⟩:=h2.drew.limAt k3;refine Zz (Qhs hl (fun r hr=>by have:=R.lim r hr;omega) now c.total ae (by have:=R.total;have:=Yz;omega)) ?_;rintro w3⟨h3,al⟩;obtain⟨m1,m2⟩:=ac _ w3 _ (Zg Qb _) h3 al;exact⟨rfl,(Qo.obj A).two (w1:=w2) m1 am ak m2.undrew⟩)
   have HL:=O (fun w'(d:Qc Qb w w')=>((Qo.obj A).aB h d (Jl.none F)).look1 c.par);rw[Xz U]at HL;have HC:=O (h.cell hc);have HQ:=O (h.cell U);have HB:=O h.blk;have ag:=O K;have af:=O V;have HS:=O E;have K3:=O k3;unfold ptr at*;clear h k hc U z K V stay B e E c0 c1 I c3 c4 c5 c6 c7 k1 k2 k3 k4 e2 hF ao aa u R;go_enter func137,ntmps137;go_wp2_with fail;refine Zy J ?_;intro w1 d;have C1:=O d;obtain⟨_,_,I,_,_,_,_,_⟩:=Ja (d.blk HC.o (fun h=>h));rw[HS.o]at I;have Z:=d.drew;obtain⟨d0,_,_,_,_,_,_,_⟩:=Ja (Z.blk HC.o (fun h=>h));obtain⟨_,_,_,_,_,q5,_,_⟩:=Ja (Z.blk HQ.o (fun h=>h));have hL:=HL.o _ Z;have e0:=Jf (Z.blk HB.o (fun h=>h));have e1:=Jf (Z.blk ag.o (fun h=>h));unfold ptr at*;clear d a0;go_wp2_with fail;refine Qj [(0,0),(0,1),(0,2),(0,3),(0,4),(0,5),(0,6),(0,7),(0,8),(0,9),(0,10),(0,11),(0,12),(2,13)] Zq (by kernel_rfl) (fun _ _ _ _ _ h=>h) ?_;simp only[Jk,Zf,Ze,Zd];iterate 13 (refine Jq (by kernel_rfl) (by go_simp;try rfl) ?_)
   clear d0 q5 hL e0 e1 I;refine J7 ?_;go_wp2_with fail;refine Zz (ah.o _ Z) ?_;rintro w2⟨h2,I⟩;obtain⟨m1,m2⟩:=aj.o _ _ Z h2 I;have M:=O (Zt m1 m2);have ap:=O (ai.o w2 m1 m2);obtain⟨_,_,_,d3,d4,_,_,_⟩:=Ja (m1.drew.cell K3.o);have e2:=Jf (m2.blk af.o an).drew;clear h2 I m1 m2 Z;go_wp2_with fail;refine Jo ?_;go_wp2_with fail;refine Qj [(0,0),(0,1),(0,2),(0,3),(0,4),(0,5),(0,6),(0,7),(0,8),(2,9)] Zq (by kernel_rfl) (fun _ _ _ _ _ h=>h) ?_;simp only[Jk,Zf,Ze,Zd];iterate 9 (refine Jq (by kernel_rfl) (by go_simp;try rfl) ?_)
   clear d3 d4 e2;refine J7 ?_;go_wp2_with fail;refine Zz ap.o ?_;intro w3 h3;have H3:=O h3;clear h3;go_wp2_with fail;refine Jo ?_;go_wp2;refine bodyPost_end (results_none rfl _ _ _) rfl ⟨rfl,H3.o⟩
theorem Qa5(h:Qo A w F b p)(k:Qs dep N p)(I:N<549755813888){i:Int}{c q:Qx}(hi:0<i)(hc:p.at i=some c)(z:p.at c.par=some q){u:Nat}{v:Value}(d:Qh w u #[ptr b] 77):
  Cl 140 #[.int .i64 i,v,.pointer (some ⟨u,0,none⟩)] w fun e w'=>e=.returned (.tuple #[])∧Qo A w' (Qn F w w') b (p.note i)∧Qc F w w':=by
 have E:=O (Mj h k I hi hc z);have J:=Jf d;unfold ptr at*;clear h k hc z d;go_enter func140,ntmps140;go_wp2_with fail;refine Zy E ?_;intro w1 h1;have B:=O h1;clear h1;go_wp2;refine bodyPost_end (results_none rfl _ _ _) rfl ⟨rfl,B.o⟩
theorem Qnj(d:Qs dep N p):∀(n:Nat)(i:Int),0≤i→dep i<n→(i=0∨∃c,p.at i=some c)→Vy p (p.path n i)∧Eu (p.path n i)=i∧(p.path n i).length≤dep i
 |0,i,_,h,_=>by omega
 |n+1,i,h0,h,hi=>by
  rw[Qe.path];by_cases h1:i<1
  ·have:i=0:=by omega
   subst this;rw[if_pos h1];exact⟨trivial,rfl,Nat.zero_le _⟩
  ·rw[if_neg h1];rcases hi with rfl|⟨c,hc⟩;·omega
   ·rw[hc];dsimp only;obtain⟨E,z⟩:=Qe.aE hc;have u:=d.up.2 c E (by omega);rw[z]at u;obtain⟨I,⟨q,B⟩,J,_⟩:=u;have k:=d.pos B;obtain⟨k1,k2,K⟩:=Qnj d n c.par k (by omega) (.inr ⟨q,B⟩);exact⟨⟨by omega,⟨c,hc,k2.symm⟩,k1⟩,rfl,by simp only[Zm];omega⟩
end
end
end Go.Proofs.YtnnhmpehkbihnaaGreat
