/- A part of the proof: no condition. -/
import Derived.Test.YtnnhmpehkbihnaaGreatPk43
namespace Go.Proofs.YtnnhmpehkbihnaaGreat
set_option linter.unusedVariables false
set_option maxRecDepth 100000
set_option maxHeartbeats 4000000
open Go.RowKit
open Go.Proofs.Tryz
section
attribute [local go_sem] Qp
attribute [local irreducible] Kl J9 Xo
structure GSt(W w:World)(G:Fp)(b:Nat)(s:Qf):Prop where
 is:Qt w G b s
 lo:∀k,G k→W.heap.size≤k
 chg:Qc Qb W w
section
variable{W w w':World}{G:Fp}{b r:Nat}{s s':Qf}{cs:Array Value}{t:TypeId}
theorem GSt.step(h:GSt W w G b s)(h1:Qt w' (Qn G w w') b s')(d:Qc G w w'):GSt W w' (Qn G w w') b s':=
 ⟨h1,fun k c=>c.elim (h.lo k) (fun e=>Zp h.chg.size e.1),h.chg.trans d fun k c=>.inr (h.lo k c)⟩
theorem GSt.aB(h:GSt W w G b s)(c:Qc Qb w w'):GSt W w' G b s:=⟨Qt.obj.aB h.is c (Jl.none _),h.lo,h.chg.aA c⟩
def Af(w:World)(G:Fp)(r:Nat)(cs:Array Value)(t:TypeId):Prop:=Qh w r cs t∧¬G r
theorem Af.step(h:Af w G r cs t)(c:Qc G w w'):Af w' (Qn G w w') r cs t:=
 ⟨c.blk h.1 h.2,fun d=>d.elim h.2 (fun e=>by have:=h.1.lt;omega)⟩
theorem Af.aB(h:Af w G r cs t)(c:Qc Qb w w'):Af w' G r cs t:=⟨c.blk h.1 (fun h=>h),h.2⟩
end
theorem Gx{W w}{G:Fp}{b:Nat}{s:Qf}(h:GSt W w G b s)(o:Option ChM):
  ∃w',(storeCells ⟨w.heap.size,0,none⟩ (Bq o).toList 0).run prog (w.alloc (.cells #[.int .u64 0,.int .i64 0,.int .i64 0,.int .u64 0,.int .u8 0,.int .u64 0] 50))=.ok () w'∧GSt W w' G b s∧Af w' G w.heap.size (Bq o) 50∧Qc Qb w w':=by
 have q:(Bq o).size=6:=by cases o<;>rfl
 have c:∀v∈(Bq o).toList,v.oneCell'=true:=by cases o<;>exact Iy _ _ _
 obtain⟨w',s3,d,z⟩:=Q0 (P:=prog) (vs:=Bq o) (Qh.new w #[.int .u64 0,.int .i64 0,.int .i64 0,.int .u64 0,.int .u8 0,.int .u64 0] 50) q c;have u:Qc Qb w w':=((Zg Qb w).alloc _).trans z (fun k e=>.inr (by omega));refine⟨w',s3,h.aB u,⟨d,fun B=>?_⟩,u⟩;have:=Qt.obj.bd h.is _ B;omega
theorem Rd{w}{G:Fp}{b N:Nat}{s s':Qf}{o:Option ChM}(ok:Xp N s)(c:N<549755813000)(now:Nat)(d:(s.next now).1=o)(hs:(s.next now).2=s')(h:Qt w G b s):
  Cl 16 #[ptr b,.int .u64 now] w fun e w'=>e=.returned (.tuple #[.agg (Bq o),.bool o.isSome])∧Qt w' (Qn G w w') b s'∧Qc G w w':=by
 subst d hs;exact Pg h ok c now
end
end Go.Proofs.YtnnhmpehkbihnaaGreat
