/- A part of the proof: no condition. -/
import Derived.Test.YtnnhmpehkbihnaaGreatPk38
import Derived.Test.YtnnhmpehkbihnaaGreatPk39
namespace Go.Proofs.YtnnhmpehkbihnaaGreat
set_option linter.unusedVariables false
set_option maxRecDepth 100000
set_option maxHeartbeats 4000000
open Go.RowKit
open Go.Proofs.Tryz
section
attribute [local go_sem] Qp
attribute [local irreducible] Kl J9 Xo
section
variable{A:Tb}{w w1 w2:World}{F:Fp}{b a:Nat}{s:Qf}{N:Nat}{l:Qw}
theorem Yj.owe(h:Yj w F a l):∃qb dv,Qh w a #[ptr qb,dv] 85∧∀w1 w2 q o,Qc Qb w w1→Kv w1 (Qn Qb w w1) q o→Qh w2 a #[ptr qb,q] 85→Qc (fun k=>k=a) w1 w2→Yj w2 (Qn F w w2) a {l with debt:=o}∧Qc F w w2:=by
 obtain⟨qb,dv,h⟩:=h;obtain⟨z,G0,R0,I,⟨aa,B,R1,g1,_,d1,s2,s3⟩,d0,s0,s1⟩:=h;have V:¬B a:=fun c=>d0 a I.2.1 (s2 _ c);have R:∀k,B k→F k:=fun k c=>s1 _ (s2 _ c);have J:F a:=s0 _ I.2.1;have E:Bd B w:=z.sub R;refine⟨qb,dv,I.1,fun w1 w2 q o u hd U d=>?_⟩;have K:Qc F w w2:=(u.none (F:=F)).aA (d.sub fun k e=>e▸J);have ab:=u.size;have ac:=d.size;have Z:=z _ J;refine⟨⟨qb,q,?_⟩,K⟩;refine Q7 (G:=fun k=>k=a) (H:=fun k=>B k∨Qn Qb w w1 k) ⟨U,rfl,fun k e=>e▸U.lt⟩ ?_ ?_ (fun k e=>.inl (e▸J)) ?_ (z.ext K)
 ·refine Q7 (G:=B) (H:=Qn Qb w w1) ((Lm qb l.pk l.bt l.q).aB ((Lm qb l.pk l.bt l.q).aB g1 u (Jl.none _)) d (fun k c e=>V (e▸c))) (Y6 ((Kv.good q o).aB hd d (fun k c e=>by have:=(Qr k).1 c;omega)) (fun k c=>by have:=(Qr k).1 c;omega)) ?_ (fun k c=>.inl c) (fun k c=>.inr c) ?_;·intro k c he;have:=E k c;have:=(Qr k).1 he;omega
  ·exact fun k c=>c.elim (E.later u |>.later d k) (fun c=>by have:=(Qr k).1 c;omega)
 ·rintro k rfl(c|c);·exact V c
  ·have:=(Qr k).1 c;omega
 ·exact fun k c=>c.elim (fun c=>.inl (R k c)) (fun c=>.inr (by have:=(Qr k).1 c;omega))
theorem Qfr(hn:(s.aI.map Qw.id).Nodup){i:Int}{l:Qw}(hl:s.leaf i=some l)(o:Option Ju):
  s.setLeaf {l with debt:=o}={s with aI:=s.aI.map fun x=>if x.id=i then{x with debt:=o}else x}:=by
 have d:Hn Qw.id i s.aI=some l:=hl;obtain⟨q,hi⟩:=Y3 d;unfold Qf.setLeaf;congr 1;refine List.map_congr_left fun x k=>?_;dsimp only;rw[hi];by_cases c:x.id=i;·rw[if_pos c,if_pos c];rw[Zs ((Ls hn k c).symm.trans d),hi]
 ·rw[if_neg c,if_neg c]
theorem Qh7{i:Int}(hl:s.leaf i=none)(o:Option Ju):(s.aI.map fun x=>if x.id=i then{x with debt:=o}else x)=s.aI:=by
 unfold Qf.leaf at hl;rw[List.find?_eq_none]at hl
 conv=>rhs;rw[←List.map_id s.aI]
 refine List.map_congr_left fun x c=>?_;have:=hl x c;rw[if_neg (by simpa using this)];rfl
end
end
end Go.Proofs.YtnnhmpehkbihnaaGreat
