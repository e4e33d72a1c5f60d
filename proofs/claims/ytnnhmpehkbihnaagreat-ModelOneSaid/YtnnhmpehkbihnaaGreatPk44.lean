/- A part of the proof: no condition. -/
import Derived.Test.YtnnhmpehkbihnaaGreatPk01
import Derived.WalkSpells
import Derived.WalkLawsBesides
import Derived.Outline
import Derived.Laws.StructEq
namespace Go.Proofs.YtnnhmpehkbihnaaGreat
set_option linter.unusedVariables false
set_option maxRecDepth 100000
set_option maxHeartbeats 4000000
open Go.RowKit
open Go.Proofs.Tryz
section
structure Gl where
 c:Int
 r:Int
def Gl.cells(p:Gl):List Value:=[.int .i64 p.c,.int .u8 p.r]
def Gl.isB(c r:Int)(p:Gl):Bool:=p.c==c&&p.r==r
theorem Gl.of_fits{x:List Value}(h:O2 [some .i64,some .u8] x):∃p:Gl,x=p.cells∧True:=by obtain⟨a,y,rfl,_,h⟩:=h.int1;obtain⟨b,y,rfl,_,h⟩:=h.int1;have:=h.nil0;subst this;exact⟨⟨a,b⟩,rfl,trivial⟩
def G4(l:List Gl)(c r:Int):Bool:=l.any (Gl.isB c r)
theorem Qwy(l:List Gl)(c r:Int)(k:Nat)(h:k<l.length):G4 (l.take (k+1)) c r=(G4 (l.take k) c r||Gl.isB c r l[k]):=by unfold G4;rw[List.take_succ_eq_append_getElem h,List.any_append];simp
theorem Qw2{l:List Gl}{c r:Int}{k:Nat}(h:k<l.length)(h1:l[k].c=c)(d:l[k].r=r):G4 l c r=true:=
 List.any_eq_true.2 ⟨l[k],List.getElem_mem h,by simp[Gl.isB,h1,d]⟩
theorem Qwx{l:List Gl}{c r:Int}{k:Nat}(h:k<l.length)(hn:G4 (l.take k) c r=false)(h1:¬(l[k].c=c∧l[k].r=r)):G4 (l.take (k+1)) c r=false:=by
 rw[Qwy l c r k h,hn];simp only[Bool.false_or,Gl.isB,Bool.and_eq_false_iff,beq_eq_false_iff_ne];by_cases hc:l[k].c=c;·exact .inr fun hr=>h1 ⟨hc,hr⟩
 ·exact .inl hc
theorem Qg1:prog.eqGuardType prog.depth 62=false:=by kernel_rfl
theorem Qqh:prog.stoodInHeld 62=false:=by kernel_rfl
attribute [local go_sem] Qg1 Qqh
theorem Ql9(a b c d:Int)(w):(binOp .eql 62 (.agg #[.int .i64 a,.int .u8 b]) (.agg #[.int .i64 c,.int .u8 d])).run prog w=.ok (.bool (a==c&&b==d)) w:=by go_simp;by_cases h1:a=c<;>by_cases k:b=d<;>simp[h1,k]
attribute [local go_sem ↓] Ql9
theorem Qxg(l:List Gl)(c r:Int)(a:Option Addr)(cap:Nat)(w)(hl:l.length≤100)(hr:Kb Gl.cells 2 w a l):
  Cl 116 #[.slice a l.length cap,.agg #[.int .i64 c,.int .u8 r]] w
   fun e w'=>∃n:Int,e=.returned (.int .i64 n)∧(decide (0≤n)=G4 l c r)∧Below w.heap.size w w':=by
 have K:=O hr;clear hr;go_enter func116,ntmps116;go_wp2;go_loopw [8] (fun i wr=>∃k:Nat,k≤l.length∧i=.int .i64 k∧G4 (l.take k) c r=false∧Below w.heap.size w wr∧
   wr.cell? ⟨w.heap.size,0,none⟩=some (.int .i64 c)∧wr.cell? ⟨w.heap.size,1,none⟩=some (.int .u8 r)) (fun i _=>l.length-(intOf i).toNat)
 case atStart=>exact⟨0,by omega,rfl,rfl,(Below.refl _ _).alloc (Zv _) _,by go_simp,by go_simp⟩
 case round=>
  obtain⟨k,V,rfl,hn,d,R,U⟩:=hrel;have I:=O hn;clear hn;by_cases Xg:k<l.length
  ·obtain⟨g,o,rfl,B⟩:=K.o k Xg;have u:=B 0 _ rfl;have z:=B 1 _ rfl;simp only[Nat.add_zero]at u;have u:=(d.cell (Qeu u)).trans u;have z:=(d.cell (Qeu z)).trans z;have E:=O d;clear B d;have k0:(0:Int)≤(k:Int):=by omega
   have k1:(k:Int)<(l.length:Int):=by omega
   go_wp2;by_cases h1:l[k].c=c∧l[k].r=r
   ·have b1:(c==l[k].c&&r==l[k].r)=true:=by simp[h1.1,h1.2]
    have H:=O (Qw2 Xg h1.1 h1.2);clear h1;go_wp2;go_quiet (fail);go_wp2;go_ret;exact⟨(k:Int),rfl,by rw[H.o];simp,Qv7 E.o _⟩
   ·have b1:(c==l[k].c&&r==l[k].r)=false:=by rw[Bool.eq_false_iff];intro h;simp at h;exact h1 ⟨h.1.symm,h.2.symm⟩
    have H:=O (Qwx Xg I.o h1);clear h1;go_wp2;go_quiet (fail);go_wp2;go_roundw;case rel=>exact⟨k+1,by omega,by go_num,H.o,Qv7 E.o _,R,U⟩
    case measure=>simp[intOf];omega
  ·have q:k=l.length:=by omega
   have H:=I.o;rw[q,List.take_length]at H;have J:=O H;clear H q;go_wp2;go_ret;exact⟨-1,rfl,by rw[J.o];rfl,d⟩
theorem Qwn(l:List Gl)(c r:Int)(a:Option Addr)(cap:Nat)(w)(hl:l.length≤100)(hr:Kb Gl.cells 2 w a l):
  Cl 63 #[.slice a l.length cap,.agg #[.int .i64 c,.int .u8 r]] w
   fun e w'=>e=.returned (.bool (G4 l c r))∧Below w.heap.size w w':=by
 have u:=O (Qxg l c r a cap (w.alloc (.cells #[.int .i64 c,.int .u8 r] 62)) hl (hr.below ((Below.refl _ _).alloc (Zv _) _)));clear hr;go_enter func63,ntmps63;go_wp2_with fail;refine Zo u ?_;rintro e w1⟨n,rfl,hn,d⟩;have k:=O d;have q:=O hn;clear d hn;go_wp2;go_ret;exact⟨by rw[←q.o];rfl,((Below.refl _ _).alloc (Zv _) _).trans (k.o.mono (by simp))⟩
theorem Qw8(l:List Gl)(c r:Int)(a:Option Addr)(cap:Nat)(w)(hl:l.length≤100)(hr:Kb Gl.cells 2 w a l):
  Cl 24 #[.slice a l.length cap,.int .i64 c,.int .u8 r] w fun e w'=>e=.returned (.bool (G4 l c r))∧Below w.heap.size w w':=by
 have q:=O (Qwn l c r a cap w hl hr);clear hr;go_enter func24,ntmps24;go_wp2_with fail;refine Zy q ?_;intro w1 d;have k:=O d;clear d;go_wp2;go_ret;exact⟨rfl,k.o⟩
end
end Go.Proofs.YtnnhmpehkbihnaaGreat
