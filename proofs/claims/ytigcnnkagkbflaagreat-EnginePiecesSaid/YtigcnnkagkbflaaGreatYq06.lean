/- A part of the proof: no condition. -/
import Derived.Test.YtigcnnkagkbflaaGreatYq01
namespace Go.Proofs.YtigcnnkagkbflaaGreat
set_option linter.unusedVariables false
set_option maxRecDepth 100000
set_option maxHeartbeats 4000000
open Go.RowKit
open Go.Proofs.Tryz
abbrev Ya:=World->Fp->Prop
structure Uy(P:Ya):Prop where
 bd:∀{w F},P w F->Bd F w
 aB:∀{w w' F S},P w F->Qc S w w'->Jl F S->P w' F
 more:∀{w F F'},P w F->(∀k,F k->F' k)->Bd F' w->P w F'
def sep(P Q:Ya):Ya:=λw F=>Bd F w/\∃G H,P w G/\Q w H/\Jl G H/\(∀k,G k->F k)/\∀k,H k->F k
def Oh:List Ya->Ya
 |[]=>λw F=>Bd F w
 |P::L=>sep P (Oh L)
def Tv(b:Nat)(cs:Array Value)(t:TypeId):Ya:=λw F=>Qh w b cs t/\F b/\Bd F w
def Qo8(m:Nat)(L:List (Int×Value)):Ya:=λw F=>Xq w m L/\F m/\Bd F w
def Qvn(p:Prop):Ya:=λw F=>p/\Bd F w
theorem Ks(b:Nat)(cs:Array Value)(t:TypeId):Uy (Tv b cs t) where
 bd:=λh=>h.2.2
 aB:=λh c k=>⟨c.blk h.1 (k b h.2.1),h.2.1,h.2.2.later c⟩
 more:=λh q d=>⟨h.1,q b h.2.1,d⟩
theorem Qhd(m:Nat)(L:List (Int×Value)):Uy (Qo8 m L) where
 bd:=λh=>h.2.2
 aB:=λh c k=>⟨h.1.aB c (k m h.2.1),h.2.1,h.2.2.later c⟩
 more:=λh q d=>⟨h.1,q m h.2.1,d⟩
theorem Qop(p:Prop):Uy (Qvn p) where
 bd:=λh=>h.2
 aB:=λh d _=>⟨h.1,h.2.later d⟩
 more:=λh _ c=>⟨h.1,c⟩
theorem Qrl{P Q:Ya}(U:Uy P)(V:Uy Q):Uy (sep P Q) where
 bd:=λh=>h.1
 aB:=λ⟨J,G,H,q,u,z,c,d⟩E K=>⟨J.later E,G,H,U.aB q E (K.subL c),V.aB u E (K.subL d),z,c,d⟩
 more:=λ⟨J,G,H,q,u,z,c,d⟩R B=>⟨B,G,H,q,u,z,λk I=>R k (c k I),λk I=>R k (d k I)⟩
theorem Qrk:Uy (Oh []) where
 bd:=λh=>h
 aB:=λh d _=>Bd.later h d
 more:=λ_ _ c=>c
theorem Je:∀{L:List Ya},(∀P∈L,Uy P)->Uy (Oh L)
 |[],_=>Qrk
 |P::L,h=>Qrl (h P (by simp)) (Je λQ c=>h Q (by simp[c]))
theorem Qtk{X:Type}{P:X->Ya}(h:∀x,Uy (P x)):Uy (λw F=>∃x,P x w F) where
 bd:=λ⟨x,c⟩=>(h x).bd c
 aB:=λ⟨x,c⟩k q=>⟨x,(h x).aB c k q⟩
 more:=λ⟨x,c⟩u d=>⟨x,(h x).more c u d⟩
theorem Hf.good{X:Type}{Is:World->Fp->Nat->X->Prop}(c:Hf Is)(b:Nat)(x:X):Uy (λw F=>Is w F b x) where
 bd:=λh=>c.bd h
 aB:=λh k q=>c.aB h k q
 more:=λh u d=>c.more h u d
theorem Qwp{X:Type}{Is:World->Fp->Nat->X->Prop}(c:∀b x,Uy (λw F=>Is w F b x))(u:∀{w F b x},Is w F b x->F b):Hf Is where
 bd:=λ{w F b x}h=>(c b x).bd h
 own:=λh=>u h
 aB:=λ{w w' F S b x}h k q=>(c b x).aB h k q
 more:=λ{w F B b x}h z d=>(c b x).more h z d
section
variable{w w' w1 w2:World}{F:Fp}
def Qga(P:Ya)(W:Ya->Ya)(w:World)(F:Fp):Prop:=
 ∃G:Fp,P w G/\(∀k,G k->F k)/\Bd F w/\∀w' Q,Qc G w w'->Q w' (Qn G w w')->W Q w' (Qn F w w')
theorem Qsn{P Q:Ya}(K:Uy Q)(h:sep P Q w F):Qga P (λq=>sep q Q) w F:=by obtain⟨c,G,H,I,J,u,z,B⟩:=h;refine⟨G,I,z,c,λw' q E R=>⟨c.ext E,Qn G w w',H,R,K.aB J E u.symm,Jl.extL u (c.sub B),λk d=>Qn.mono z k d,λk d=>.inl (B k d)⟩⟩
theorem Qp7{P Q R:Ya}{W:Ya->Ya}(V:Uy P)(h:sep P Q w F)(Z:∀{H:Fp},Q w H->Qga R W w H):Qga R (λd=>sep P (W d)) w F:=by obtain⟨q,G,H,J,U,z,B,E⟩:=h;obtain⟨K,k1,I,k3,k4⟩:=Z U;refine⟨K,k1,λk c=>E k (I k c),q,λw' d u hp=>⟨q.ext u,G,Qn H w w',V.aB J u (z.subR I),k4 w' d u hp,Jl.extR z (q.sub B),λk c=>.inl (B k c),λk c=>Qn.mono E k c⟩⟩
theorem Xv:∀(i:Nat){L:List Ya}{P:Ya}{F:Fp},(∀Q∈L,Uy Q)->L[i]? =some P->Oh L w F->Qga P (λc=>Oh (L.set i c)) w F
 |0,Q::L,P,F,hg,hi,h=>by
  obtain rfl:Q=P:=by simpa using hi
  exact Qsn (Je λR d=>hg R (by simp[d])) h
 |i+1,Q::L,P,F,hg,hi,h=>Qp7 (W:=λc=>Oh (L.set i c)) (hg Q (by simp)) h λk=>Xv i (λR d=>hg R (by simp[d])) (by simpa using hi) k
theorem Qga.get{P:Ya}{W:Ya->Ya}(h:Qga P W w F):∃G:Fp,P w G/\∀k,G k->F k:=by obtain⟨G,c,d,_⟩:=h;exact⟨G,c,d⟩
theorem J6{L:List Ya}{P:Ya}(c:∀Q∈L,Uy Q)(i:Nat)(d:L[i]? =some P)(h:Oh L w F):∃G:Fp,P w G/\∀k,G k->F k:=(Xv i c d h).get
theorem Qga.cells{b:Nat}{cs cs':Array Value}{t:TypeId}{W:Ya->Ya}(h:Qga (Tv b cs t) W w F)(E:Qc (λk=>k=b) w w')(B:Qh w' b cs' t):W (Tv b cs' t) w' (Qn F w w')/\Qc F w w':=by obtain⟨G,⟨J,d,q⟩,u,K,z⟩:=h;have c:Qc G w w':=E.sub λk I=>I▸d;exact⟨z w' _ c ⟨B,.inl d,q.ext c⟩,c.sub u⟩
theorem Y6{P:Ya}(h:P w F)(d:Bd F w):Oh [P] w F:=⟨d,F,λ_=>False,h,λk c=>c.elim,λk _ c=>c,λk c=>c,λk c=>c.elim⟩
theorem Q7{P:Ya}{L:List Ya}{G H:Fp}(c:P w G)(d:Oh L w H)(B:Jl G H)(q:∀k,G k->F k)(u:∀k,H k->F k)(z:Bd F w):Oh (P::L) w F:=⟨z,G,H,c,d,B,q,u⟩
theorem Qr(k:Nat):Qn Qb w w1 k↔w.heap.size<=k/\k<w1.heap.size:=⟨λh=>h.elim (λh=>h.elim) id,.inr⟩
end
end Go.Proofs.YtigcnnkagkbflaaGreat
