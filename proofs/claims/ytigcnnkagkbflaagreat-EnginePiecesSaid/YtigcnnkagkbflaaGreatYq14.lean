/- A part of the proof: no condition. -/
import Derived.Test.YtigcnnkagkbflaaGreatYq13
namespace Go.Proofs.YtigcnnkagkbflaaGreat
set_option linter.unusedVariables false
set_option maxRecDepth 100000
set_option maxHeartbeats 4000000
open Go.RowKit
open Go.Proofs.Tryz
attribute [local go_sem] Qp
def Pn(c:Qx)(d:Value)(pf pt:Nat):Array Value:=#[ZI c.par,.bool c.leaf,.bool c.aJ,ZU c.total,d,ptr pf,ptr pt,ZI c.aM]
def Do(v:Value)(l:Kg):Ya:=λw F=>(v=.pointer none/\l=none/\Bd F w)\/∃b,v=ptr b/\Ho w F b l
theorem Do.good(v:Value)(l:Kg):Uy (Do v l) where
 bd:=λh=>by
  rcases h with⟨_,_,h⟩|⟨b,_,h⟩;·exact h
  .exact Ho.obj.bd h
 aB:=λh q u=>by
  rcases h with⟨c,d,h⟩|⟨b,c,h⟩;·exact .inl ⟨c,d,h.later q⟩
  .exact .inr ⟨b,c,Ho.obj.aB h q u⟩
 more:=λh z k=>by
  rcases h with⟨c,d,h⟩|⟨b,c,h⟩;·exact .inl ⟨c,d,k⟩
  .exact .inr ⟨b,c,Ho.obj.more h z k⟩
structure Dz where
 m:Nat
 ad:Int->Nat
 vl:Int->Value
 pf:Int->Nat
 pt:Int->Nat
def Sy(A:Dz)(c:Qx):List Ya:=
 [Tv (A.ad c.id) (Pn c (A.vl c.id) (A.pf c.id) (A.pt c.id)) 147,Do (A.vl c.id) c.limit,λw F=>J0 w F (A.pf c.id) c.mem,λw F=>Jg w F (A.pt c.id) c.tree]
theorem L9(A:Dz)(c:Qx):∀P∈Sy A c,Uy P:=by
 intro P d;simp only[Sy,Zu,List.not_mem_nil,or_false]at d;rcases d with rfl|rfl|rfl|rfl;·exact Ks _ _ _
 .exact Do.good _ _
 .exact J0.obj.good _ _
 .exact Jg.obj.good _ _
def Um(A:Dz)(w:World)(F:Fp)(b:Nat)(c:Qx):Prop:=b=A.ad c.id/\Oh (Sy A c) w F
theorem Um.obj(A:Dz):Hf (Um A) where
 bd:=λh=>(Je (L9 A _)).bd h.2
 own:=λh=>by obtain⟨G,c,d⟩:=J6 (L9 A _) 0 rfl h.2;rw[h.1];exact d _ c.2.1
 aB:=λh q u=>⟨h.1,(Je (L9 A _)).aB h.2 q u⟩
 more:=λh z k=>⟨h.1,(Je (L9 A _)).more h.2 z k⟩
def Qsa(A:Dz)(b:Nat)(l:List Qx):List Ya:=[Tv b #[.map (some A.m)] 165,λw G=>Yn Qx.id (Um A) w G A.m A.ad l]
theorem Vh(A:Dz)(b:Nat)(l:List Qx):∀P∈Qsa A b l,Uy P:=by
 intro P c;simp only[Qsa,Zu,List.not_mem_nil,or_false]at c;rcases c with rfl|rfl;·exact Ks _ _ _
 .exact Sm (Um.obj A) _ _ _
def Qo(A:Dz)(w:World)(F:Fp)(b:Nat)(p:Qe):Prop:=∃l:List Qx,l.Perm p/\Oh (Qsa A b l) w F
theorem Qo.obj(A:Dz):Hf (Qo A) where
 bd:=λ⟨l,_,h⟩=>(Je (Vh A _ l)).bd h
 own:=λ⟨l,_,h⟩=>by obtain⟨G,d,k⟩:=J6 (Vh A _ l) 0 rfl h;exact k _ d.2.1
 aB:=λ⟨l,c,h⟩u z=>⟨l,c,(Je (Vh A _ l)).aB h u z⟩
 more:=λ⟨l,c,h⟩B q=>⟨l,c,(Je (Vh A _ l)).more h B q⟩
section
variable{A:Dz}{w:World}{F:Fp}{b:Nat}{p:Qe}
theorem Qo.coll(h:Qo A w F b p):∃l:List Qx,l.Perm p/\Qh w b #[.map (some A.m)] 165/\∃G,Yn Qx.id (Um A) w G A.m A.ad l:=by obtain⟨l,q,h⟩:=h;obtain⟨u,d,_⟩:=J6 (Vh A b l) 0 rfl h;obtain⟨c,k,_⟩:=J6 (Vh A b l) 1 rfl h;exact⟨l,q,d.1,c,k⟩
theorem Qo.nodup(h:Qo A w F b p):(p.map Qx.id).Nodup:=by obtain⟨l,d,_,G,c⟩:=h.coll;exact((d.map _).nodup_iff).1 c.nodup
theorem Qo.blk(h:Qo A w F b p):Qh w b #[.map (some A.m)] 165:=by obtain⟨l,d,c,_⟩:=h.coll;exact c
theorem Qe.at_eq{l:List Qx}(d:l.Perm p)(c:(l.map Qx.id).Nodup)(i:Int):p.at i=Hn Qx.id i l:=(Mz d c i).symm
theorem Qe.aE{i:Int}{c:Qx}(h:p.at i=some c):c∈p/\c.id=i:=Y3 (key:=Qx.id) h
theorem Qe.at_of{c:Qx}(d:(p.map Qx.id).Nodup)(h:c∈p):p.at c.id=some c:=Ls d h rfl
def pkV(A:Dz)(p:Qe)(i:Int):Value:=match p.at i with
 |none=>.pointer none
 |some _=>ptr (A.ad i)
theorem Qjs(w):(zeroValue 141).run prog w=.ok (.pointer none) w:=by go_simp
theorem Qo.look1(h:Qo A w F b p)(i:Int):(Instr.lookup 163 (.map (some A.m)) (ZI i) false).run prog w=.ok (pkV A p i) w:=by
 obtain⟨l,k,u,G,c⟩:=h.coll;have d:=Du (P:=prog) c.map underlying163 underlying3 (Qjs w) i;rw[c.look i,<-Qe.at_eq k c.nodup]at d;have q:((p.at i).map λ_=>ptr (A.ad i)).getD (.pointer none)=pkV A p i:=by unfold pkV;cases p.at i<;>rfl
 rw[q]at d;exact d
theorem Qo.part(h:Qo A w F b p){c:Qx}(hc:c∈p)(i:Nat){R:Ya}(hi:(Sy A c)[i]? =some R):
  ∃G:Fp,R w G/\(∀k,G k->F k)/\∀w' c' Q,c'.id=c.id->Sy A c'=(Sy A c).set i Q->Q w' (Qn G w w')->Qc G w w'->Qo A w' (Qn F w w') b (p.set c')/\Qc F w w':=by
 obtain⟨l,U,h⟩:=h;obtain⟨H,h1,J,_,h3⟩:=Xv 1 (Vh A b l) rfl h;have u:c∈l:=U.mem_iff.2 hc;obtain⟨K,k1,V,k3⟩:=h1.focus (Um.obj A) u;obtain⟨G,g1,I,_,g3⟩:=Xv i (L9 A c) hi k1.2;refine⟨G,g1,λk z=>J k (V k (I k z)).1,λw' c' Q q hs hq d=>?_⟩;have Z:Um A w' (Qn K w w') (A.ad c.id) c':=⟨by rw[q],by rw[hs];exact g3 w' Q d hq⟩;have E:Qc K w w':=d.sub I;have e2:=k3 w' c' q Z E;have B:Qc H w w':=E.sub λk z=>(V k z).1;have e3:=h3 w' (λw G=>Yn Qx.id (Um A) w G A.m A.ad (Lg Qx.id c' l)) B e2;exact⟨⟨Lg Qx.id c' l,U.map _,e3⟩,B.sub J⟩
theorem Qo.cells(h:Qo A w F b p){c:Qx}(k:c∈p):Qh w (A.ad c.id) (Pn c (A.vl c.id) (A.pf c.id) (A.pt c.id)) 147:=by obtain⟨G,d,_⟩:=h.part k 0 rfl;exact d.1
theorem Qo.setC(h:Qo A w F b p){c c':Qx}(I:c∈p)(d:c'.id=c.id)(K:c'.limit=c.limit)(R:c'.mem=c.mem)(U:c'.tree=c.tree){w'}
  (u:Qc (λk=>k=A.ad c.id) w w')(E:Qh w' (A.ad c.id) (Pn c' (A.vl c.id) (A.pf c.id) (A.pt c.id)) 147):Qo A w' (Qn F w w') b (p.set c')/\Qc F w w':=by
 obtain⟨G,q,V,B⟩:=h.part I 0 rfl;have z:Qc G w w':=u.sub λk J=>J▸q.2.1;refine B w' c' (Tv (A.ad c'.id) (Pn c' (A.vl c'.id) (A.pf c'.id) (A.pt c'.id)) 147) d ?_ ?_ z;·unfold Sy;rw[K,R,U,d];rfl
 .rw[d];exact⟨E,.inl q.2.1,q.2.2.ext z⟩
theorem Qo.famOf(h:Qo A w F b p){c:Qx}(B:c∈p):
  ∃G:Fp,J0 w G (A.pf c.id) c.mem/\(∀k,G k->F k)/\∀w' f,J0 w' (Qn G w w') (A.pf c.id) f->Qc G w w'->Qo A w' (Qn F w w') b (p.set {c with mem:=f})/\Qc F w w':=by
 obtain⟨G,q,u,z⟩:=h.part B 2 rfl;exact⟨G,q,u,λw' f E d=>z w' {c with mem:=f} _ rfl rfl E d⟩
theorem Qo.treeOf(h:Qo A w F b p){c:Qx}(B:c∈p):
  ∃G:Fp,Jg w G (A.pt c.id) c.tree/\(∀k,G k->F k)/\∀w' t,Jg w' (Qn G w w') (A.pt c.id) t->Qc G w w'->Qo A w' (Qn F w w') b (p.set {c with tree:=t})/\Qc F w w':=by
 obtain⟨G,q,u,z⟩:=h.part B 3 rfl;exact⟨G,q,u,λw' t E d=>z w' {c with tree:=t} _ rfl rfl E d⟩
theorem Qo.limOf(h:Qo A w F b p){c:Qx}(B:c∈p):
  ∃G:Fp,Do (A.vl c.id) c.limit w G/\(∀k,G k->F k)/\∀w' t,Do (A.vl c.id) t w' (Qn G w w')->Qc G w w'->Qo A w' (Qn F w w') b (p.set {c with limit:=t})/\Qc F w w':=by
 obtain⟨G,q,u,z⟩:=h.part B 1 rfl;exact⟨G,q,u,λw' t E d=>z w' {c with limit:=t} _ rfl rfl E d⟩
end
end Go.Proofs.YtigcnnkagkbflaaGreat
