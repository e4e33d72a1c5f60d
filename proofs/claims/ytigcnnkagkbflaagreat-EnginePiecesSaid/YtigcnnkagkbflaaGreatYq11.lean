/- A part of the proof: no condition. -/
import Derived.Test.YtigcnnkagkbflaaGreatYq04
namespace Go.Proofs.YtigcnnkagkbflaaGreat
set_option linter.unusedVariables false
set_option maxRecDepth 100000
set_option maxHeartbeats 4000000
open Go.RowKit
open Go.Proofs.Tryz
inductive PT where
 |nil
 |look(k:Nat)(r:PT)
 |lookp(k:Nat)(r:PT)
 |walk(k:Nat)(r:PT)
 |fork(i:Nat)(x:PT)(j:Nat)(y:PT)
inductive PO where
 |nil
 |look(o:Oper)(r:PO)
 |lookp(o:Oper)(r:PO)
 |walk(o:Oper)(r:PO)
 |fork(o:Oper)(x:PO)(p:Oper)(y:PO)
section
variable{P:Program}{ops:Array Oper}{Q:Exit->Act->World->Prop}{D:World->Prop}
def O0(ops:Array Oper):PT->PO
 | .nil=>.nil
 | .look k r=>match ops[k]? with|some o=>.look o (O0 ops r)|none=>.nil
 | .lookp k r=>match ops[k]? with|some o=>.lookp o (O0 ops r)|none=>.nil
 | .walk k r=>match ops[k]? with|some o=>.walk o (O0 ops r)|none=>.nil
 | .fork i x j y=>match ops[i]? with|some o=>(match ops[j]? with|some p=>.fork o (O0 ops x) p (O0 ops y)|none=>.nil)|none=>.nil
def Qdg:PT->List Nat
 | .nil=>[]
 | .look _ r=>Qdg r
 | .lookp _ r=>Qdg r
 | .walk k r=>k::Qdg r
 | .fork i x j y=>i::j::(Qdg x++Qdg y)
def Xo(P:Program)(ops:Array Oper)(Q:Exit->Act->World->Prop)(D:World->Prop):PO->Act->World->Prop
 | .nil,a,w=>Q .normal a w
 | .look o r,a,w=>if Region.wanted o (yielded ops a.tmps)then∃v,(execOp a.eval o).run P w=.ok (.value v) w/\Xo P ops Q D r (a.put o.dst v) w else Xo P ops Q D r (a.put o.dst undef) w
 | .lookp o r,a,w=>if Region.wanted o (yielded ops a.tmps)then∃v,(∀w',D w'->(execOp a.eval o).run P w'=.ok (.value v) w')/\Xo P ops Q D r (a.put o.dst v) w else Xo P ops Q D r (a.put o.dst undef) w
 | .walk o r,a,w=>wpList P ops (Exit.then (λc w'=>D w'/\Xo P ops Q D r c w') Q) [o] a w
 | .fork o x p y,a,w=>wpList P ops (Exit.then (λc w'=>D w'/\Xo P ops Q D x c w') Q) [o] a w/\wpList P ops (Exit.then (λc w'=>D w'/\Xo P ops Q D y c w') Q) [p] a w
def xfB(ops:Array Oper)(c:List Nat):PT->Nat->Array Bool->Bool
 | .nil,0,listed=>(Region.ready .any ops listed).isEmpty
 | .look k r,n+1,listed=>Qdn ops c k listed&&(c.all λj=>listed.getD j true||Xs ops ops.size j k)&&xfB ops c r n (listed.setIfInBounds k true)
 | .lookp k r,n+1,listed=>Qdn ops c k listed&&xfB ops c r n (listed.setIfInBounds k true)
 | .walk k r,n+1,listed=>decide (Region.ready .any ops listed=[k])&&c.contains k&&xfB ops c r n (listed.setIfInBounds k true)
 | .fork i x j y,n+1,listed=>decide (Region.ready .any ops listed=[i,j])&&c.contains i&&c.contains j&&xfB ops c x n (listed.setIfInBounds i true)&&xfB ops c y n (listed.setIfInBounds j true)
 |_,_,_=>false
theorem Fk{B:List Nat}(u:Region.noSelect ops=true)(Z:∀c(a:Act)(d:Tmp)v w,Q (.panic c) (a.put (some d) v) w->Q (.panic c) a w):
  ∀(r:PT)(n:Nat)(q:Array Bool)(a:Act)(w),Xj ops q->D w->xfB ops B r n q=true->Xo P ops Q D (O0 ops r) a w->
   Fi P ops Q D (λj=>B.contains j) (λ_=>false) n q a w
 | .nil,0,q,a,w,hcl,hC,hB,h=>⟨by simpa[xfB]using hB,h⟩
 | .look k r,n+1,q,a,w,hcl,hC,hB,h=>by
  simp only[xfB,Zw]at hB;obtain⟨⟨aa,aj⟩,J⟩:=hB;obtain⟨z,hf,U,o,d,E,hd⟩:=E7 aa;simp only[O0,E]at h;simp only[Xo]at h;have hy:∃v,YieldsIf P ops (λw'=>w'=w) o v a/\Xo P ops Q D (O0 ops r) (a.put o.dst v) w:=by
   by_cases V:Region.wanted o (yielded ops a.tmps)=true;·simp only[V,if_true]at h;obtain⟨v,I,R⟩:=h;exact⟨v,.inl ⟨V,λw' e=>by rw[e];exact I⟩,R⟩
   .simp only[V]at h;exact⟨undef,.inr ⟨by simpa using V,rfl⟩,h⟩
  obtain⟨v,hy,hK⟩:=hy;exact Gm (F:=ops.size) E U (Region.noSelect_spec u) (λc K w' hq=>by rw[hd]at hq;exact Z c K d _ w' hq) _ q a w hcl
   (.inr λj oj hj U hu=>by
    have:=List.all_eq_true.1 aj j (by simpa using U);rw[hu]at this;simpa using this) (Region.free_spec E hf) z hy rfl
   (Fk u Z r n _ _ w (hcl.set z) hC J hK)
 | .lookp k r,n+1,q,a,w,hcl,hC,hB,h=>by
  simp only[xfB,Zw]at hB;obtain⟨aa,J⟩:=hB;obtain⟨z,hf,U,o,d,E,hd⟩:=E7 aa;simp only[O0,E]at h;simp only[Xo]at h;have hy:∃v,YieldsIf P ops D o v a/\Xo P ops Q D (O0 ops r) (a.put o.dst v) w:=by
   by_cases V:Region.wanted o (yielded ops a.tmps)=true;·simp only[V,if_true]at h;obtain⟨v,I,R⟩:=h;exact⟨v,.inl ⟨V,I⟩,R⟩
   .simp only[V]at h;exact⟨undef,.inr ⟨by simpa using V,rfl⟩,h⟩
  obtain⟨v,hy,hK⟩:=hy;exact Gm (F:=ops.size) E U (Region.noSelect_spec u) (λc K w' hq=>by rw[hd]at hq;exact Z c K d _ w' hq) _ q a w hcl
   (.inl ⟨λ_ h=>h,λj oj hj U hu=>by cases U⟩) (Region.free_spec E hf) z hy hC
   (Fk u Z r n _ _ w (hcl.set z) hC J hK)
 | .walk k r,n+1,q,a,w,hcl,hC,hB,h=>by
  simp only[xfB,Zw,decide_eq_true_eq]at hB;obtain⟨⟨I,U⟩,J⟩:=hB;have z:k∈Region.ready .any ops q:=by rw[I];simp
  obtain⟨_,o,E,_⟩:=mem_ready.1 z;simp only[O0,E]at h;simp only[Xo]at h;refine⟨λR=>(by rw[I]at R;cases R),λi hi=>?_⟩;rw[I]at hi;have ag:i=k:=by simpa using hi
  subst ag;refine wpOp_mono (λK w' h'=>⟨⟨λh=>absurd (show B.contains i=false from h) (by rw[U];decide),λ_ _=>h'.1⟩,?_⟩) (Ko E h);exact Fk u Z r n _ K w' (hcl.set z) h'.1 J h'.2
 | .fork i x j y,n+1,q,a,w,hcl,hC,hB,h=>by
  simp only[xfB,Zw,decide_eq_true_eq]at hB;obtain⟨⟨⟨⟨I,ah⟩,ai⟩,ae⟩,af⟩:=hB;have ab:i∈Region.ready .any ops q:=by rw[I];simp
  have ac:j∈Region.ready .any ops q:=by rw[I];simp
  obtain⟨_,o,E,_⟩:=mem_ready.1 ab;obtain⟨_,p,p0,_⟩:=mem_ready.1 ac;simp only[O0,E,p0]at h;simp only[Xo]at h;refine⟨λR=>(by rw[I]at R;cases R),λk hk=>?_⟩;rw[I]at hk;rcases(show k=i\/k=j by simpa using hk)with rfl|rfl;·refine wpOp_mono (λK w' h'=>⟨⟨λh=>absurd (show B.contains k=false from h) (by rw[ah];decide),λ_ _=>h'.1⟩,?_⟩) (Ko E h.1);exact Fk u Z x n _ K w' (hcl.set ab) h'.1 ae h'.2
  .refine wpOp_mono (λK w' h'=>⟨⟨λh=>absurd (show B.contains k=false from h) (by rw[ai];decide),λ_ _=>h'.1⟩,?_⟩) (Ko p0 h.2);exact Fk u Z y n _ K w' (hcl.set ac) h'.1 af h'.2
 | .nil,n+1,q,a,w,hcl,hC,hB,h=>by simp[xfB]at hB
 | .look _ _,0,q,a,w,hcl,hC,hB,h=>by simp[xfB]at hB
 | .lookp _ _,0,q,a,w,hcl,hC,hB,h=>by simp[xfB]at hB
 | .walk _ _,0,q,a,w,hcl,hC,hB,h=>by simp[xfB]at hB
 | .fork _ _ _ _,0,q,a,w,hcl,hC,hB,h=>by simp[xfB]at hB
theorem Ui{id:Nat}{a:Act}{w}{l:List Oper}(k:PT)(D:World->Prop)(J:P.follows .mixedOrders=true)
  (u:(Region.noSelect l.toArray&&xfB l.toArray (Qdg k) k l.toArray.size (Array.replicate l.toArray.size false))=true)
  (I:∀c(a:Act)(d:Tmp)v w,Q (.panic c) (a.put (some d) v) w->Q (.panic c) a w) (E:D w.drew) (h:Xo P l.toArray Q D (O0 l.toArray k) a w.drew):
  (Code.region id l.toArray true).wp P Q a w:=by
 simp only[Zw]at u;obtain⟨q,u⟩:=u;refine wp_region_any J ?_;have z:Xj l.toArray (Array.replicate l.toArray.size false):=λj K _ B=>by rw[getD_replicate_false]at B;cases B
 exact Mu _ _ _ _ (Fk (P:=P) (D:=D) q I k _ _ a _ z E u h)
variable{r x y:PO}{a:Act}{o p:Oper}{w:World}
theorem U9(h:Q .normal a w):Xo P ops Q D .nil a w:=h
theorem Vd{v:Value}(d:Region.wanted o (yielded ops a.tmps)=true:=by kernel_rfl)(c:(execOp a.eval o).run P w=.ok (.value v) w:=by go_simp;try rfl)(h:Xo P ops Q D r (a.put o.dst v) w):Xo P ops Q D (.look o r) a w:=by simp only[Xo,d,if_true];exact⟨v,c,h⟩
theorem Xi{v:Value}(d:Region.wanted o (yielded ops a.tmps)=true:=by kernel_rfl)(c:∀w',D w'->(execOp a.eval o).run P w'=.ok (.value v) w':=by intros;go_simp;try rfl)(h:Xo P ops Q D r (a.put o.dst v) w):Xo P ops Q D (.lookp o r) a w:=by simp only[Xo,d,if_true];exact⟨v,c,h⟩
theorem Xt(h:wpList P ops (Exit.then (λc w'=>D w'/\Xo P ops Q D r c w') Q) [o] a w):Xo P ops Q D (.walk o r) a w:=h
theorem Gn(d:wpList P ops (Exit.then (λc w'=>D w'/\Xo P ops Q D x c w') Q) [o] a w)(k:wpList P ops (Exit.then (λc w'=>D w'/\Xo P ops Q D y c w') Q) [p] a w):Xo P ops Q D (.fork o x p y) a w:=⟨d,k⟩
theorem YL{P:Program}{ops:Array Oper}{Q:Exit->Act->World->Prop}{D F:World->Prop}{o:Oper}{r:PO}{a:Act}{w:World}{v:Value}{K:Prop}(f:∀w',D w'->F w')(k:K)(c:∀w',F w'->(execOp a.eval o).run P w'=.ok (.value v) w':=by intros;go_simp;try rfl)(d:Region.wanted o (yielded ops a.tmps)=true:=by as_aux_lemma=>kernel_rfl)(h:K->Xo P ops Q D r (a.put o.dst v) w:=by intro k;(try simp only[Act.put,Za,Zc,Zb]);exact k):Xo P ops Q D (.lookp o r) a w:=Xi d (λw' k=>c w' (f w' k)) (h k)
end
end Go.Proofs.YtigcnnkagkbflaaGreat
