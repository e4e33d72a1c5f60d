/- A part of the proof: no condition. -/
import Derived.Test.YtnnhmpehkbihnaaGreatPk23
namespace Go.Proofs.YtnnhmpehkbihnaaGreat
set_option linter.unusedVariables false
set_option maxRecDepth 100000
set_option maxHeartbeats 4000000
open Go.RowKit
open Go.Proofs.Tryz
inductive PT where
 |nil
 |look(k:Nat)(r:PT)
 |lookp(k:Nat)(r:PT)
 |walk(k:Nat)(r:PT)
 |fork(i:Nat)(x:PT)(j:Nat)(y:PT)
inductive PO where
 |nil
 |look(o:Oper)(r:PO)
 |lookp(o:Oper)(r:PO)
 |walk(o:Oper)(r:PO)
 |fork(o:Oper)(x:PO)(p:Oper)(y:PO)
section
variable{P:Program}{ops:Array Oper}{Q:Exit→Act→World→Prop}{D:World→Prop}
def O0(ops:Array Oper):PT→PO
 | .nil=>.nil
 | .look k r=>match ops[k]? with|some o=>.look o (O0 ops r)|none=>.nil
 | .lookp k r=>match ops[k]? with|some o=>.lookp o (O0 ops r)|none=>.nil
 | .walk k r=>match ops[k]? with|some o=>.walk o (O0 ops r)|none=>.nil
 | .fork i x j y=>match ops[i]? with|some o=>(match ops[j]? with|some p=>.fork o (O0 ops x) p (O0 ops y)|none=>.nil)|none=>.nil
def Qdg:PT→List Nat
 | .nil=>[]
 | .look _ r=>Qdg r
 | .lookp _ r=>Qdg r
 | .walk k r=>k::Qdg r
 | .fork i x j y=>i::j::(Qdg x++Qdg y)
def Xo(P:Program)(ops:Array Oper)(Q:Exit→Act→World→Prop)(D:World→Prop):PO→Act→World→Prop
 | .nil,a,w=>Q .normal a w
 | .look o r,a,w=>if Region.wanted o (yielded ops a.tmps)then∃v,(execOp a.eval o).run P w=.ok (.value v) w∧Xo P ops Q D r (a.put o.dst v) w else Xo P ops Q D r (a.put o.dst undef) w
 | .lookp o r,a,w=>if Region.wanted o (yielded ops a.tmps)then∃v,(∀w',D w'→(execOp a.eval o).run P w'=.ok (.value v) w')∧Xo P ops Q D r (a.put o.dst v) w else Xo P ops Q D r (a.put o.dst undef) w
 | .walk o r,a,w=>wpList P ops (Exit.then (fun c w'=>D w'∧Xo P ops Q D r c w') Q) [o] a w
 | .fork o x p y,a,w=>wpList P ops (Exit.then (fun c w'=>D w'∧Xo P ops Q D x c w') Q) [o] a w∧wpList P ops (Exit.then (fun c w'=>D w'∧Xo P ops Q D y c w') Q) [p] a w
def xfB(ops:Array Oper)(late:List Nat):PT→Nat→Array Bool→Bool
 | .nil,0,listed=>(Region.ready .any ops listed).isEmpty
 | .look k r,n+1,listed=>Qdn ops late k listed&&(late.all fun j=>listed.getD j true||Xs ops ops.size j k)&&xfB ops late r n (listed.setIfInBounds k true)
 | .lookp k r,n+1,listed=>Qdn ops late k listed&&xfB ops late r n (listed.setIfInBounds k true)
 | .walk k r,n+1,listed=>decide (Region.ready .any ops listed=[k])&&late.contains k&&xfB ops late r n (listed.setIfInBounds k true)
 | .fork i x j y,n+1,listed=>decide (Region.ready .any ops listed=[i,j])&&late.contains i&&late.contains j&&xfB ops late x n (listed.setIfInBounds i true)&&xfB ops late y n (listed.setIfInBounds j true)
 |_,_,_=>false
theorem Fk{late:List Nat}(u:Region.noSelect ops=true)(K:∀c(a:Act)(d:Tmp)v w,Q (.panic c) (a.put (some d) v) w→Q (.panic c) a w):
  ∀(r:PT)(n:Nat)(q:Array Bool)(a:Act)(w),Xj ops q→D w→xfB ops late r n q=true→Xo P ops Q D (O0 ops r) a w→
   Fi P ops Q D (fun j=>late.contains j) (fun _=>false) n q a w
 | .nil,0,q,a,w,hcl,hC,hB,h=>⟨by simpa[xfB]using hB,h⟩
 | .look k r,n+1,q,a,w,hcl,hC,hB,h=>by
  simp only[xfB,Zw]at hB;obtain⟨⟨R,ah⟩,B⟩:=hB;obtain⟨z,hf,hl,o,d,h0,hd⟩:=E7 R;simp only[O0,h0]at h;simp only[Xo]at h;have U:∃v,YieldsIf P ops (fun w'=>w'=w) o v a∧Xo P ops Q D (O0 ops r) (a.put o.dst v) w:=by
   by_cases J:Region.wanted o (yielded ops a.tmps)=true;·simp only[J,if_true]at h;obtain⟨v,h1,I⟩:=h;exact⟨v,.inl ⟨J,fun w' e=>by rw[e];exact h1⟩,I⟩
   ·simp only[J]at h;exact⟨undef,.inr ⟨by simpa using J,rfl⟩,h⟩
  obtain⟨v,U,hK⟩:=U;exact Gm (F:=ops.size) h0 hl (Region.noSelect_spec u) (fun c E w' V=>by rw[hd]at V;exact K c E d _ w' V) _ q a w hcl
   (.inr fun j oj hj hl hu=>by
    have:=List.all_eq_true.1 ah j (by simpa using hl);rw[hu]at this;simpa using this) (Region.free_spec h0 hf) z U rfl
   (Fk u K r n _ _ w (hcl.set z) hC B hK)
 | .lookp k r,n+1,q,a,w,hcl,hC,hB,h=>by
  simp only[xfB,Zw]at hB;obtain⟨R,B⟩:=hB;obtain⟨z,hf,hl,o,d,h0,hd⟩:=E7 R;simp only[O0,h0]at h;simp only[Xo]at h;have U:∃v,YieldsIf P ops D o v a∧Xo P ops Q D (O0 ops r) (a.put o.dst v) w:=by
   by_cases J:Region.wanted o (yielded ops a.tmps)=true;·simp only[J,if_true]at h;obtain⟨v,h1,I⟩:=h;exact⟨v,.inl ⟨J,h1⟩,I⟩
   ·simp only[J]at h;exact⟨undef,.inr ⟨by simpa using J,rfl⟩,h⟩
  obtain⟨v,U,hK⟩:=U;exact Gm (F:=ops.size) h0 hl (Region.noSelect_spec u) (fun c E w' V=>by rw[hd]at V;exact K c E d _ w' V) _ q a w hcl
   (.inl ⟨fun _ h=>h,fun j oj hj hl hu=>by cases hl⟩) (Region.free_spec h0 hf) z U hC
   (Fk u K r n _ _ w (hcl.set z) hC B hK)
 | .walk k r,n+1,q,a,w,hcl,hC,hB,h=>by
  simp only[xfB,Zw,decide_eq_true_eq]at hB;obtain⟨⟨h1,hl⟩,B⟩:=hB;have z:k∈Region.ready .any ops q:=by rw[h1];simp
  obtain⟨_,o,h0,_⟩:=mem_ready.1 z;simp only[O0,h0]at h;simp only[Xo]at h;refine⟨fun I=>(by rw[h1]at I;cases I),fun i hi=>?_⟩;rw[h1]at hi;have ae:i=k:=by simpa using hi
  subst ae;refine wpOp_mono (fun E w' h'=>⟨⟨fun h=>absurd (show late.contains i=false from h) (by rw[hl];decide),fun _ _=>h'.1⟩,?_⟩) (Ko h0 h);exact Fk u K r n _ E w' (hcl.set z) h'.1 B h'.2
 | .fork i x j y,n+1,q,a,w,hcl,hC,hB,h=>by
  simp only[xfB,Zw,decide_eq_true_eq]at hB;obtain⟨⟨⟨⟨h1,af⟩,ag⟩,ab⟩,ac⟩:=hB;have Z:i∈Region.ready .any ops q:=by rw[h1];simp
  have aa:j∈Region.ready .any ops q:=by rw[h1];simp
  obtain⟨_,o,h0,_⟩:=mem_ready.1 Z;obtain⟨_,p,p0,_⟩:=mem_ready.1 aa;simp only[O0,h0,p0]at h;simp only[Xo]at h;refine⟨fun I=>(by rw[h1]at I;cases I),fun k hk=>?_⟩;rw[h1]at hk;rcases(show k=i∨k=j by simpa using hk)with rfl|rfl;·refine wpOp_mono (fun E w' h'=>⟨⟨fun h=>absurd (show late.contains k=false from h) (by rw[af];decide),fun _ _=>h'.1⟩,?_⟩) (Ko h0 h.1);exact Fk u K x n _ E w' (hcl.set Z) h'.1 ab h'.2
  ·refine wpOp_mono (fun E w' h'=>⟨⟨fun h=>absurd (show late.contains k=false from h) (by rw[ag];decide),fun _ _=>h'.1⟩,?_⟩) (Ko p0 h.2);exact Fk u K y n _ E w' (hcl.set aa) h'.1 ac h'.2
 | .nil,n+1,q,a,w,hcl,hC,hB,h=>by simp[xfB]at hB
 | .look _ _,0,q,a,w,hcl,hC,hB,h=>by simp[xfB]at hB
 | .lookp _ _,0,q,a,w,hcl,hC,hB,h=>by simp[xfB]at hB
 | .walk _ _,0,q,a,w,hcl,hC,hB,h=>by simp[xfB]at hB
 | .fork _ _ _ _,0,q,a,w,hcl,hC,hB,h=>by simp[xfB]at hB
theorem Ui{id:Nat}{a:Act}{w}{l:List Oper}(k:PT)(D:World→Prop)(I:P.follows .mixedOrders=true)
  (u:(Region.noSelect l.toArray&&xfB l.toArray (Qdg k) k l.toArray.size (Array.replicate l.toArray.size false))=true)
  (E:∀c(a:Act)(d:Tmp)v w,Q (.panic c) (a.put (some d) v) w→Q (.panic c) a w) (B:D w.drew) (h:Xo P l.toArray Q D (O0 l.toArray k) a w.drew):
  (Code.region id l.toArray true).wp P Q a w:=by
 simp only[Zw]at u;obtain⟨q,u⟩:=u;refine wp_region_any I ?_;have z:Xj l.toArray (Array.replicate l.toArray.size false):=fun j J _ hl=>by rw[getD_replicate_false]at hl;cases hl
 exact Mu _ _ _ _ (Fk (P:=P) (D:=D) q E k _ _ a _ z B u h)
variable{r x y:PO}{a:Act}{o p:Oper}{w:World}
theorem U9(h:Q .normal a w):Xo P ops Q D .nil a w:=h
theorem Vd{v:Value}(d:Region.wanted o (yielded ops a.tmps)=true)(c:(execOp a.eval o).run P w=.ok (.value v) w)(h:Xo P ops Q D r (a.put o.dst v) w):Xo P ops Q D (.look o r) a w:=by simp only[Xo,d,if_true];exact⟨v,c,h⟩
theorem Xi{v:Value}(d:Region.wanted o (yielded ops a.tmps)=true)(c:∀w',D w'→(execOp a.eval o).run P w'=.ok (.value v) w')(h:Xo P ops Q D r (a.put o.dst v) w):Xo P ops Q D (.lookp o r) a w:=by simp only[Xo,d,if_true];exact⟨v,c,h⟩
theorem Xt(h:wpList P ops (Exit.then (fun c w'=>D w'∧Xo P ops Q D r c w') Q) [o] a w):Xo P ops Q D (.walk o r) a w:=h
theorem Gn(h1:wpList P ops (Exit.then (fun c w'=>D w'∧Xo P ops Q D x c w') Q) [o] a w)(d:wpList P ops (Exit.then (fun c w'=>D w'∧Xo P ops Q D y c w') Q) [p] a w):Xo P ops Q D (.fork o x p y) a w:=⟨h1,d⟩
end
end Go.Proofs.YtnnhmpehkbihnaaGreat
