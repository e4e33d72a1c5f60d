/- A part of the proof: no condition. -/
import Derived.Test.YtigcnnkagkbflaaGreatYq01
namespace Go.Proofs.YtigcnnkagkbflaaGreat
set_option linter.unusedVariables false
set_option maxRecDepth 100000
set_option maxHeartbeats 4000000
open Go.RowKit
open Go.Proofs.Tryz
section
variable{P:Program}{w:World}{t kt e:TypeId}{b r:Nat}{l left:List (Int×Value)}
theorem Tc{X:Type}{q:X->Bool}{f:X->X}:∀{l:List X}{n:Nat},(∀x,l[n]? =some x->q x=false/\q (f x)=false)->(l.modify n f).filter q=l.filter q
 |[],n,_=>by simp
 |x::l,0,h=>by obtain⟨c,d⟩:=h x rfl;simp[List.modify_cons,c,d]
 |x::l,n+1,h=>by have u:=Tc (l:=l) (n:=n) (f:=f) (q:=q) λy k=>h y (by simpa using k);simp only[List.modify_succ_cons,List.filter_cons,u]
theorem Qbt{k:Int}{v:Value}:∀{l left:List (Int×Value)},left.Sublist l->(∀p∈left,p.1≠k)->left.Sublist (Oi k v l)
 |[],left,h,_=>by have:left=[]:=List.sublist_nil.1 h;subst this;exact List.nil_sublist _
 |p::l,left,h,hn=>by
  rw[Oi];split
  .rename_i c;cases h with
   |cons _ h=>exact .cons _ h
   |cons_cons _ h=>exact absurd c.symm (hn _ (by simp))
  .cases h with
   |cons _ h=>exact .cons _ (Qbt h hn)
   |cons_cons _ h=>exact .cons_cons _ (Qbt h λq d=>hn q (by simp[d]))
theorem Qbi(h:Kj w b r l left)(ht:P.underlying t=some (.map kt e))(hk:P.underlying kt=some (.int .i64))(k:Int)(v:Value)(E:∃p∈l,p.1=k)(af:∀p∈left,p.1≠k):
  ∃w',(Instr.mapUpdate t (.map (some b)) (ZI k) v).run P w=.ok () w'/\Kj w' b r (Oi k v l) left/\Qc (λj=>j=b) w w':=by
 obtain⟨w',J,hM,hc⟩:=X6 (P:=P) h.map ht hk k v;refine⟨w',J,?_,hc⟩;obtain⟨z,d,c,h1,h2,h3,h4,h5,h6,h7,h8,h9⟩:=h;have hb:b<w.heap.size:=(Z2.1 h1).1;have ah:w'.heap[r]? =some (.mapIter (some b) d c d):=hc.heap h6 (λe=>h7 e);cases Z:Oe k l 0 with
 |none=> obtain⟨p,aj,ak⟩:=E;exact absurd ak (Pa Z p aj)
 |some q=>
  obtain⟨n,u⟩:=q;obtain⟨j,hj,ab,U⟩:=U6 Z;obtain rfl:n=j:=by omega
  have ac:z.toList.length=l.length:=by simpa using congrArg List.length h2
  have hn:n<z.size:=by rw[<-ac]at ab;simpa using ab
  have I:z[n].key=ZI k:=by have:=congrArg (λx=>x[n]?) h2;simp only[List.getElem?_map,U]at this;rw[Array.getElem?_toList,Array.getElem?_eq_getElem hn]at this;simpa using(congrArg Prod.fst (Zs this))
  have al:((Instr.keyThatStays (((z[n]?).map (·.key)).getD (ZI k)) (ZI k)).run P w)=.ok (ZI k) w:=by rw[Array.getElem?_eq_getElem hn];simp[I,Instr.keyThatStays,Instr.sameBits]
  have am:w'={w with heap:=w.heap.setIfInBounds b (.map (z.modify n λe=>{e with key:=ZI k,val:=v}) d)}:=by have V:=J;unfold Instr.mapUpdate at V;simp only[Sem.run_bind,Qmp ht,Result.andThen_ok,Qkf h1,Ox hk,Dt hk k z.toList h2,Z]at V;simp only[al,Result.andThen_ok,Qsm _ h1]at V;injection V with _ V;exact V.symm
  have ai:w'.heap[b]? =some (.map (z.modify n λe=>{e with key:=ZI k,val:=v}) d):=by rw[am];simp[hb]
  have K:(z.modify n λe=>{e with key:=ZI k,val:=v}).toList.map (·.born)=z.toList.map (·.born):=by
   refine List.ext_getElem? λi=>?_;simp only[List.getElem?_map,Array.getElem?_toList,Array.getElem?_modify];split;·cases z[i]? <;>rfl
   .rfl
  refine⟨_,d,c,ai,?_,?_,by rw[K];exact h4,?_,ah,h7,?_,Qbt h9 af⟩
  .rw[Ry (i:=0) (j:=n) (u:=u) (by rw[Z];simp)];refine List.ext_getElem? λi=>?_;have aa:=congrArg (λx=>x[i]?) h2;simp only[List.getElem?_map,Array.getElem?_toList]at aa;simp only[List.getElem?_map,Array.getElem?_toList,Array.getElem?_modify,List.getElem?_modify];by_cases E:n=i;·subst E;simp only[if_true,U,Array.getElem?_eq_getElem hn];simp
   .simp only[E,if_false];simpa using aa
  .rw[Fa ⟨(k,u),List.mem_of_getElem? U,rfl⟩];exact h3
  .intro x hx;obtain⟨i,R⟩:=List.mem_iff_getElem?.1 hx;simp only[Array.getElem?_toList,Array.getElem?_modify]at R;split at R
   .cases hy:z[i]? with
    |none=>rw[hy]at R;cases R
    |some y=> rw[hy]at R;obtain rfl:=Zs R;exact h5 y (List.mem_of_getElem? (by rw[Array.getElem?_toList];exact hy))
   .exact h5 x (List.mem_of_getElem? (by rw[Array.getElem?_toList];exact R))
  .rw[<-h8];have B:c.contains z[n].born=true:=by
    cases hs:c.contains z[n].born with
    |true=>rfl
    |false=>
     exfalso;have hm:z[n]∈(leftOf z c).toList:=by unfold leftOf;rw[Array.toList_filter];exact List.mem_filter.2 ⟨by simp,by show(!c.contains z[n].born)=true;rw[hs];rfl⟩
     have ae:=List.mem_map_of_mem (f:=λe:MapEntry=>(e.key,e.val)) hm;rw[h8]at ae;obtain⟨p,Z,ag⟩:=Z3.1 ae;simp only[Prod.mk.injEq]at ag;have e1:=ag.1;rw[I]at e1;injection e1 with _ e1;exact af p Z e1
   congr 1;unfold leftOf;simp only[Array.toList_filter,Array.toList_modify];refine Tc λx hx=>?_;rw[Array.getElem?_toList,Array.getElem?_eq_getElem hn]at hx;obtain rfl:=Zs hx;exact⟨by show(!c.contains z[n].born)=false;rw[B];rfl,by show(!c.contains z[n].born)=false;rw[B];rfl⟩
end
end Go.Proofs.YtigcnnkagkbflaaGreat
