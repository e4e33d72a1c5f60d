/- A part of the proof: no condition. -/
import Derived.Test.YtnnhmpehkbihnaaGreatPk01
import Derived.Maps.Own
import Derived.Maps.RangeRun
import Derived.RangeFuncNested
import Derived.RangeFuncBound
import Derived.RangeFuncCalls
import Derived.RangeFuncLeaves
import Derived.Shelf.Abstract
import Derived.Shelf.RegionOpen
import Derived.OwnWalkIn
import Derived.TacticsInMore
import Derived.LoopNIn
import Derived.LoopIn
namespace Go.Proofs.YtnnhmpehkbihnaaGreat
set_option linter.unusedVariables false
set_option maxRecDepth 100000
set_option maxHeartbeats 4000000
open Go.RowKit
open Go.Proofs.Tryz
def Xq(w:World)(b:Nat)(l:List (Int×Value)):Prop:=
 ∃d c,w.heap[b]? =some (.map d c)∧d.toList.map (fun e=>(e.key,e.val))=l.map (fun p=>(Value.int .i64 p.1,p.2))∧
  (l.map (·.1)).Nodup∧(d.toList.map (·.born)).Nodup∧∀e∈d.toList,e.born<c
def Oe(k:Int):List (Int×Value)→Nat→Option (Nat×Value)
 |[],_=>none
 |p::l,i=>if k=p.1 then some (i,p.2)else Oe k l (i+1)
theorem Fv(k:Int):∀(c:List MapEntry)(l:List (Int×Value))(i:Nat),c.map (fun e=>(e.key,e.val))=l.map (fun p=>(Value.int .i64 p.1,p.2))→
  Instr.findNow (.int .i64) (.int .i64 k) c i=some (Oe k l i)
 |[],[],_,_=>rfl
 |[],_::_,_,h=>by cases h
 |_::_,[],_,h=>by cases h
 |e::c,p::l,i,h=>by
  simp only[List.map_cons,List.cons.injEq,Prod.mk.injEq]at h;obtain⟨⟨h1,q⟩,u⟩:=h;have z:=Fv k c l (i+1) u;simp only[Instr.findNow,h1,Instr.sameNow,if_true,Oe];by_cases d:k=p.1;·simp[d,q]
  ·have:(k==p.1)=false:=by simpa using d
   rw[this,if_neg d];exact z
def look(k:Int)(l:List (Int×Value)):Option Value:=(Oe k l 0).map (·.2)
section
variable{P:Program}{t kt e:TypeId}{w:World}{b:Nat}{l:List (Int×Value)}
theorem Qmp{d:TypeDesc}(h:P.underlying t=some d):(underlying t).run P w=.ok d w:=by simp[underlying,h]
theorem Qkf{d:Array MapEntry}{c:Nat}(h:w.heap[b]? =some (.map d c)):(getObj b).run P w=.ok (.map d c) w:=by simp[getObj,Sem.run,h]
theorem Qsm{d:Array MapEntry}{c:Nat}(o:Obj)(h:w.heap[b]? =some (.map d c)):(setObj b o).run P w=.ok () {w with heap:=w.heap.setIfInBounds b o}:=by simp[setObj,Sem.run,h]
theorem Dt(d:P.underlying kt=some (.int .i64))(k:Int)(c:List MapEntry)(h:c.map (fun e=>(e.key,e.val))=l.map (fun p=>(Value.int .i64 p.1,p.2))):
  (Instr.findKey kt (.int .i64 k) c).run P w=.ok (Oe k l 0) w:=by
 unfold Instr.findKey;simp[underlying,d,Fv k c l 0 h]
theorem Ox(c:P.underlying kt=some (.int .i64))(b:Bool)(k:Int):(Instr.checkKey b 10000 kt (.int .i64 k)).run P w=.ok () w:=by unfold Instr.checkKey;simp[underlying,c]
theorem Dj(h:Xq w b l)(ht:P.underlying t=some (.map kt e))(d:P.underlying kt=some (.int .i64)){z:Value}(E:(zeroValue e).run P w=.ok z w)(k:Int):
  (Instr.lookup t (.map (some b)) (.int .i64 k) true).run P w=.ok (.tuple #[(look k l).getD z,.bool (look k l).isSome]) w:=by
 obtain⟨u,c,h1,B,_⟩:=h;unfold Instr.lookup;simp only[Sem.run_bind,Sem.run_pure,Qmp ht,Result.andThen_ok,Qkf h1,Ox d,Dt d k u.toList B,look];cases I:Oe k l 0 with
 |none=>simp[E]
 |some q=>simp
theorem Du(h:Xq w b l)(ht:P.underlying t=some (.map kt e))(d:P.underlying kt=some (.int .i64)){z:Value}(E:(zeroValue e).run P w=.ok z w)(k:Int):
  (Instr.lookup t (.map (some b)) (.int .i64 k) false).run P w=.ok ((look k l).getD z) w:=by
 obtain⟨u,c,h1,B,_⟩:=h;unfold Instr.lookup;simp only[Sem.run_bind,Sem.run_pure,Qmp ht,Result.andThen_ok,Qkf h1,Ox d,Dt d k u.toList B,look];cases I:Oe k l 0 with
 |none=>simp[E]
 |some q=>simp
def Oi(k:Int)(v:Value):List (Int×Value)→List (Int×Value)
 |[]=>[(k,v)]
 |p::l=>if k=p.1 then(k,v)::l else p::Oi k v l
theorem U6{k:Int}:∀{l:List (Int×Value)}{i n:Nat}{v:Value},Oe k l i=some (n,v)→∃j,n=i+j∧j<l.length∧l[j]? =some (k,v)
 |p::l,i,n,v,h=>by
  simp only[Oe]at h;split at h;·rename_i d;obtain⟨rfl,rfl⟩:=Prod.mk.injEq .. ▸Zs h;exact⟨0,rfl,by simp,by simp[d]⟩
  ·obtain⟨j,rfl,c,hl⟩:=U6 h;exact⟨j+1,by omega,by simpa using c,by simpa using hl⟩
theorem Pa{k:Int}:∀{l:List (Int×Value)}{i:Nat},Oe k l i=none→∀p∈l,p.1≠k
 |p::l,i,h,q,c=>by
  simp only[Oe]at h;split at h;·cases h
  ·rename_i d;rcases Zu.1 c with rfl|c;·exact fun e=>d e.symm
   ·exact Pa h q c
theorem Gw{k:Int}{v:Value}:∀{l:List (Int×Value)},(∀p∈l,p.1≠k)→Oi k v l=l++[(k,v)]
 |[],_=>rfl
 |p::l,h=>by have c:k≠p.1:=fun e=>h p (by simp) e.symm;rw[Oi,if_neg c,Gw fun q d=>h q (by simp[d])];rfl
theorem Fa{k:Int}{v:Value}:∀{l:List (Int×Value)},(∃p∈l,p.1=k)→(Oi k v l).map (·.1)=l.map (·.1)
 |p::l,h=>by
  rw[Oi];split;·rename_i d;simp[d]
  ·rename_i d;simp only[List.map_cons,List.cons.injEq,true_and];refine Fa ?_;obtain⟨q,u,c⟩:=h;rcases Zu.1 u with rfl|u;·exact absurd c.symm d
   ·exact⟨q,u,c⟩
theorem Ry{k:Int}{v u:Value}:∀{l:List (Int×Value)}{i j:Nat},Oe k l i=some (i+j,u)→Oi k v l=l.modify j fun p=>(p.1,v)
 |p::l,i,j,h=>by
  simp only[Oe]at h;rw[Oi];split at h
  ·rename_i c;have q:j=0:=by have:=(Prod.mk.injEq .. ▸Zs h:i=i+j∧_).1;omega
   subst q;rw[if_pos c,c];rfl
  ·rename_i c;rw[if_neg c];obtain⟨z,h1,_⟩:=U6 h;obtain⟨d,rfl⟩:∃d,j=d+1:=⟨j-1,by omega⟩;rw[Ry (i:=i+1) (j:=d) (by rw[h];congr 2;omega)];rfl
theorem X6(h:Xq w b l)(ht:P.underlying t=some (.map kt e))(hk:P.underlying kt=some (.int .i64))(k:Int)(v:Value):
  ∃w',(Instr.mapUpdate t (.map (some b)) (.int .i64 k) v).run P w=.ok () w'∧Xq w' b (Oi k v l)∧Qc (fun j=>j=b) w w':=by
 obtain⟨z,d,h1,I,h3,h4,h5⟩:=h;have hb:b<w.heap.size:=(Z2.1 h1).1;unfold Instr.mapUpdate;simp only[Sem.run_bind,Qmp ht,Result.andThen_ok,Qkf h1,Ox hk,Dt hk k z.toList I];have chg:∀o,Qc (fun j=>j=b) w {w with heap:=w.heap.setIfInBounds b o}:=by intro o;refine⟨rfl,rfl,rfl,by simp,fun j hj hS=>?_⟩;rw[Array.getElem?_setIfInBounds_ne (fun e=>hS e.symm)]
 cases Z:Oe k l 0 with
 |none=>
  have hn:=Pa Z;simp only[Qsm _ h1];refine⟨_,rfl,⟨z.push {key:=.int .i64 k,val:=v,born:=d},d+1,?_,?_,?_,?_,?_⟩,chg _⟩;·simp[hb]
  ·rw[Gw hn];simp[I]
  ·rw[Gw hn];simp only[List.map_append,List.map_cons,List.map_nil];refine List.nodup_append.2 ⟨h3,by simp,fun a ha c hc=>?_⟩;obtain rfl:c=k:=by simpa using hc
   obtain⟨p,Z,rfl⟩:=Z3.1 ha;exact hn p Z
  ·simp only[Array.toList_push,List.map_append,List.map_cons,List.map_nil];refine List.nodup_append.2 ⟨h4,by simp,fun a ha c hc=>?_⟩;obtain rfl:c=d:=by simpa using hc
   obtain⟨x,B,rfl⟩:=Z3.1 ha;have:=h5 x B;omega
  ·intro x B;simp only[Array.toList_push,Zl,List.mem_singleton]at B;rcases B with B|rfl;·have:=h5 x B;omega
   ·simp
 |some q=>
  obtain⟨n,u⟩:=q;obtain⟨j,hj,R,E⟩:=U6 Z;obtain rfl:n=j:=by omega
  have V:z.toList.length=l.length:=by simpa using congrArg List.length I
  have hn:n<z.size:=by rw[←V]at R;simpa using R
  have U:z[n].key=.int .i64 k:=by have:=congrArg (fun x=>x[n]?) I;simp only[List.getElem?_map,E]at this;rw[Array.getElem?_toList,Array.getElem?_eq_getElem hn]at this;simpa using(congrArg Prod.fst (Zs this))
  have aa:((Instr.keyThatStays (((z[n]?).map (·.key)).getD (.int .i64 k)) (.int .i64 k)).run P w)=.ok (.int .i64 k) w:=by rw[Array.getElem?_eq_getElem hn];simp[U,Instr.keyThatStays,Instr.sameBits]
  simp only[Sem.run_bind,aa,Result.andThen_ok,Qsm _ h1];refine⟨_,rfl,⟨z.modify n fun e=>{e with key:=.int .i64 k,val:=v},d,?_,?_,?_,?_,?_⟩,chg _⟩;·simp[hb]
  ·rw[Ry (i:=0) (j:=n) (u:=u) (by rw[Z];simp)];refine List.ext_getElem? fun i=>?_;have J:=congrArg (fun x=>x[i]?) I;simp only[List.getElem?_map,Array.getElem?_toList]at J;simp only[List.getElem?_map,Array.getElem?_toList,Array.getElem?_modify,List.getElem?_modify];by_cases K:n=i;·subst K;simp only[if_true,E,Array.getElem?_eq_getElem hn];simp
   ·simp only[K,if_false];simpa using J
  ·rw[Fa ⟨(k,u),List.mem_of_getElem? E,rfl⟩];exact h3
  ·have:(z.modify n fun e=>{e with key:=.int .i64 k,val:=v}).toList.map (·.born)=z.toList.map (·.born):=by
    refine List.ext_getElem? fun i=>?_;simp only[List.getElem?_map,Array.getElem?_toList,Array.getElem?_modify];split;·cases z[i]? <;>rfl
    ·rfl
   rw[this];exact h4
  ·intro x B;obtain⟨i,hi⟩:=List.mem_iff_getElem?.1 B;simp only[Array.getElem?_toList,Array.getElem?_modify]at hi;split at hi
   ·cases hy:z[i]? with
    |none=>rw[hy]at hi;cases hi
    |some y=> rw[hy]at hi;obtain rfl:=Zs hi;exact h5 y (List.mem_of_getElem? (by rw[Array.getElem?_toList];exact hy))
   ·exact h5 x (List.mem_of_getElem? (by rw[Array.getElem?_toList];exact hi))
theorem Xq.new(w:World):Xq (w.alloc (.map #[] 0)) w.heap.size []:=⟨#[],0,by show(w.heap.push _)[w.heap.size]? =_;simp,rfl,by simp,by simp,by simp⟩
theorem Xq.aB{S:Nat→Prop}{w'}(h:Xq w b l)(hc:Qc S w w')(q:¬S b):Xq w' b l:=by obtain⟨d,c,h1,k⟩:=h;exact⟨d,c,hc.heap h1 q,k⟩
theorem Xq.lt(h:Xq w b l):b<w.heap.size:=by obtain⟨d,c,h1,k⟩:=h;exact(Z2.1 h1).1
theorem Xq.nodup(h:Xq w b l):(l.map (·.1)).Nodup:=by obtain⟨k,c,h1,q,d,_⟩:=h;exact d
theorem Qua(h:Xq w b l)(ht:P.underlying t=some (.map kt e))(ty:TypeId):(Builtin.len_ #[t] ty #[.map (some b)]).run P w=.ok (.int .i64 l.length) w:=by
 obtain⟨d,c,h1,k,_⟩:=h;have hl:d.size=l.length:=by simpa using congrArg List.length k
 unfold Builtin.len_;simp[Qmp ht,Qkf h1,hl,goInt]
def Vu(k:Int)(l:List (Int×Value)):List (Int×Value):=l.filter fun p=>!decide (p.1=k)
theorem Co{A B:Type}(f:A→B):∀(l:List A)(j:Nat),(l.eraseIdx j).map f=(l.map f).eraseIdx j
 |[],_=>rfl
 |_::_,0=>rfl
 |a::l,j+1=>by simp[Co f l j]
theorem A0{k:Int}{v:Value}:∀{l:List (Int×Value)}{j:Nat},(l.map (·.1)).Nodup→l[j]? =some (k,v)→l.eraseIdx j=Vu k l
 |p::l,0,hn,h=>by
  obtain rfl:p=(k,v):=by simpa using h
  obtain⟨h1,_⟩:=List.nodup_cons.1 hn;simp only[List.eraseIdx_cons_zero,Vu,List.filter_cons,decide_true,Bool.not_true,Bool.false_eq_true,if_false];refine(List.filter_eq_self.2 fun q z=>?_).symm;simp only[Bool.not_eq_true',decide_eq_false_iff_not];exact fun e=>h1 (Z3.2 ⟨q,z,e⟩)
 |p::l,j+1,hn,h=>by
  obtain⟨h1,d⟩:=List.nodup_cons.1 hn;have c:l[j]? =some (k,v):=by simpa using h
  have u:p.1≠k:=fun e=>h1 (Z3.2 ⟨(k,v),List.mem_of_getElem? c,e.symm⟩);rw[List.eraseIdx_cons_succ,A0 d c];simp[Vu,u]
theorem Qc1{k:Int}{l:List (Int×Value)}(h:∀p∈l,p.1≠k):Vu k l=l:=by refine List.filter_eq_self.2 fun q c=>?_;simp only[Bool.not_eq_true',decide_eq_false_iff_not];exact h q c
theorem Di(h:Xq w b l)(ht:P.underlying t=some (.map kt e))(U:P.underlying kt=some (.int .i64))(t2 ty:TypeId)(k:Int):
  ∃w',(Builtin.delete_ #[t,t2] ty #[.map (some b),.int .i64 k]).run P w=.ok (.tuple #[]) w'∧Xq w' b (Vu k l)∧Qc (fun j=>j=b) w w':=by
 obtain⟨z,c,h1,B,E,J,K⟩:=h;have R:b<w.heap.size:=(Z2.1 h1).1;have chg:∀o,Qc (fun j=>j=b) w {w with heap:=w.heap.setIfInBounds b o}:=by intro o;refine⟨rfl,rfl,rfl,by simp,fun j hj Z=>?_⟩;rw[Array.getElem?_setIfInBounds_ne (fun e=>Z e.symm)]
 unfold Builtin.delete_;simp only[Zf,Ze,Zd,Sem.run_bind,Qmp ht,Result.andThen_ok,Qkf h1,Ox U,Dt U k z.toList B];cases V:Oe k l 0 with
 |none=> simp only[Sem.run_bind,Qsm _ h1,Result.andThen_ok,Sem.run_pure];refine⟨_,rfl,⟨z,c,by simp[R],?_⟩,chg _⟩;rw[Qc1 (Pa V)];exact⟨B,E,J,K⟩
 |some q=>
  obtain⟨n,u⟩:=q;obtain⟨j,hj,aa,I⟩:=U6 V;obtain rfl:n=j:=by omega
  simp only[Sem.run_bind,Qsm _ h1,Result.andThen_ok,Sem.run_pure];have d:(z.eraseIdxIfInBounds n).toList.Sublist z.toList:=by rw[Array.toList_eraseIdxIfInBounds];exact List.eraseIdx_sublist _ _
  refine⟨_,rfl,⟨z.eraseIdxIfInBounds n,c,by simp[R],?_,?_,?_,?_⟩,chg _⟩;·rw[←A0 E I,Array.toList_eraseIdxIfInBounds,Co,B,Co]
  ·exact E.sublist (List.filter_sublist.map _)
  ·exact J.sublist (d.map _)
  ·exact fun x hx=>K x (d.subset hx)
def Kj(w:World)(b r:Nat)(l left:List (Int×Value)):Prop:=
 ∃k c d,w.heap[b]? =some (.map k c)∧k.toList.map (fun e=>(e.key,e.val))=l.map (fun p=>(Value.int .i64 p.1,p.2))∧
  (l.map (·.1)).Nodup∧(k.toList.map (·.born)).Nodup∧(∀e∈k.toList,e.born<c)∧w.heap[r]? =some (.mapIter (some b) c d c)∧r≠b∧
  (leftOf k d).toList.map (fun e=>(e.key,e.val))=left.map (fun p=>(Value.int .i64 p.1,p.2))∧left.Sublist l
theorem Kj.map{r:Nat}{left:List (Int×Value)}(h:Kj w b r l left):Xq w b l:=by obtain⟨k,c,d,h1,q,u,z,B,_⟩:=h;exact⟨k,c,h1,q,u,z,B⟩
theorem Kj.aB{S:Nat→Prop}{w'}{r:Nat}{left:List (Int×Value)}(h:Kj w b r l left)(hc:Qc S w w')(J:¬S b)(hr:¬S r):Kj w' b r l left:=by obtain⟨k,c,d,h1,q,u,z,B,E,I⟩:=h;exact⟨k,c,d,hc.heap h1 J,q,u,z,B,hc.heap E hr,I⟩
theorem Kj.sub{r:Nat}{left:List (Int×Value)}(h:Kj w b r l left):left.Sublist l:=by obtain⟨q,c,d,h1,u,z,B,E,I,J,K,k⟩:=h;exact k
theorem Er(h:Xq w b l)(ht:P.underlying t=some (.map kt e)):∃o,(Instr.range t (.map (some b))).run P w=.ok (.pointer (some ⟨w.heap.size,0,none⟩)) (w.alloc o)∧Kj (w.alloc o) b w.heap.size l l:=by
 have B:=h.lt;obtain⟨d,c,h1,k,q,u,z⟩:=h;refine⟨.mapIter (some b) c #[] c,?_,d,c,#[],?_,k,q,u,z,?_,by omega,?_,List.Sublist.refl _⟩;·unfold Instr.range;simp[Qmp ht,Qkf h1]
 ·rw[Below.heap_alloc _ _ _ B];exact h1
 ·show(w.heap.push _)[w.heap.size]? =_;simp
 ·have:leftOf d #[]=d:=by simp[leftOf]
  rw[this];exact k
theorem Qq6{d:List MapEntry}(h:(d.map (·.born)).Nodup){x y:MapEntry}(u:x∈d)(z:y∈d)(e:x.born=y.born):x=y:=by
 induction d with
 |nil=>cases u
 |cons a d E=>
  obtain⟨h1,B⟩:=List.nodup_cons.1 h;rcases Zu.1 u with ex|k
  ·rcases Zu.1 z with q|c;·rw[ex,q]
   ·exact(h1 (Z3.2 ⟨y,c,by rw[←e,ex]⟩)).elim
  ·rcases Zu.1 z with q|c;·exact(h1 (Z3.2 ⟨x,k,by rw[e,q]⟩)).elim
   ·exact E B k c
theorem Qdi{x:MapEntry}{p:Int×Value}:∀{c:List MapEntry}{left:List (Int×Value)},c.map (fun e=>(e.key,e.val))=left.map (fun p=>(Value.int .i64 p.1,p.2))→(left.map (·.1)).Nodup→(c.map (·.born)).Nodup→
  x∈c→p∈left→Value.int .i64 p.1=x.key→(c.filter (fun y=>!decide (y.born=x.born))).map (fun e=>(e.key,e.val))=(Vu p.1 left).map (fun p=>(Value.int .i64 p.1,p.2))
 |[],[],_,_,_,d,_,_=>by cases d
 |[],_::_,h,_,_,_,_,_=>by cases h
 |_::_,[],h,_,_,_,_,_=>by cases h
 |y::c,q::left,h,hn,hb,d,R,B=>by
  simp only[List.map_cons,List.cons.injEq,Prod.mk.injEq]at h;obtain⟨⟨h1,h2⟩,K⟩:=h;obtain⟨V,n2⟩:=List.nodup_cons.1 hn;obtain⟨b1,b2⟩:=List.nodup_cons.1 hb;by_cases u:y.born=x.born
  ·have J:y=x:=by
    rcases Zu.1 d with e|d;·exact e.symm
    ·exact absurd (Z3.2 ⟨x,d,u.symm⟩) b1
   subst J;have E:q.1=p.1:=by rw[h1]at B;injection B with _ B;exact B.symm
   have Z:(c.filter fun z=>!decide (z.born=y.born))=c:=List.filter_eq_self.2 fun z k=>by simp only[Bool.not_eq_true',decide_eq_false_iff_not];exact fun e=>b1 (Z3.2 ⟨z,k,e⟩)
   have f2:Vu p.1 left=left:=Qc1 fun z k e=>V (Z3.2 ⟨z,k,e.trans E.symm⟩);simp only[List.filter_cons,decide_true,Bool.not_true,Bool.false_eq_true,if_false,Z];rw[K];have:Vu p.1 (q::left)=Vu p.1 left:=by simp[Vu,E]
   rw[this,f2]
  ·have I:x∈c:=by
    rcases Zu.1 d with e|d;·exact absurd (by rw[e]) u
    ·exact d
   have E:q.1≠p.1:=by
    intro e;obtain⟨i,hi⟩:=List.mem_iff_getElem?.1 I;have:=congrArg (fun l=>l[i]?) K;simp only[List.getElem?_map,hi,Zn]at this;cases hl:left[i]? with
    |none=>rw[hl]at this;cases this
    |some z=> rw[hl]at this;have k:x.key=Value.int .i64 z.1:=(Prod.mk.injEq .. ▸Zs this).1;rw[←B]at k;injection k with _ k;exact V (Z3.2 ⟨z,List.mem_of_getElem? hl,k.symm.trans e.symm⟩)
   have U:p∈left:=by
    rcases Zu.1 R with e|R;·exact absurd (by rw[e]) E
    ·exact R
   have ih:=Qdi K n2 b2 I U B;have g1:((y::c).filter fun z=>!decide (z.born=x.born))=y::c.filter fun z=>!decide (z.born=x.born):=by simp[u]
   have g2:Vu p.1 (q::left)=q::Vu p.1 left:=by simp[Vu,E]
   rw[g1,g2,List.map_cons,List.map_cons,ih,h1,h2]
theorem Rx{r:Nat}{left:List (Int×Value)}(h:Kj w b r l left)(ty:TypeId):
  (left=[]∧(Instr.next (.pointer (some ⟨r,0,none⟩)) false ty).run P w=.ok (.tuple #[.bool false]) w)∨
  ∃p∈left,∃w',(Instr.next (.pointer (some ⟨r,0,none⟩)) false ty).run P w=.ok (.tuple #[.bool true,.int .i64 p.1,p.2]) w'∧Kj w' b r l (Vu p.1 left)∧Qc (fun j=>j=r) w w'∧
   (Instr.entry (.pointer (some ⟨r,0,none⟩))).run P w'=.ok (.tuple #[.int .i64 p.1,p.2]) w':=by
 obtain⟨k,c,d,h1,h2,h3,U,h5,h6,h7,V,h9⟩:=h;rcases run_next_at (P:=P) w ty r b c c d k c h6 h1 h5 (Zv _)with⟨h0,hr⟩|⟨x,K,w1,z,hr⟩
 ·left;refine⟨?_,hr⟩;have:(leftOf k d).toList=[]:=List.length_eq_zero_iff.1 (by simpa using h0);rw[this]at V;cases left with
  |nil=>rfl
  |cons a l=>cases V
 ·right;have q:=List.mem_map_of_mem (f:=fun e:MapEntry=>(e.key,e.val)) K;rw[V]at q;obtain⟨p,hp,E⟩:=Z3.1 q;simp only[Prod.mk.injEq]at E;obtain⟨e1,e2⟩:=E;have ac:r<w.heap.size:=(Z2.1 h6).1;rw[←e1,←e2]at hr;have J:r<w1.heap.size:=by rcases z with rfl|rfl<;>exact ac
  have aa:w1.heap[b]? =some (.map k c):=by rcases z with rfl|rfl<;>exact h1
  have R:x∈k.toList:=by unfold leftOf at K;simp at K;simpa using K.1
  have B:(ChangeMaps.setBlock w1 r (.mapIter (some b) c (d.push x.born) c)).heap[b]? =some (.map k c):=by show(w1.heap.setIfInBounds r _)[b]? =_;rw[Array.getElem?_setIfInBounds_ne h7];exact aa
  have I:(ChangeMaps.setBlock w1 r (.mapIter (some b) c (d.push x.born) c)).heap[r]? =some (.mapIter (some b) c (d.push x.born) c):=by show(w1.heap.setIfInBounds r _)[r]? =_;simp[J]
  have ab:(left.map (·.1)).Nodup:=h3.sublist (h9.map _);refine⟨p,hp,_,hr,⟨k,c,d.push x.born,B,h2,h3,U,h5,I,h7,?_,List.filter_sublist.trans h9⟩,?_,?_⟩
  ·have af:∀y∈k.toList,(y.born=x.born↔y=x):=by intro y hy;refine⟨fun e=>?_,fun e=>by rw[e]⟩;exact Qq6 U hy R e
   have u:(leftOf k (d.push x.born)).toList=(leftOf k d).toList.filter (fun y=>!decide (y.born=x.born)):=by
    unfold leftOf;simp only[Array.toList_filter,List.filter_filter];refine List.filter_congr fun y _=>?_;simp only[Array.contains_push];by_cases hc:y.born=x.born;·simp[hc]
    ·simp[hc]
   rw[u];have ae:(leftOf k d).toList.Sublist k.toList:=by unfold leftOf;simp only[Array.toList_filter];exact List.filter_sublist
   exact Qdi V ab (U.sublist (ae.map _)) K hp e1
  ·rcases z with rfl|rfl;·exact⟨rfl,rfl,rfl,by simp[ChangeMaps.setBlock],fun j hj Z=>by show(w1.heap.setIfInBounds r _)[j]? =_;rw[Array.getElem?_setIfInBounds_ne (fun e=>Z e.symm)]⟩
   ·exact⟨rfl,rfl,rfl,by show w.heap.size≤(w.heap.setIfInBounds r _).size;simp,fun j hj Z=>by show(w.heap.setIfInBounds r _)[j]? =_;rw[Array.getElem?_setIfInBounds_ne (fun e=>Z e.symm)]⟩
  ·rw[e1,e2];exact run_entry_at _ r b c d k c x I B R U
end
abbrev Fp:=Nat→Prop
def Qn(F:Fp)(w w':World):Fp:=fun k=>F k∨(w.heap.size≤k∧k<w'.heap.size)
def Bd(F:Fp)(w:World):Prop:=∀k,F k→k<w.heap.size
def Jl(F G:Fp):Prop:=∀k,F k→¬G k
section
variable{F G S:Fp}{w w1 w2:World}
theorem Bd.later(h:Bd F w)(hc:Qc S w w1):Bd F w1:=fun k c=>Nat.lt_of_lt_of_le (h k c) hc.size
theorem Bd.ext(h:Bd F w)(hc:Qc S w w1):Bd (Qn F w w1) w1:=fun k c=>c.elim (fun c=>Nat.lt_of_lt_of_le (h k c) hc.size) (fun c=>c.2)
theorem Bd.sub(h:Bd F w)(hs:∀k,G k→F k):Bd G w:=fun k c=>h k (hs k c)
theorem Bd.not(h:Bd F w){k:Nat}(d:w.heap.size≤k):¬F k:=fun c=>by have:=h k c;omega
theorem Jl.symm(h:Jl F G):Jl G F:=fun k d c=>h k c d
theorem Jl.sub{F' c:Fp}(h:Jl F G)(d:∀k,F' k→F k)(q:∀k,c k→G k):Jl F' c:=fun k a b=>h k (d k a) (q k b)
theorem Jl.subL{F':Fp}(h:Jl F G)(c:∀k,F' k→F k):Jl F' G:=fun k a b=>h k (c k a) b
theorem Jl.subR{c:Fp}(h:Jl F G)(d:∀k,c k→G k):Jl F c:=fun k a b=>h k a (d k b)
theorem Jl.none(F:Fp):Jl F Qb:=fun _ _ h=>h
theorem Jl.extL(h:Jl F G)(q:Bd G w):Jl (Qn F w w1) G:=fun k c d=>c.elim (fun c=>h k c d) (fun c=>by have:=q k d;omega)
theorem Jl.extR(h:Jl G F)(c:Bd G w):Jl G (Qn F w w1):=(Jl.extL h.symm c).symm
theorem Qn.mono(hs:∀k,G k→F k):∀k,Qn G w w1 k→Qn F w w1 k:=fun k c=>c.elim (fun h=>.inl (hs k h)) .inr
theorem Qn.not{k:Nat}(h:¬F k)(c:k<w.heap.size):¬Qn F w w1 k:=fun e=>e.elim h (fun e=>by omega)
theorem Qn.trans(h1:w.heap.size≤w1.heap.size)(d:w1.heap.size≤w2.heap.size):∀k,Qn (Qn F w w1) w1 w2 k→Qn F w w2 k:=by
 intro k c;rcases c with(c|c)|c;·exact .inl c
 ·exact .inr ⟨c.1,by omega⟩
 ·exact .inr ⟨by omega,c.2⟩
theorem Qn.later(d:w1.heap.size≤w2.heap.size):∀k,Qn F w w1 k→Qn F w w2 k:=fun k c=>c.elim .inl (fun h=>.inr ⟨h.1,by omega⟩)
theorem Qc.sub(h:Qc G w w1)(hs:∀k,G k→F k):Qc F w w1:=h.mono fun k c=>.inl (hs k c)
theorem Qc.none(h:Qc Qb w w1):Qc F w w1:=h.mono fun k c=>c.elim
theorem Qc.ext(h:Qc F w w1)(h':Qc (Qn F w w1) w1 w2):Qc F w w2:=h.trans h' fun k c=>c.elim .inl (fun h=>.inr h.1)
theorem Qc.far(h:Qc S w w1){b:Nat}(d:b<w.heap.size)(c:¬S b):w1.heap[b]? =w.heap[b]? :=h.block b d c
end
structure Hf{X:Type}(Is:World→Fp→Nat→X→Prop):Prop where
 bd:∀{w F b x},Is w F b x→Bd F w
 own:∀{w F b x},Is w F b x→F b
 aB:∀{w w' F S b x},Is w F b x→Qc S w w'→Jl F S→Is w' F b x
 more:∀{w F F' b x},Is w F b x→(∀k,F k→F' k)→Bd F' w→Is w F' b x
theorem Hf.lt{X:Type}{Is:World→Fp→Nat→X→Prop}(c:Hf Is){w}{F:Fp}{b:Nat}{x:X}(h:Is w F b x):b<w.heap.size:=c.bd h b (c.own h)
section
variable{X:Type}{key:X→Int}{Is:World→Fp→Nat→X→Prop}{w w':World}{F:Fp}{m:Nat}{ad:Int→Nat}{l:List X}
def ptr(b:Nat):Value:=.pointer (some ⟨b,0,none⟩)
def Xy(key:X→Int)(ad:Int→Nat)(l:List X):List (Int×Value):=l.map fun x=>(key x,ptr (ad (key x)))
structure Yn(key:X→Int)(Is:World→Fp→Nat→X→Prop)(w:World)(F:Fp)(m:Nat)(ad:Int→Nat)(l:List X):Prop where
 map:Xq w m (Xy key ad l)
 bd:Bd F w
 at_:F m
 ex:∃G:Int→Fp,(∀x∈l,Is w (G (key x)) (ad (key x)) x)∧(∀i k,G i k→F k∧k≠m)∧(∀i j k,G i k→G j k→i=j)
def Lg(key:X→Int)(x':X)(l:List X):List X:=l.map fun y=>if key y=key x' then x' else y
theorem Qcy(x':X)(l:List X):Xy key ad (Lg key x' l)=Xy key ad l:=by
 simp only[Xy,Lg,List.map_map];refine List.map_congr_left fun y _=>?_;simp only[Function.comp];split;·rename_i h;rw[h]
 ·rfl
theorem Qj4(l:List X):(Xy key ad l).map (·.1)=l.map key:=by simp[Xy]
theorem Yn.nodup(h:Yn key Is w F m ad l):(l.map key).Nodup:=by have:=h.map.nodup;rwa[Qj4]at this
theorem Qd7{k:Int}{v:Value}:∀{l:List (Int×Value)}{i:Nat},(l.map (·.1)).Nodup→(k,v)∈l→∃n,Oe k l i=some (n,v)
 |p::l,i,hn,c=>by
  simp only[List.map_cons,List.nodup_cons]at hn;rw[Oe];rcases Zu.1 c with rfl|c;·simp
  ·have:k≠p.1:=by rintro rfl;exact hn.1 (Z3.2 ⟨_,c,rfl⟩)
   rw[if_neg this];exact Qd7 hn.2 c
theorem Eh{k:Int}{v:Value}{l:List (Int×Value)}(hn:(l.map (·.1)).Nodup)(c:(k,v)∈l):look k l=some v:=by obtain⟨n,h⟩:=Qd7 (i:=0) hn c;simp[look,h]
theorem Sp{k:Int}{l:List (Int×Value)}(h:∀p∈l,p.1≠k):look k l=none:=by
 cases d:Oe k l 0 with
 |none=>simp[look,d]
 |some q=> obtain⟨n,v⟩:=q;obtain⟨j,_,u,c⟩:=U6 d;exact absurd rfl (h _ (List.mem_of_getElem? c))
def Hn(key:X→Int)(i:Int)(l:List X):Option X:=l.find? fun x=>decide (key x=i)
theorem Y3{i:Int}{x:X}(h:Hn key i l=some x):x∈l∧key x=i:=⟨List.mem_of_find?_eq_some h,by simpa using List.find?_some h⟩
theorem Lz{i:Int}(h:Hn key i l=none):∀x∈l,key x≠i:=by simpa[Hn]using h
theorem Ls{i:Int}{x:X}(hn:(l.map key).Nodup)(c:x∈l)(d:key x=i):Hn key i l=some x:=by
 induction l with
 |nil=>cases c
 |cons y l k=>
  simp only[List.map_cons,List.nodup_cons]at hn;unfold Hn;rw[List.find?_cons];rcases Zu.1 c with rfl|c;·simp[d]
  ·have:key y≠i:=by rintro rfl;exact hn.1 (Z3.2 ⟨_,c,d⟩)
   simp only[this,decide_false];exact k hn.2 c
theorem Yn.look(h:Yn key Is w F m ad l)(i:Int):look i (Xy key ad l)=(Hn key i l).map fun _=>ptr (ad i):=by
 cases ha:Hn key i l with
 |some x=> obtain⟨c,rfl⟩:=Y3 ha;rw[Eh h.map.nodup (v:=ptr (ad (key x))) (Z3.2 ⟨x,c,rfl⟩)];rfl
 |none=>
  rw[Sp];·rfl
  ·intro p d;obtain⟨x,c,rfl⟩:=Z3.1 d;exact Lz ha x c
theorem Yn.aB(u:Hf Is){S:Fp}(h:Yn key Is w F m ad l)(hc:Qc S w w')(d:Jl F S):Yn key Is w' F m ad l:=by obtain⟨G,h1,c,q⟩:=h.ex;exact⟨h.map.aB hc (d m h.at_),h.bd.later hc,h.at_,G,fun x B=>u.aB (h1 x B) hc (d.subL fun k z=>(c _ k z).1),c,q⟩
theorem Yn.more{F':Fp}(h:Yn key Is w F m ad l)(hs:∀k,F k→F' k)(u:Bd F' w):Yn key Is w F' m ad l:=by obtain⟨G,h1,c,q⟩:=h.ex;exact⟨h.map,u,hs m h.at_,G,h1,fun i k d=>⟨hs k (c i k d).1,(c i k d).2⟩,q⟩
theorem Qao{x x' y:X}(hn:(l.map key).Nodup)(c:y∈Lg key x' l):y=x'∨(y∈l∧key y≠key x'):=by
 obtain⟨z,d,rfl⟩:=Z3.1 c;by_cases h:key z=key x';·exact .inl (by simp[h])
 ·exact .inr (by simp[h,d])
theorem Yn.focus(J:Hf Is)(h:Yn key Is w F m ad l){x:X}(K:x∈l):
  ∃G:Fp,Is w G (ad (key x)) x∧(∀k,G k→F k∧k≠m)∧
   ∀w' x',key x'=key x→Is w' (Qn G w w') (ad (key x)) x'→Qc G w w'→Yn key Is w' (Qn F w w') m ad (Lg key x' l):=by
 obtain⟨G,h1,d,z⟩:=h.ex;have R:=h.map.lt;refine⟨G (key x),h1 x K,d _,fun w' x' B E hc=>⟨?_,h.bd.ext hc,.inl h.at_,fun i=>if i=key x then Qn (G (key x)) w w' else G i,?_,?_,?_⟩⟩;·rw[Qcy];exact h.map.aB hc fun c=>(d _ _ c).2 rfl
 ·intro y I;rcases Qao (x:=x) h.nodup I with rfl|⟨I,q⟩
  ·try dsimp only
   rw[B,if_pos rfl];exact E
  ·try dsimp only
   rw[if_neg (by rw[←B];exact q)];exact J.aB (h1 y I) hc fun k a b=>q ((z _ _ k a b).trans B.symm)
 ·intro i k c;try dsimp only at c
  split at c
  ·rcases c with c|c;·exact⟨.inl (d _ k c).1,(d _ k c).2⟩
   ·exact⟨.inr c,by omega⟩
  ·exact⟨.inl (d i k c).1,(d i k c).2⟩
 ·intro i j k a b;try dsimp only at a b
  split at a<;>split at b;·rename_i e1 u;rw[e1,u]
  ·rename_i e1 u;rcases a with a|a;·rw[e1];exact z _ _ k a b
   ·have:=h.bd k (d j k b).1;omega
  ·rename_i e1 u;rcases b with b|b;·rw[u];exact z _ _ k a b
   ·have:=h.bd k (d i k a).1;omega
  ·exact z _ _ k a b
theorem Yn.put(B:Hf Is)(h:Yn key Is w F m ad l){x:X}{N:Fp}{b:Nat}(I:Is w N b x)(z:Jl N F)(hn:Hn key (key x) l=none)
  (E:Xq w' m (Oi (key x) (ptr b) (Xy key ad l))) (hc:Qc (fun j=>j=m) w w'):
  Yn key Is w' (fun k=>F k∨N k) m (fun i=>if i=key x then b else ad i) (l++[x]):=by
 obtain⟨G,h1,u,K⟩:=h.ex;have d:=Lz hn;refine⟨?_,?_,.inl h.at_,fun i=>if i=key x then N else G i,?_,?_,?_⟩
 ·rw[Gw (fun p U=>by obtain⟨y,c,rfl⟩:=Z3.1 U;exact d y c)]at E;have:Xy key (fun i=>if i=key x then b else ad i) (l++[x])=Xy key ad l++[(key x,ptr b)]:=by simp only[Xy,List.map_append,List.map_cons,List.map_nil,if_true];congr 1;refine List.map_congr_left fun y c=>?_;rw[if_neg (d y c)]
  rw[this];exact E
 ·exact fun k R=>Nat.lt_of_lt_of_le (R.elim (h.bd k) (B.bd I k)) hc.size
 ·intro y c;rcases Zl.1 c with c|c
  ·try dsimp only
   rw[if_neg (d y c),if_neg (d y c)];exact B.aB (h1 y c) hc fun k a e=>(u _ k a).2 e
  ·obtain rfl:y=x:=by simpa using c
   try dsimp only
   rw[if_pos rfl,if_pos rfl];exact B.aB I hc fun k a e=>z k a (by subst e;exact h.at_)
 ·intro i k q;try dsimp only at q
  split at q;·exact⟨.inr q,fun e=>z k q (by subst e;exact h.at_)⟩
  ·exact⟨.inl (u i k q).1,(u i k q).2⟩
 ·intro i j k a b;try dsimp only at a b
  split at a<;>split at b;·rename_i e1 J;rw[e1,J]
  ·exact(z k a (u j k b).1).elim
  ·exact(z k b (u i k a).1).elim
  ·exact K _ _ k a b
def Kp(key:X→Int)(i:Int)(l:List X):List X:=l.filter fun x=>!decide (key x=i)
theorem Yn.del(q:Hf Is)(h:Yn key Is w F m ad l)(i:Int)(u:Xq w' m (Vu i (Xy key ad l)))(hc:Qc (fun j=>j=m) w w'):Yn key Is w' F m ad (Kp key i l):=by
 obtain⟨G,h1,c,d⟩:=h.ex;refine⟨?_,h.bd.later hc,h.at_,G,?_,c,d⟩
 ·have:Xy key ad (Kp key i l)=Vu i (Xy key ad l):=by simp only[Xy,Kp,Vu,List.filter_map];rfl
  rw[this];exact u
 ·intro y z;exact q.aB (h1 y (List.mem_filter.1 z).1) hc fun k a e=>(c _ k a).2 e
theorem Yn.new(k:Xq w m [])(d:Bd F w)(c:F m):Yn key Is w F m ad ([]:List X):=⟨k,d,c,fun _ _=>False,nofun,nofun,nofun⟩
end
section
variable{w:World}{b:Nat}{t:TypeId}{v0 v1 v2 v3 v4 v5 v6 v7 v8 v9 v10 v11 v12 v13:Value}
theorem Jf(h:Qh w b #[v0] t):w.cell? ⟨b,0,none⟩=some v0:=by rw[h.cell];rfl
theorem Q4(h:Qh w b #[v0,v1] t):w.cell? ⟨b,0,none⟩=some v0∧w.cell? ⟨b,1,none⟩=some v1:=by simp only[h.cell];exact⟨rfl,rfl⟩
theorem L6(h:Qh w b #[v0,v1,v2] t):w.cell? ⟨b,0,none⟩=some v0∧w.cell? ⟨b,1,none⟩=some v1∧w.cell? ⟨b,2,none⟩=some v2:=by simp only[h.cell];exact⟨rfl,rfl,rfl⟩
theorem X9(h:Qh w b #[v0,v1,v2,v3] t):w.cell? ⟨b,0,none⟩=some v0∧w.cell? ⟨b,1,none⟩=some v1∧w.cell? ⟨b,2,none⟩=some v2∧w.cell? ⟨b,3,none⟩=some v3:=by simp only[h.cell];exact⟨rfl,rfl,rfl,rfl⟩
theorem Ym(h:Qh w b #[v0,v1,v2,v3,v4] t):w.cell? ⟨b,0,none⟩=some v0∧w.cell? ⟨b,1,none⟩=some v1∧w.cell? ⟨b,2,none⟩=some v2∧w.cell? ⟨b,3,none⟩=some v3∧w.cell? ⟨b,4,none⟩=some v4:=by simp only[h.cell];exact⟨rfl,rfl,rfl,rfl,rfl⟩
theorem Lf(h:Qh w b #[v0,v1,v2,v3,v4,v5] t):w.cell? ⟨b,0,none⟩=some v0∧w.cell? ⟨b,1,none⟩=some v1∧w.cell? ⟨b,2,none⟩=some v2∧w.cell? ⟨b,3,none⟩=some v3∧w.cell? ⟨b,4,none⟩=some v4∧w.cell? ⟨b,5,none⟩=some v5:=by simp only[h.cell];exact⟨rfl,rfl,rfl,rfl,rfl,rfl⟩
theorem Ja(h:Qh w b #[v0,v1,v2,v3,v4,v5,v6,v7] t):w.cell? ⟨b,0,none⟩=some v0∧w.cell? ⟨b,1,none⟩=some v1∧w.cell? ⟨b,2,none⟩=some v2∧w.cell? ⟨b,3,none⟩=some v3∧w.cell? ⟨b,4,none⟩=some v4∧w.cell? ⟨b,5,none⟩=some v5∧w.cell? ⟨b,6,none⟩=some v6∧w.cell? ⟨b,7,none⟩=some v7:=by simp only[h.cell];exact⟨rfl,rfl,rfl,rfl,rfl,rfl,rfl,rfl⟩
theorem Av(h:Qh w b #[v0,v1,v2,v3,v4,v5,v6,v7,v8] t):w.cell? ⟨b,0,none⟩=some v0∧w.cell? ⟨b,1,none⟩=some v1∧w.cell? ⟨b,2,none⟩=some v2∧w.cell? ⟨b,3,none⟩=some v3∧w.cell? ⟨b,4,none⟩=some v4∧w.cell? ⟨b,5,none⟩=some v5∧w.cell? ⟨b,6,none⟩=some v6∧w.cell? ⟨b,7,none⟩=some v7∧w.cell? ⟨b,8,none⟩=some v8:=by simp only[h.cell];exact⟨rfl,rfl,rfl,rfl,rfl,rfl,rfl,rfl,rfl⟩
end
section
open Go.Shelf
def Le(T:Fp)(W c:World):Prop:=∀b o,T b→W.heap[b]? =some o→(o.isCells=true∨o.isWalk=true)→c.heap[b]? =some o
theorem Le.trans{T:Fp}{A B C}(h:Le T A B)(k:Le T B C):Le T A C:=fun b o d h1 c=>k b o d (h b o d h1 c) c
theorem Le.put{T:Fp}{w:World}(W:World)(l:Nat)(o u:Obj)(_:w.heap.size≤l)(h:W.heap[l]? =some o)(h1:o.isCells=false)(z:o.isWalk=false):Le T W (W.putObj l u):=by
 intro b q _ c k;have d:b≠l:=by rintro rfl;rw[h]at c;obtain rfl:=Zs c;rw[h1,z]at k;simp at k
 exact(World.grownBy.block (grownBy_putObj' W l u) b (Z2.1 c).1 (fun e=>d (Zs e))).trans c
theorem Le.chg{T S:Fp}{W W'}(h:Qc S W W')(d:∀k,T k→S k→False):Le T W W':=fun b o c h1 _=>h.heap h1 (fun hs=>d b c hs)
theorem Le.blk{T:Fp}{W W'}{b:Nat}{cs:Array Value}{t:TypeId}(h:Le T W W')(d:Qh W b cs t)(c:T b):Qh W' b cs t:=h b _ c d (.inl rfl)
theorem Yx{β:Type}(B b:Nat)(f:β→Array Value)(t:TypeId):OwnFrom B (fun s W=>Qh W b (f s) t):=fun s W k row hs d hr=>by refine(d.block b hs.lt (fun e=>?_)).trans hs;obtain⟨_,o,h1,c⟩:=hr b e.symm;rw[show W.heap[b]? =some (.cells (f s) t (0,0))from hs]at h1;obtain rfl:=Zs h1;cases c
theorem Dr{β:Type}{B:Nat}{S:Fp}{w:World}(q:w.heap.size≤B):OwnFrom B (fun(_:β)W=>Qc S w W):=fun s W d row hs c hr=>hs.grown c fun k e=>.inr (by have:=(hr k e).1;omega)
theorem Vg{B:Nat}{S:Fp}{W W'}(h:Qc S W W')(c:∀k,S k→k<B):KeepsFrom B W W':=⟨h.size,fun k o d h1 _=>h.heap h1 (fun hs=>by have:=c k hs;omega)⟩
theorem Ud{S:Fp}{w W}{D:Nat}(h:Qc S w W)(c:w.heap.size≤D)(hW:D<W.heap.size):Qc S w (W.putObj D (.deferred none)):=h.grown (grownBy_putObj' W D _) fun k e=>.inr (by cases e;exact c)
theorem Uc{W}{b D:Nat}{cs:Array Value}{t:TypeId}(h:Qh W b cs t)(c:W.heap[D]? =some (.deferred (some []))):Qh (W.putObj D (.deferred none)) b cs t:=by refine(World.grownBy.block (grownBy_putObj' W D _) b h.lt (fun e=>?_)).trans h;cases e;rw[show W.heap[b]? =some (.cells cs t (0,0))from h]at c;cases c
end
structure O1{X Y:Type}(ty:TypeId)(cells:X→Nat→Array Value)(pr:X→Y)(Is:World→Fp→Nat→Y→Prop)(w:World)(F:Fp)(b:Nat)(x:X):Prop where
 ex:∃p G,Qh w b (cells x p) ty∧Is w G p (pr x)∧∀k,G k→F k∧k≠b
 bd:Bd F w
 own:F b
section
variable{X Y:Type}{ty:TypeId}{cells:X→Nat→Array Value}{pr:X→Y}{Is:World→Fp→Nat→Y→Prop}{w w1 w2:World}{F:Fp}{b:Nat}{x:X}
theorem O1.obj(z:Hf Is):Hf (O1 ty cells pr Is) where
 bd:=fun h=>h.bd
 own:=fun h=>h.own
 aB:=fun h hc u=>by obtain⟨p,G,h1,q,c⟩:=h.ex;exact⟨⟨p,G,hc.blk h1 (u _ h.own),z.aB q hc (u.subL fun k d=>(c k d).1),c⟩,h.bd.later hc,h.own⟩
 more:=fun h hs B=>by obtain⟨p,G,h1,q,c⟩:=h.ex;exact⟨⟨p,G,h1,q,fun k d=>⟨hs k (c k d).1,(c k d).2⟩⟩,B,hs _ h.own⟩
theorem O1.made{p:Nat}{G:Fp}{x':X}(h:O1 ty cells pr Is w F b x)(u:∀k,G k→F k∧k≠b)(z:Hf Is)
  (hc:Qc G w w1)(hi:Is w1 (Qn G w w1) p (pr x'))(q:Qc (fun k=>k=b) w1 w2)(B:Qh w2 b (cells x' p) ty):O1 ty cells pr Is w2 (Qn F w w2) b x'∧Qc F w w2:=by
 have Xg:=h.bd b h.own;have c:Qc F w w2:=(hc.sub fun k d=>(u k d).1).aA (q.sub fun k d=>d▸h.own);refine⟨⟨⟨p,Qn G w w1,B,z.aB hi q ?_,?_⟩,h.bd.ext c,.inl h.own⟩,c⟩
 ·rintro k d rfl;rcases d with d|d;·exact(u _ d).2 rfl
  ·omega
 ·intro k d;rcases d with d|d;·exact⟨.inl (u k d).1,(u k d).2⟩
  ·exact⟨.inr ⟨d.1,Nat.lt_of_lt_of_le d.2 q.size⟩,by omega⟩
theorem O1.cell{p:Nat}{G:Fp}{x':X}(h:O1 ty cells pr Is w F b x)(z:Is w G p (pr x'))(u:∀k,G k→F k∧k≠b)(B:Hf Is)
  (q:Qc (fun k=>k=b) w w2) (E:Qh w2 b (cells x' p) ty):O1 ty cells pr Is w2 (Qn F w w2) b x'∧Qc F w w2:=by
 have c:Qc F w w2:=q.sub fun k d=>d▸h.own;exact⟨⟨⟨p,G,E,B.aB z q (fun k d e=>(u k d).2 e),fun k d=>⟨.inl (u k d).1,(u k d).2⟩⟩,h.bd.ext c,.inl h.own⟩,c⟩
theorem O1.new{p:Nat}{G:Fp}(hi:Is w2 G p (pr x))(q:∀k,G k→w.heap.size≤k)(u:Hf Is)(d:Qh w2 b (cells x p) ty)(z:w.heap.size≤b)(hn:¬G b):O1 ty cells pr Is w2 (Qn Qb w w2) b x:=
 ⟨⟨p,G,d,hi,fun k c=>⟨.inr ⟨q k c,u.bd hi k c⟩,fun e=>hn (e▸c)⟩⟩,fun k c=>c.elim (fun h=>h.elim) (fun h=>h.2),.inr ⟨z,d.lt⟩⟩
theorem Hf.same{Z:Type}{c:World→Fp→Nat→Z→Prop}(d:Hf c){z:Z}(h:c w F b z)(hc:Qc Qb w w1):c w1 (Qn F w w1) b z∧Qc F w w1:=
 ⟨d.more (d.aB h hc (Jl.none F)) (fun k q=>.inl q) ((d.bd h).ext (hc.none (F:=F))),hc.none⟩
theorem Hf.two{Z:Type}{c:World→Fp→Nat→Z→Prop}(q:Hf c){z:Z}(h:c w2 (Qn (Qn F w w1) w1 w2) b z)(u:Bd F w)(d:Qc F w w1)(k:Qc (Qn F w w1) w1 w2):c w2 (Qn F w w2) b z∧Qc F w w2:=
 ⟨q.more h (Qn.trans d.size k.size) (u.ext (d.ext k)),d.ext k⟩
end
abbrev Ya:=World→Fp→Prop
structure Uy(P:Ya):Prop where
 bd:∀{w F},P w F→Bd F w
 aB:∀{w w' F S},P w F→Qc S w w'→Jl F S→P w' F
 more:∀{w F F'},P w F→(∀k,F k→F' k)→Bd F' w→P w F'
def sep(P Q:Ya):Ya:=fun w F=>Bd F w∧∃G H,P w G∧Q w H∧Jl G H∧(∀k,G k→F k)∧∀k,H k→F k
def Oh:List Ya→Ya
 |[]=>fun w F=>Bd F w
 |P::L=>sep P (Oh L)
def Tv(b:Nat)(cs:Array Value)(t:TypeId):Ya:=fun w F=>Qh w b cs t∧F b∧Bd F w
def Qo8(m:Nat)(L:List (Int×Value)):Ya:=fun w F=>Xq w m L∧F m∧Bd F w
def Qvn(p:Prop):Ya:=fun w F=>p∧Bd F w
theorem Ks(b:Nat)(cs:Array Value)(t:TypeId):Uy (Tv b cs t) where
 bd:=fun h=>h.2.2
 aB:=fun h hc d=>⟨hc.blk h.1 (d b h.2.1),h.2.1,h.2.2.later hc⟩
 more:=fun h hs c=>⟨h.1,hs b h.2.1,c⟩
theorem Qhd(m:Nat)(L:List (Int×Value)):Uy (Qo8 m L) where
 bd:=fun h=>h.2.2
 aB:=fun h hc d=>⟨h.1.aB hc (d m h.2.1),h.2.1,h.2.2.later hc⟩
 more:=fun h hs c=>⟨h.1,hs m h.2.1,c⟩
theorem Qop(p:Prop):Uy (Qvn p) where
 bd:=fun h=>h.2
 aB:=fun h hc _=>⟨h.1,h.2.later hc⟩
 more:=fun h _ c=>⟨h.1,c⟩
theorem Qrl{P Q:Ya}(J:Uy P)(K:Uy Q):Uy (sep P Q) where
 bd:=fun h=>h.1
 aB:=fun⟨E,G,H,h1,q,u,c,d⟩hc I=>⟨E.later hc,G,H,J.aB h1 hc (I.subL c),K.aB q hc (I.subL d),u,c,d⟩
 more:=fun⟨E,G,H,h1,q,u,c,d⟩hs z=>⟨z,G,H,h1,q,u,fun k B=>hs k (c k B),fun k B=>hs k (d k B)⟩
theorem Qrk:Uy (Oh []) where
 bd:=fun h=>h
 aB:=fun h hc _=>Bd.later h hc
 more:=fun _ _ c=>c
theorem Je:∀{L:List Ya},(∀P∈L,Uy P)→Uy (Oh L)
 |[],_=>Qrk
 |P::L,h=>Qrl (h P (by simp)) (Je fun Q c=>h Q (by simp[c]))
theorem Qtk{X:Type}{P:X→Ya}(h:∀x,Uy (P x)):Uy (fun w F=>∃x,P x w F) where
 bd:=fun⟨x,c⟩=>(h x).bd c
 aB:=fun⟨x,c⟩hc k=>⟨x,(h x).aB c hc k⟩
 more:=fun⟨x,c⟩hs d=>⟨x,(h x).more c hs d⟩
theorem Hf.good{X:Type}{Is:World→Fp→Nat→X→Prop}(c:Hf Is)(b:Nat)(x:X):Uy (fun w F=>Is w F b x) where
 bd:=fun h=>c.bd h
 aB:=fun h hc k=>c.aB h hc k
 more:=fun h hs d=>c.more h hs d
section
variable{w w' w1 w2:World}{F:Fp}
def Qga(P:Ya)(W:Ya→Ya)(w:World)(F:Fp):Prop:=
 ∃G:Fp,P w G∧(∀k,G k→F k)∧Bd F w∧∀w' Q,Qc G w w'→Q w' (Qn G w w')→W Q w' (Qn F w w')
theorem Qsn{P Q:Ya}(I:Uy Q)(h:sep P Q w F):Qga P (fun q=>sep q Q) w F:=by obtain⟨c,G,H,h1,E,u,z,B⟩:=h;refine⟨G,h1,z,c,fun w' q hc J=>⟨c.ext hc,Qn G w w',H,J,I.aB E hc u.symm,Jl.extL u (c.sub B),fun k d=>Qn.mono z k d,fun k d=>.inl (B k d)⟩⟩
theorem Qp7{P Q R:Ya}{W:Ya→Ya}(I:Uy P)(h:sep P Q w F)(J:∀{H:Fp},Q w H→Qga R W w H):Qga R (fun d=>sep P (W d)) w F:=by obtain⟨q,G,H,h1,E,u,z,B⟩:=h;obtain⟨K,k1,k2,Z,V⟩:=J E;refine⟨K,k1,fun k c=>B k (k2 k c),q,fun w' d hc U=>⟨q.ext hc,G,Qn H w w',I.aB h1 hc (u.subR k2),V w' d hc U,Jl.extR u (q.sub z),fun k c=>.inl (z k c),fun k c=>Qn.mono B k c⟩⟩
theorem Xv:∀(i:Nat){L:List Ya}{P:Ya}{F:Fp},(∀Q∈L,Uy Q)→L[i]? =some P→Oh L w F→Qga P (fun c=>Oh (L.set i c)) w F
 |0,Q::L,P,F,hg,hi,h=>by
  obtain rfl:Q=P:=by simpa using hi
  exact Qsn (Je fun R d=>hg R (by simp[d])) h
 |i+1,Q::L,P,F,hg,hi,h=>Qp7 (W:=fun c=>Oh (L.set i c)) (hg Q (by simp)) h fun k=>Xv i (fun R d=>hg R (by simp[d])) (by simpa using hi) k
theorem Qga.get{P:Ya}{W:Ya→Ya}(h:Qga P W w F):∃G:Fp,P w G∧∀k,G k→F k:=by obtain⟨G,h1,c,_⟩:=h;exact⟨G,h1,c⟩
theorem J6{L:List Ya}{P:Ya}(c:∀Q∈L,Uy Q)(i:Nat)(hi:L[i]? =some P)(h:Oh L w F):∃G:Fp,P w G∧∀k,G k→F k:=(Xv i c hi h).get
theorem Qga.cells{b:Nat}{cs cs':Array Value}{t:TypeId}{W:Ya→Ya}(h:Qga (Tv b cs t) W w F)(hc:Qc (fun k=>k=b) w w')(B:Qh w' b cs' t):W (Tv b cs' t) w' (Qn F w w')∧Qc F w w':=by obtain⟨G,⟨h1,d,q⟩,u,I,z⟩:=h;have c:Qc G w w':=hc.sub fun k E=>E▸d;exact⟨z w' _ c ⟨B,.inl d,q.ext c⟩,c.sub u⟩
theorem Y6{P:Ya}(h:P w F)(d:Bd F w):Oh [P] w F:=⟨d,F,fun _=>False,h,fun k c=>c.elim,fun k _ c=>c,fun k c=>c,fun k c=>c.elim⟩
theorem Q7{P:Ya}{L:List Ya}{G H:Fp}(h1:P w G)(c:Oh L w H)(z:Jl G H)(d:∀k,G k→F k)(q:∀k,H k→F k)(u:Bd F w):Oh (P::L) w F:=⟨u,G,H,h1,c,z,d,q⟩
theorem Qr(k:Nat):Qn Qb w w1 k↔w.heap.size≤k∧k<w1.heap.size:=⟨fun h=>h.elim (fun h=>h.elim) id,.inr⟩
end
section
variable{P:Program}{w:World}{t kt e:TypeId}{b r:Nat}{l left:List (Int×Value)}
theorem Tc{X:Type}{q:X→Bool}{f:X→X}:∀{l:List X}{n:Nat},(∀x,l[n]? =some x→q x=false∧q (f x)=false)→(l.modify n f).filter q=l.filter q
 |[],n,_=>by simp
 |x::l,0,h=>by obtain⟨h1,c⟩:=h x rfl;simp[List.modify_cons,h1,c]
 |x::l,n+1,h=>by have k:=Tc (l:=l) (n:=n) (f:=f) (q:=q) fun y d=>h y (by simpa using d);simp only[List.modify_succ_cons,List.filter_cons,k]
theorem Qbt{k:Int}{v:Value}:∀{l left:List (Int×Value)},left.Sublist l→(∀p∈left,p.1≠k)→left.Sublist (Oi k v l)
 |[],left,h,_=>by have:left=[]:=List.sublist_nil.1 h;subst this;exact List.nil_sublist _
 |p::l,left,h,hn=>by
  rw[Oi];split
  ·rename_i c;cases h with
   |cons _ h=>exact .cons _ h
   |cons_cons _ h=>exact absurd c.symm (hn _ (by simp))
  ·cases h with
   |cons _ h=>exact .cons _ (Qbt h hn)
   |cons_cons _ h=>exact .cons_cons _ (Qbt h fun q d=>hn q (by simp[d]))
theorem Qbi(h:Kj w b r l left)(ht:P.underlying t=some (.map kt e))(hk:P.underlying kt=some (.int .i64))(k:Int)(v:Value)(E:∃p∈l,p.1=k)(ac:∀p∈left,p.1≠k):
  ∃w',(Instr.mapUpdate t (.map (some b)) (.int .i64 k) v).run P w=.ok () w'∧Kj w' b r (Oi k v l) left∧Qc (fun j=>j=b) w w':=by
 obtain⟨w',J,hM,hc⟩:=X6 (P:=P) h.map ht hk k v;refine⟨w',J,?_,hc⟩;obtain⟨z,d,c,h1,h2,h3,h4,h5,h6,h7,h8,h9⟩:=h;have hb:b<w.heap.size:=(Z2.1 h1).1;have af:w'.heap[r]? =some (.mapIter (some b) d c d):=hc.heap h6 (fun e=>h7 e);cases U:Oe k l 0 with
 |none=> obtain⟨p,ah,ai⟩:=E;exact absurd ai (Pa U p ah)
 |some q=>
  obtain⟨n,u⟩:=q;obtain⟨j,hj,Z,R⟩:=U6 U;obtain rfl:n=j:=by omega
  have aa:z.toList.length=l.length:=by simpa using congrArg List.length h2
  have hn:n<z.size:=by rw[←aa]at Z;simpa using Z
  have I:z[n].key=.int .i64 k:=by have:=congrArg (fun x=>x[n]?) h2;simp only[List.getElem?_map,R]at this;rw[Array.getElem?_toList,Array.getElem?_eq_getElem hn]at this;simpa using(congrArg Prod.fst (Zs this))
  have aj:((Instr.keyThatStays (((z[n]?).map (·.key)).getD (.int .i64 k)) (.int .i64 k)).run P w)=.ok (.int .i64 k) w:=by rw[Array.getElem?_eq_getElem hn];simp[I,Instr.keyThatStays,Instr.sameBits]
  have ak:w'={w with heap:=w.heap.setIfInBounds b (.map (z.modify n fun e=>{e with key:=.int .i64 k,val:=v}) d)}:=by have h0:=J;unfold Instr.mapUpdate at h0;simp only[Sem.run_bind,Qmp ht,Result.andThen_ok,Qkf h1,Ox hk,Dt hk k z.toList h2,U]at h0;simp only[aj,Result.andThen_ok,Qsm _ h1]at h0;injection h0 with _ h0;exact h0.symm
  have ag:w'.heap[b]? =some (.map (z.modify n fun e=>{e with key:=.int .i64 k,val:=v}) d):=by rw[ak];simp[hb]
  have K:(z.modify n fun e=>{e with key:=.int .i64 k,val:=v}).toList.map (·.born)=z.toList.map (·.born):=by
   refine List.ext_getElem? fun i=>?_;simp only[List.getElem?_map,Array.getElem?_toList,Array.getElem?_modify];split;·cases z[i]? <;>rfl
   ·rfl
  refine⟨_,d,c,ag,?_,?_,by rw[K];exact h4,?_,af,h7,?_,Qbt h9 ac⟩
  ·rw[Ry (i:=0) (j:=n) (u:=u) (by rw[U];simp)];refine List.ext_getElem? fun i=>?_;have V:=congrArg (fun x=>x[i]?) h2;simp only[List.getElem?_map,Array.getElem?_toList]at V;simp only[List.getElem?_map,Array.getElem?_toList,Array.getElem?_modify,List.getElem?_modify];by_cases E:n=i;·subst E;simp only[if_true,R,Array.getElem?_eq_getElem hn];simp
   ·simp only[E,if_false];simpa using V
  ·rw[Fa ⟨(k,u),List.mem_of_getElem? R,rfl⟩];exact h3
  ·intro x hx;obtain⟨i,hi⟩:=List.mem_iff_getElem?.1 hx;simp only[Array.getElem?_toList,Array.getElem?_modify]at hi;split at hi
   ·cases hy:z[i]? with
    |none=>rw[hy]at hi;cases hi
    |some y=> rw[hy]at hi;obtain rfl:=Zs hi;exact h5 y (List.mem_of_getElem? (by rw[Array.getElem?_toList];exact hy))
   ·exact h5 x (List.mem_of_getElem? (by rw[Array.getElem?_toList];exact hi))
  ·rw[←h8];have B:c.contains z[n].born=true:=by
    cases hs:c.contains z[n].born with
    |true=>rfl
    |false=>
     exfalso;have hm:z[n]∈(leftOf z c).toList:=by unfold leftOf;rw[Array.toList_filter];exact List.mem_filter.2 ⟨by simp,by show(!c.contains z[n].born)=true;rw[hs];rfl⟩
     have ab:=List.mem_map_of_mem (f:=fun e:MapEntry=>(e.key,e.val)) hm;rw[h8]at ab;obtain⟨p,U,ae⟩:=Z3.1 ab;simp only[Prod.mk.injEq]at ae;have e1:=ae.1;rw[I]at e1;injection e1 with _ e1;exact ac p U e1
   congr 1;unfold leftOf;simp only[Array.toList_filter,Array.toList_modify];refine Tc fun x hx=>?_;rw[Array.getElem?_toList,Array.getElem?_eq_getElem hn]at hx;obtain rfl:=Zs hx;exact⟨by show(!c.contains z[n].born)=false;rw[B];rfl,by show(!c.contains z[n].born)=false;rw[B];rfl⟩
end
end Go.Proofs.YtnnhmpehkbihnaaGreat
