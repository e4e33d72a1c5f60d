/- A part of the proof: no condition. -/
import Derived.Maps.AppendAt
import Derived.Laws.AppendOwnNone
import Derived.Laws.CopyRow
import Derived.Laws.IdiomCopy
import Derived.Test.YtnnhmpehkbihnaaGreatPk05
import Derived.RangeFuncBox
import Derived.RangeFuncLeaves
import Derived.RangeFuncStops
import Derived.RangeFuncMany
import Derived.Sort.MapsRangeIn
import Derived.Sort.KeysCollected
import Derived.Shelf.Abstract
import Derived.OwnWalkIn
import Derived.TacticsInMore
import Derived.RegionIn
import Derived.LoopNIn
import Derived.LoopIn
import Derived.RangeFuncWrites
import Derived.Outline
namespace Go.Proofs.YtnnhmpehkbihnaaGreat
set_option linter.unusedVariables false
set_option maxRecDepth 100000
set_option maxHeartbeats 4000000
open Go.RowKit
open Go.Proofs.Tryz
structure Qce{T:Type}(P:Program)(cells:T→List Value)(sz:Nat)(t e:TypeId)(bytes:Nat)(z0:T):Prop where
 ht:P.underlying t=some (.slice e)
 hi:∃i z,P.info? e=some i∧i.zero=some z∧i.size=sz∧i.bytes=bytes∧z.cells=(cells z0).toArray
 pos:0<sz
 hc:∀x,(cells x).length=sz
 one:∀x,∀u∈cells x,u.oneCell'=true
theorem Ee{P:Program}{e:TypeId}{d:Array Value}{sz bytes:Nat}(h:(P.info? e).map (fun i=>(i.zero.map (fun z=>z.cells),i.size,i.bytes))=some (some d,sz,bytes)):
  ∃i z,P.info? e=some i∧i.zero=some z∧i.size=sz∧i.bytes=bytes∧z.cells=d:=by
 cases hi:P.info? e with
 |none=>rw[hi]at h;cases h
 |some i=>
  rw[hi]at h;simp only[Zn,Option.some.injEq,Prod.mk.injEq]at h;obtain⟨h1,k,q⟩:=h;cases c:i.zero with
  |none=>rw[c]at h1;cases h1
  |some z=> rw[c]at h1;exact⟨i,z,rfl,c,k,q,by simpa using h1⟩
def Own{T:Type}(cells:T→List Value)(sz:Nat)(e:TypeId)(w:World)(v:Value)(l:List T):Prop:=
 w.ownsRow 0 e sz v l.length (Jm cells l)
section
variable{T:Type}{P:Program}{cells:T→List Value}{sz:Nat}{t e:TypeId}{bytes:Nat}{z0:T}
theorem Qc5(c:Qce P cells sz t e bytes z0)(l:List T):∀u∈Jm cells l,u.oneCell'=true:=by intro u d;obtain⟨x,_,k⟩:=List.mem_flatMap.1 d;exact c.one x u k
theorem Own.nil(cells:T→List Value)(sz:Nat)(e:TypeId)(w):Own cells sz e w (.slice none 0 0) ([]:List T):=⟨by simp[Jm],.inl ⟨rfl,rfl⟩⟩
theorem Own.aB{w w1}{v:Value}{l:List T}{S:Nat→Prop}(h:Own cells sz e w v l)(hc:Qc S w w1)(d:∀k,v.ownBlock=some k→¬S k):Own cells sz e w1 v l:=by
 obtain⟨h0,h⟩:=h;refine⟨h0,?_⟩;rcases h with h|⟨g,cap,c,rfl,q,u,r⟩;·exact .inl h
 ·exact .inr ⟨g,cap,c,rfl,q,hc.heap u (d g rfl),r⟩
theorem Own.lt{w}{v:Value}{l:List T}(h:Own cells sz e w v l):∀k,v.ownBlock=some k→k<w.heap.size:=by
 obtain⟨_,h⟩:=h;rcases h with⟨rfl,_⟩|⟨g,cap,d,rfl,u,q,r⟩;·intro k c;cases c
 ·intro k c;have:g=k:=by simpa[Value.ownBlock]using c
  subst this;exact(Z2.1 q).1
theorem Own.row(hc:∀x,(cells x).length=sz){w}{v:Value}{l:List T}(h:Own cells sz e w v l):∃a cap,v=.slice a l.length cap∧l.length≤cap∧(a=none→cap=0)∧Kb cells sz w a l:=by
 obtain⟨_,h⟩:=h;rcases h with⟨rfl,hl⟩|⟨g,cap,q,rfl,I,z,hn,d,E,c⟩;·have:l=[]:=List.eq_nil_of_length_eq_zero hl;subst this;exact⟨none,0,rfl,Zv _,fun _=>rfl,fun i hi=>absurd hi (by simp)⟩
 ·refine⟨some ⟨g,0,none⟩,cap,rfl,hn,by simp,fun i hi=>⟨g,0,rfl,fun j u k=>?_⟩⟩;have B:j<sz:=by have:=(Z1.1 k).1;rw[hc]at this;exact this
  have h1:(Jm cells l)[i*sz+j]? =some u:=by rw[Eb hc l i j hi B];exact k
  have Xg:i*sz+j<l.length*sz:=by have:(i+1)*sz≤l.length*sz:=Nat.mul_le_mul_right _ hi;rw[Nat.add_mul]at this;omega
  rw[←c,List.getElem?_take,if_pos Xg]at h1;simp only[World.cell?,z,Nat.zero_add];simpa using h1
theorem Own.cap{w}{v:Value}{l:List T}(h:Own cells sz e w v l):l.length≤maxLen:=by
 obtain⟨_,h⟩:=h;rcases h with⟨rfl,hl⟩|⟨g,cap,k,rfl,u,z,hn,d,q,c⟩;·rw[hl];exact Nat.zero_le _
 ·omega
theorem Qix(hc:∀x,(cells x).length=sz){w}{g o:Nat}{l:List T}(h:Kb cells sz w (some ⟨g,o,none⟩) l)(q:0<sz):
  ∀j u,(Jm cells l)[j]? =some u→w.cell? ((⟨g,o,none⟩:Addr).add j)=some u:=by
 intro j u z;have B:j<l.length*sz:=by have:=(Z1.1 z).1;rwa[Yh hc]at this
 have hi:j/sz<l.length:=by rw[Nat.div_lt_iff_lt_mul q];exact B
 have E:=Nat.mod_lt j q;have d:=Nat.div_add_mod j sz;rw[Nat.mul_comm]at d;obtain⟨I,J,k,c⟩:=h (j/sz) hi;simp only[Option.some.injEq,Addr.mk.injEq]at k;obtain⟨rfl,rfl,_⟩:=k;have:=c (j%sz) u (by
  rw[←Eb hc l (j/sz) (j%sz) hi E,d];exact z)
 rw[Nat.add_assoc,d]at this;rw[←this];unfold Addr.add;split;·rename_i h0;rw[h0];rfl
 ·rfl
variable{ops:Array Oper}{rest:List Oper}{o:Oper}{a:Act}{w:World}{Q:Exit→Act→World→Prop}
theorem Jj(u:Qce P cells sz t e bytes z0)(E:o.guard=none)(s x:Operand)
  (ho:o.op=.call {callee:=.builtin .append,args:=#[s,x],argTypes:=#[t,t]})
  (v:Value)(l:List T)(hs:a.eval s=v)(q:Own cells sz e w v l)
  (sa:Option Addr)(c:Nat)(l2:List T)(hx:a.eval x=.slice sa l2.length c)(aa:sa=none→c=0)(B:Kb cells sz w sa l2)
  (K:l.length+l2.length≤maxLen)(d:(l.length+l2.length)*bytes≤140737488355328)
  (h:∀v' w',Own cells sz e w' v' (l++l2)→Qc (fun k=>v.ownBlock=some k) w w'→(v'.ownBlock=v.ownBlock∨v'.ownBlock=some w.heap.size)→wpList P ops Q rest (a.put o.dst v') w'):
  wpList P ops Q (o::rest) a w:=by
 obtain⟨i,z,hi,hz,V,R,ab⟩:=u.hi;have Z:z.cells.size=sz:=by rw[ab];simp[u.hc]
 have fin:∀v' w',w'.ownsRow 0 e sz v' (l.length+l2.length) (Jm cells l++Jm cells l2)→w.grownBy w' v.ownBlock→(v'.ownBlock=v.ownBlock∨v'.ownBlock=some w.heap.size)→wpList P ops Q rest (a.put o.dst v') w':=by intro v' w' h1 I J;refine h v' w' ?_ ((Zg _ _).grown I fun k hk=>.inl hk) J;unfold Own;rw[Ge,List.length_append];exact h1
 by_cases U:l2=[]
 ·subst U;cases sa with
  |none=> obtain rfl:=aa rfl;refine wpList_append_own_none E s x t ho 0 e i sz u.ht hi v l.length (Jm cells l) hs q hx ?_;exact h v w (by simpa using q) (Zg _ _) (.inl rfl)
  |some ad=> refine wpList_append_own_at _ E s x t ho 0 e i z sz bytes u.ht hi hz V R Z u.pos v l.length (Jm cells l) hs q ad 0 c [] hx (by simp) (by simp) (by simp) (by simpa using K) (by simpa using d) (Nat.zero_le _) ?_;intro v' w' h1 I _ J;exact fin v' w' (by simpa[Jm]using h1) I J
 ·obtain⟨g,off,rfl,_⟩:=B 0 (List.length_pos_iff.2 U);refine wpList_append_own_at _ E s x t ho 0 e i z sz bytes u.ht hi hz V R Z u.pos v l.length (Jm cells l) hs q ⟨g,off,none⟩ l2.length c (Jm cells l2) hx
   (Yh u.hc l2) (Qix u.hc B u.pos) (Qc5 u l2) K d (Nat.zero_le _) ?_
  intro v' w' h1 I _ J;exact fin v' w' h1 I J
theorem Dy(B:Qce P cells sz t e bytes z0)(ag:o.guard=none)(d s:Operand)
  (ho:o.op=.call {callee:=.builtin .copy,args:=#[d,s],argTypes:=#[t,t]})
  (dp sp:Option Addr)(q E u U:Nat)(hd:a.eval d=.slice dp q E)(hs:a.eval s=.slice sp u U)
  (g off:Nat)(L:List T)(te:TypeId)(hg:RowBlk cells w g L te)(c:List T)(hn:c.length=Nat.min u q)
  (af:0<c.length→dp=some ⟨g,off*sz,none⟩)(ab:Kb cells sz w sp c)(I:off+c.length≤L.length)
  (h:∀w',RowBlk cells w' g (L.take off++c++L.drop (off+c.length)) te→Qc (fun k=>k=g) w w'→wpList P ops Q rest (a.put o.dst (.int .i64 c.length)) w'):
  wpList P ops Q (o::rest) a w:=by
 obtain⟨i,z,hi,hz,ah,ai,aj⟩:=B.hi;refine wpList_plain ag fun K hK=>?_;by_cases h0:c=[]
 ·subst h0;have Z:Nat.min u q=0:=by simpa using hn.symm
  have hl:∀(x:Addr),(loadCells x 0).run P w=.ok #[] w:=fun x=>by simpa using run_loadCells_list (P:=P) w x [] (by simp)
  have R:(Builtin.copy_ #[t,t] o.type #[.slice dp q E,.slice sp u U]).run P w=.ok (goInt 0) w:=by cases dp<;>cases sp<;>simp[Builtin.copy_,run_underlying B.ht,Builtin.lenOf,Builtin.firstCells,sizeOf,typeInfo,hi,Z,storeCells,hl]
  unfold Oper.wp;simp[execOp,ho,resolve,invoke,builtin,hd,hs,R,Result.andThen];exact hK _ _ (h w (by simpa using hg) (Zg _ _))
 ·have V:=List.length_pos_iff.2 h0;obtain⟨g2,o2,rfl,_⟩:=ab 0 V;obtain rfl:=af V;have J:=run_loadCells_list (P:=P) w ⟨g2,o2,none⟩ (Jm cells c) (Qix B.hc ab B.pos);rw[Yh B.hc]at J;have ae:=Yh B.hc L;have aa:(off+c.length)*sz≤L.length*sz:=Nat.mul_le_mul_right _ I;rw[Nat.add_mul]at aa;have ac:=run_storeCells_at P g (off*sz) te (Jm cells c) 0 (Jm cells L).toArray w hg (by rw[Yh B.hc];simp[ae];omega) (Qc5 B c);have R:(Builtin.copy_ #[t,t] o.type #[.slice (some ⟨g,off*sz,none⟩) q E,.slice (some ⟨g2,o2,none⟩) u U]).run P w=
    .ok (goInt c.length) (w.setRow g ((Jm cells L).take (off*sz)++Jm cells c++(Jm cells L).drop (off*sz+(Jm cells c).length)).toArray):=by
   simp only[Nat.add_zero]at ac;simp[Builtin.copy_,run_underlying B.ht,Builtin.lenOf,Builtin.firstCells,sizeOf,typeInfo,hi,ah,←hn,J,ac]
  unfold Oper.wp;simp[execOp,ho,resolve,invoke,builtin,hd,hs,R,Result.andThen];refine hK _ _ (h _ ?_ ⟨rfl,rfl,rfl,by simp[World.setRow],fun k _ hk=>setRow_other w g k _ hk⟩);have e1:(Jm cells L).take (off*sz)++Jm cells c++(Jm cells L).drop (off*sz+(Jm cells c).length)=Jm cells (L.take off++c++L.drop (off+c.length)):=by
   rw[Ge,Ge,Wn B.hc,Yh B.hc,←Nat.add_mul];congr 1;have e3:Jm cells L=Jm cells (L.take (off+c.length))++Jm cells (L.drop (off+c.length)):=by rw[←Ge,List.take_append_drop]
   rw[e3,List.drop_append,List.drop_of_length_le (by rw[Yh B.hc,List.length_take,Nat.min_eq_left I];exact Zv _),Yh B.hc,List.length_take,Nat.min_eq_left I];simp
  rw[←List.append_assoc,e1];exact setRow_heap w g _ _ te _ hg
theorem Qal(hc:∀x,(cells x).length=sz)(z0:T)(n:Nat):madeCells (cells z0).toArray (n*sz)=(Jm cells (List.replicate n z0)).toArray:=by
 apply Array.ext;·simp[madeCells,Yh hc]
 ·intro i h1 E;have hi:i<n*sz:=by simpa[madeCells]using h1
  have u:0<sz:=by
   rcases Nat.eq_zero_or_pos sz with h|h;·subst h;simp at hi
   ·exact h
  have B:i/sz<n:=by rw[Nat.div_lt_iff_lt_mul u];exact hi
  have q:=Nat.mod_lt i u;have k:=Nat.div_add_mod i sz;rw[Nat.mul_comm]at k;have d:=Eb hc (List.replicate n z0) (i/sz) (i%sz) (by simpa using B) q;rw[k]at d;simp only[List.getElem_replicate]at d;have c:i%sz<(cells z0).length:=by rw[hc];exact q
  rw[List.getElem?_eq_getElem c]at d;have z:=(Z1.1 d).2;simp only[madeCells,Array.getElem_map,Array.getElem_range,List.size_toArray,hc,List.getElem_toArray];rw[z];simp[c]
theorem Gi(c:Qce P cells sz t e bytes z0)(n:Nat)(E:bytes*n≤281474976710656)(hn:n≤9223372036854775807)(w):
  (Instr.makeSlice t (.int .i64 n) (.int .i64 n)).run P w=.ok (.slice (some ⟨w.heap.size,0,none⟩) n n) (w.alloc (.cells (Jm cells (List.replicate n z0)).toArray e)):=by
 obtain⟨i,z,hi,B,q,k,u⟩:=c.hi;have d:(i.bytes:Int)*(n:Int)≤281474976710656:=by
  have h:((bytes*n:Nat):Int)≤281474976710656:=by omega
  rw[k];rwa[Int.natCast_mul]at h
 have hr:=run_make (P:=P) w t e i z c.ht hi B .i64 .i64 n n (by omega) (by omega) d (by omega);simp only[Int.toNat_natCast]at hr;rw[hr,u,q,Qal c.hc]
end
section
variable{P:Program}{ops:Array Oper}{Q:Exit→Act→World→Prop}{C:World→Prop}
def pick(ops:Array Oper):List Nat→List Oper
 |[]=>[]
 |i::is=>match ops[i]? with
  |some o=>o::pick ops is
  |none=>pick ops is
theorem Df{i:Nat}{is:List Nat}{o:Oper}(h:ops[i]? =some o):pick ops (i::is)=o::pick ops is:=by simp[pick,h]
def Iv(ops:Array Oper):List Nat→Array Bool→Bool
 |[],listed=>(Region.ready .any ops listed).isEmpty
 |k::ks,listed=>decide (Region.ready .any ops listed=[k])&&Iv ops ks (listed.setIfInBounds k true)
theorem Cz{k:Nat}{d:List Nat}{c:Array Bool}(h:Iv ops (k::d) c=true):Region.ready .any ops c=[k]∧(∃o,ops[k]? =some o)∧Iv ops d (c.setIfInBounds k true)=true:=by simp only[Iv,Zw,decide_eq_true_eq]at h;obtain⟨_,o,q,_⟩:=mem_ready.1 (show k∈Region.ready .any ops c by rw[h.1];simp);exact⟨h.1,⟨o,q⟩,h.2⟩
theorem Qd2{late:Nat→Bool}:∀(d:List Nat)(c:Array Bool)(a:Act)(w),(∀j∈d,late j=true)→Iv ops d c=true→
  wpList P ops Q (pick ops d) a w→Ld P ops Q C late d.length c a w
 |[],c,a,w,_,hB,h=>⟨by simpa[Iv]using hB,h⟩
 |k::d,c,a,w,hl,hB,h=>by
  obtain⟨h1,⟨o,h0⟩,q⟩:=Cz hB;refine⟨fun z=>(by rw[h1]at z;cases z),fun i hi=>?_⟩;rw[h1]at hi;have u:i=k:=by simpa using hi
  subst u;rw[Df h0]at h;have I:wpOp P ops Q i (wpList P ops Q (pick ops d)) a w:=by unfold wpOp;simp only[h0];exact h
  exact wpOp_mono (fun B w' h'=>⟨fun h=>(by rw[hl i (by simp)]at h;cases h),Qd2 d _ B w' (fun j E=>hl j (by simp[E])) q h'⟩) I
theorem Mg{late:Nat→Bool}{u:List Nat}(d:∀j∈u,late j=true):
  ∀(q:List Nat)(c:Array Bool)(a:Act)(w),Iv ops (q++u) c=true→
  Jd P ops Q C (pick ops u) (pick ops q) a w→Ld P ops Q C late (q.length+u.length) c a w
 |[],c,a,w,hB,h=>by rw[List.length_nil,Nat.zero_add];exact Qd2 u c a w d hB h
 |k::q,c,a,w,hB,h=>by
  obtain⟨h1,⟨o,h0⟩,z⟩:=Cz hB;have e:(k::q).length+u.length=(q.length+u.length)+1:=by simp;omega
  rw[e];rw[Df h0]at h;refine⟨fun E=>(by rw[h1]at E;cases E),fun i hi=>?_⟩;rw[h1]at hi;have B:i=k:=by simpa using hi
  subst B;refine wpOp_mono (fun I w' h'=>⟨fun _=>h'.1,?_⟩) (Ko h0 h);exact Mg d q _ I w' z h'.2
def Qak(ops:Array Oper)(rest:List Nat):List Nat→Array Bool→Bool
 |[],listed=>Iv ops rest listed
 |k::ks,listed=>(Region.ready .any ops listed).contains k&&Region.free .any ops listed k&&((ops[k]?).map (·.dst.isSome)).getD false&&Qak ops rest ks (listed.setIfInBounds k true)
def Nb(ops:Array Oper)(c rest:List Nat):List Nat→Array Bool→Bool
 |[],listed=>Qak ops rest c listed
 |k::ks,listed=>(Region.ready .any ops listed).contains k&&Region.free .any ops listed k&&((ops[k]?).map W9).getD false&&Nb ops c rest ks (listed.setIfInBounds k true)
def Qvm(ops:Array Oper)(cs ls d c:List Nat):Bool:=
 Region.noSelect ops&&decide (cs.length+(ls.length+(d.length+c.length))=ops.size)&&(c.all fun t=>ls.all fun h=>Xs ops ops.size t h)&&Nb ops ls (d++c) cs (Array.replicate ops.size false)
theorem Qd3{ls I B:List Nat}(z:Region.noSelect ops=true)(hn:∀t∈B,∀h∈ls,Xs ops ops.size t h=true)
  (hQ:∀c(a:Act)(d:Tmp)v w,Q (.panic c) (a.put (some d) v) w→Q (.panic c) a w):
  ∀(u:List Nat)(q:Array Bool)(a:Act)(w),(∀k∈u,k∈ls)→Xj ops q→C w→
   Qak ops (I++B) u q=true→Yt P ops C (fun J=>∀w',C w'→Jd P ops Q C (pick ops B) (pick ops I) J w') (pick ops u) a→
   Ld P ops Q C (fun j=>decide (j∈B)) (u.length+(I.length+B.length)) q a w
 |[],q,a,w,_,hcl,hC,hB,h=>by simp only[List.length_nil,Nat.zero_add];exact Mg (fun j R=>by simpa using R) I q a w (by simpa[Qak]using hB) (h w hC)
 |k::u,q,a,w,hsub,hcl,hC,hB,h=>by
  simp only[Qak,Zw]at hB;obtain⟨⟨⟨hr,hf⟩,K⟩,V⟩:=hB;have E:k∈Region.ready .any ops q:=by simpa using hr
  obtain⟨_,o,h0,_⟩:=mem_ready.1 E;rw[h0]at K;simp only[Zn,Option.getD_some]at K;obtain⟨d,K⟩:=Option.isSome_iff_exists.1 K;rw[Df h0]at h;have Z:∃v,YieldsIf P ops C o v a∧Yt P ops C (fun J=>∀w',C w'→Jd P ops Q C (pick ops B) (pick ops I) J w') (pick ops u) (a.put o.dst v):=by
   simp only[Yt]at h;by_cases U:Region.wanted o (yielded ops a.tmps)=true;·simp only[U,if_true]at h;obtain⟨v,h1,h2⟩:=h;exact⟨v,.inl ⟨U,h1⟩,h2⟩
   ·simp only[U]at h;exact⟨undef,.inr ⟨by simpa using U,rfl⟩,h⟩
  obtain⟨v,Z,hK⟩:=Z;have e:(k::u).length+(I.length+B.length)=(u.length+(I.length+B.length))+1:=by simp;omega
  rw[e];refine Pi (F:=ops.size) h0 (Region.noSelect_spec z) (fun c J w' hq=>by rw[K]at hq;exact hQ c J d _ w' hq) (fun j oj R hT=>hn j (by simpa using hT) k (hsub k (by simp))) _ q a w hcl (Region.free_spec h0 hf) E Z hC
   (Qd3 z hn hQ u _ _ w (fun j R=>hsub j (by simp[R])) (hcl.set E) hC V hK)
theorem Qa3{ls R E:List Nat}(u:Region.noSelect ops=true)(hn:∀t∈E,∀h∈ls,Xs ops ops.size t h=true)
  (hQ:∀c(a:Act)(d:Tmp)v w,Q (.panic c) (a.put (some d) v) w→Q (.panic c) a w):
  ∀(B:List Nat)(q:Array Bool)(a:Act)(w),Xj ops q→C w→
   Nb ops ls (R++E) B q=true→Yt P ops C (fun z=>Yt P ops C (fun z=>∀w',C w'→Jd P ops Q C (pick ops E) (pick ops R) z w') (pick ops ls) z) (pick ops B) a→
   wpAny P .any ops Q (B.length+(ls.length+(R.length+E.length))) q a w
 |[],q,a,w,hcl,hC,hB,h=>by simp only[List.length_nil,Nat.zero_add];refine Pj (C:=C) (late:=fun j=>decide (j∈E)) _ _ _ _ ?_;exact Qd3 u hn hQ ls q a w (fun _ h=>h) hcl hC (by simpa[Nb]using hB) h
 |k::B,q,a,w,hcl,hC,hB,h=>by
  simp only[Nb,Zw]at hB;obtain⟨⟨⟨hr,hf⟩,J⟩,aa⟩:=hB;have K:k∈Region.ready .any ops q:=by simpa using hr
  obtain⟨_,o,h0,_⟩:=mem_ready.1 K;rw[h0]at J;rw[Df h0]at h;simp only[Zn,Option.getD_some]at J;obtain⟨ae,op,I,pos,after,Z⟩:=o;obtain⟨d,x,e1,e2,e3⟩:=Fz J;dsimp only at e1 e2 e3;subst e1 e2 e3;have V:Yields P ops ⟨some d,.move x,I,pos,after,none⟩ (a.eval x) a:=.inl ⟨rfl,fun w'=>rfl⟩;have U:(k::B).length+(ls.length+(R.length+E.length))=(B.length+(ls.length+(R.length+E.length)))+1:=by simp;omega
  rw[U];refine wpAny_first (md:=.any) h0 (Region.noSelect_spec u) (fun c z w' hq=>hQ c z d _ w' hq) _ q a w (Region.free_spec h0 hf) K V ?_;refine Qa3 u hn hQ B _ _ w (hcl.set K) hC aa ?_;have h':Qp P ⟨some d,.move x,I,pos,after,none⟩ a C (Yt P ops C (fun z=>Yt P ops C (fun z=>∀w',C w'→Jd P ops Q C (pick ops E) (pick ops R) z w') (pick ops ls) z) (pick ops B)):=h;obtain⟨v,hv,hK⟩:=h';have ab:=hv w hC;have ac:a.eval x=v:=by injection ab with h1 _;injection h1
  rw[ac];exact hK
theorem Qu{id:Nat}{a:Act}{w}{l:List Oper}(cs ls K I:List Nat)(G:World→World)(Z:P.follows .mixedOrders=true)(J:Qvm l.toArray cs ls K I=true)
  (U:∀c(a:Act)(d:Tmp)v w,Q (.panic c) (a.put (some d) v) w→Q (.panic c) a w)(R:∃x,w.drew=G x)
  (h:Yt P l.toArray (fun w'=>∃x,w'=G x) (fun u=>Yt P l.toArray (fun w'=>∃x,w'=G x) (fun u=>∀w',(∃x,w'=G x)→Jd P l.toArray Q (fun w'=>∃x,w'=G x) (pick l.toArray I) (pick l.toArray K) u w') (pick l.toArray ls) u) (pick l.toArray cs) a):
  (Code.region id l.toArray true).wp P Q a w:=by
 simp only[Qvm,Zw,decide_eq_true_eq]at J;obtain⟨⟨⟨q,k⟩,E⟩,B⟩:=J;refine wp_region_any Z ?_;have z:Xj l.toArray (Array.replicate l.toArray.size false):=fun j oj _ hl=>by rw[getD_replicate_false]at hl;cases hl
 have hn:∀t∈I,∀h∈ls,Xs l.toArray l.toArray.size t h=true:=fun t ht h V=>List.all_eq_true.1 (List.all_eq_true.1 E t ht) h V;have:=Qa3 (P:=P) (ops:=l.toArray) (C:=fun w'=>∃x,w'=G x) (Q:=Q) q hn U cs _ a _ z R B h;rw[k]at this;exact this
end
section
variable{T:Type}{P:Program}{cells:T→List Value}{sz:Nat}{t e:TypeId}{bytes:Nat}{z0:T}{w:World}
end
noncomputable def Qz(S:Nat→Prop)(w x:World):World:=by
 classical
 exact{heap:=((Array.range (max w.heap.size x.heap.size)).map fun k=>if k<w.heap.size∧¬S k then w.heap.getD k (.cells #[] 0)else x.heap.getD k (w.heap.getD k (.cells #[] 0))),tape:=w.tape,drawn:=x.drawn,os:=w.os,output:=w.output}
theorem Qd{S:Nat→Prop}{w w'}(h:Qc S w w'):∃x,w'=Qz S w x:=by
 classical
 refine⟨w',?_⟩;have d:=h.size;cases w' with
 |mk c tape u os output=>
  simp only at d;have e:c=((Array.range (max w.heap.size c.size)).map fun k=>if k<w.heap.size∧¬S k then w.heap.getD k (.cells #[] 0)else c.getD k (w.heap.getD k (.cells #[] 0))):=by
   rw[Nat.max_eq_right d];apply Array.ext_getElem?;intro k;by_cases z:k<c.size
   ·simp only[Array.getElem?_map,Array.getElem?_range,z,if_true,Zn];split;·rename_i q;have:=h.block k q.1 q.2;simp only at this;rw[this,Array.getElem?_eq_getElem q.1];simp[Array.getD,q.1]
    ·rw[Array.getElem?_eq_getElem z];simp
   ·rw[Array.getElem?_eq_none (by omega),Array.getElem?_eq_none (by simp;omega)]
  unfold Qz;simp only[World.mk.injEq];exact⟨e,h.tape,trivial,h.os,h.output⟩
theorem Qv(S:Nat→Prop)(w x):Qc S w (Qz S w x):=by
 classical
 refine⟨rfl,rfl,rfl,by unfold Qz;simp;omega,fun k c d=>?_⟩;unfold Qz;simp only[Array.getElem?_map,Array.getElem?_range];rw[if_pos (by omega)];simp only[Zn,c,d,not_false_eq_true,and_self,if_true];rw[Array.getElem?_eq_getElem c];simp[Array.getD,c]
section
variable{P:Program}{ops:Array Oper}{Q:Exit→Act→World→Prop}{C:World→Prop}
def Fh(P:Program)(ops:Array Oper)(Q:Exit→Act→World→Prop)(C:World→Prop)(late:List Oper)(c:List Oper):Nat→List Nat→Act→World→Prop
 |0,_,a,w=>Jd P ops Q C late c a w
 |n+1,is,a,w=>∀i∈is,∀o,ops[i]? =some o→wpList P ops (Exit.then (fun d w'=>C w'∧Fh P ops Q C late c n (is.erase i) d w') Q) [o] a w
theorem Qb6{late c:List Oper}{j:Nat}{d:Oper}(q:ops[j]? =some d):Fh P ops Q C late c 1 [j]=fun a w=>wpList P ops (Exit.then (fun B w'=>C w'∧Jd P ops Q C late c B w') Q) [d] a w:=by
 funext a w;apply propext;constructor;·intro h;exact h j (by simp) d q
 ·intro h k u o z;simp only[Zu,List.not_mem_nil,or_false]at u;subst u;rw[q]at z;obtain rfl:=Zs z;exact h
theorem Qmy{late c:List Oper}{i j:Nat}{z B:Oper}{a:Act}{w}(u:i≠j)(hi:ops[i]? =some z)(E:ops[j]? =some B)
  (h1:wpList P ops (Exit.then (fun d w'=>C w'∧wpList P ops (Exit.then (fun d w'=>C w'∧Jd P ops Q C late c d w') Q) [B] d w') Q) [z] a w)
  (K:wpList P ops (Exit.then (fun d w'=>C w'∧wpList P ops (Exit.then (fun d w'=>C w'∧Jd P ops Q C late c d w') Q) [z] d w') Q) [B] a w):Fh P ops Q C late c 2 [i,j] a w:=by
 have e1:[i,j].erase i=[j]:=by simp
 have J:[i,j].erase j=[i]:=by rw[List.erase_cons_tail (by simpa using u)];simp
 intro k I o q;simp only[Zu,List.not_mem_nil,or_false]at I;rcases I with rfl|rfl;·rw[hi]at q;obtain rfl:=Zs q;rw[e1,Qb6 E];exact h1
 ·rw[E]at q;obtain rfl:=Zs q;rw[J,Qb6 hi];exact K
def Qgf(ops:Array Oper)(c d:List Nat):Nat→List Nat→Array Bool→Bool
 |0,_,listed=>Iv ops (c++d) listed
 |n+1,is,listed=>decide (Region.ready .any ops listed=is)&&!is.isEmpty&&is.all fun i=>(ops[i]?).isSome&&Qgf ops c d n (is.erase i) (listed.setIfInBounds i true)
theorem Qd1{late:Nat→Bool}{k q:List Nat}(d:∀j∈q,late j=true):∀(n:Nat)(is:List Nat)(c:Array Bool)(a:Act)(w),Qgf ops k q n is c=true→
  Fh P ops Q C (pick ops q) (pick ops k) n is a w→Ld P ops Q C late (n+(k.length+q.length)) c a w
 |0,is,c,a,w,hB,h=>by rw[Nat.zero_add];exact Mg d k c a w (by simpa[Qgf]using hB) h
 |n+1,is,c,a,w,hB,h=>by
  simp only[Qgf,Zw,decide_eq_true_eq]at hB;obtain⟨⟨h1,B⟩,u⟩:=hB;have e:n+1+(k.length+q.length)=(n+(k.length+q.length))+1:=by omega
  rw[e];refine⟨fun E=>(by rw[h1]at E;subst E;simp at B),fun i hi=>?_⟩;rw[h1]at hi;have I:=List.all_eq_true.1 u i hi;simp only[Zw]at I;obtain⟨K,z⟩:=I;obtain⟨o,h0⟩:=Option.isSome_iff_exists.1 K;refine wpOp_mono (fun J w' h'=>⟨fun _=>h'.1,?_⟩) (Ko h0 (h i hi o h0));exact Qd1 d n (is.erase i) _ J w' z h'.2
def Qaj(ops:Array Oper)(fin:Array Bool→Bool):List Nat→Array Bool→Bool
 |[],listed=>fin listed
 |k::ks,listed=>(Region.ready .any ops listed).contains k&&Region.free .any ops listed k&&((ops[k]?).map (·.dst.isSome)).getD false&&Qaj ops fin ks (listed.setIfInBounds k true)
theorem Qa4{m:Nat}{fin:Array Bool→Bool}{late:Nat→Bool}{ls:List Nat}{K:Act→World→Prop}(B:Region.noSelect ops=true)(hn:∀t,late t=true→∀h∈ls,Xs ops ops.size t h=true)
  (Z:∀c(a:Act)(d:Tmp)v w,Q (.panic c) (a.put (some d) v) w→Q (.panic c) a w)(z:∀q a w,fin q=true→K a w→Ld P ops Q C late m q a w):
  ∀(u:List Nat)(q:Array Bool)(a:Act)(w),(∀k∈u,k∈ls)→Xj ops q→C w→
   Qaj ops fin u q=true→Yt P ops C (fun I=>∀w',C w'→K I w') (pick ops u) a→
   Ld P ops Q C late (u.length+m) q a w
 |[],q,a,w,hsub,hcl,hC,hB,h=>by simp only[List.length_nil,Nat.zero_add];exact z q a w (by simpa[Qaj]using hB) (h w hC)
 |k::u,q,a,w,hsub,hcl,hC,hB,h=>by
  simp only[Qaj,Zw]at hB;obtain⟨⟨⟨hr,hf⟩,J⟩,U⟩:=hB;have E:k∈Region.ready .any ops q:=by simpa using hr
  obtain⟨_,o,h0,_⟩:=mem_ready.1 E;rw[h0]at J;simp only[Zn,Option.getD_some]at J;obtain⟨d,J⟩:=Option.isSome_iff_exists.1 J;rw[Df h0]at h;have V:∃v,YieldsIf P ops C o v a∧Yt P ops C (fun I=>∀w',C w'→K I w') (pick ops u) (a.put o.dst v):=by
   simp only[Yt]at h;by_cases R:Region.wanted o (yielded ops a.tmps)=true;·simp only[R,if_true]at h;obtain⟨v,h1,h2⟩:=h;exact⟨v,.inl ⟨R,h1⟩,h2⟩
   ·simp only[R]at h;exact⟨undef,.inr ⟨by simpa using R,rfl⟩,h⟩
  obtain⟨v,V,hK⟩:=V;have e:(k::u).length+m=(u.length+m)+1:=by simp;omega
  rw[e];refine Pi (F:=ops.size) h0 (Region.noSelect_spec B) (fun c I w' hq=>by rw[J]at hq;exact Z c I d _ w' hq) (fun j oj hj hT=>hn j hT k (hsub k (by simp))) _ q a w hcl (Region.free_spec h0 hf) E V hC
   (Qa4 B hn Z z u _ _ w (fun j hj=>hsub j (by simp[hj])) (hcl.set E) hC U hK)
def Qve(ops:Array Oper)(ls c k d:List Nat):Bool:=
 Region.noSelect ops&&decide (ls.length+(c.length+(k.length+d.length))=ops.size)&&(d.all fun t=>ls.all fun h=>Xs ops ops.size t h)&&Qaj ops (Qgf ops k d c.length c) ls (Array.replicate ops.size false)
theorem Qcb{id:Nat}{a:Act}{w}{l:List Oper}(ls q E u:List Nat)(G:World→World)(hm:P.follows .mixedOrders=true)(U:Qve l.toArray ls q E u=true)
  (hQ:∀c(a:Act)(d:Tmp)v w,Q (.panic c) (a.put (some d) v) w→Q (.panic c) a w)(Z:∃x,w.drew=G x)
  (h:Yt P l.toArray (fun w'=>∃x,w'=G x) (fun V=>∀w',(∃x,w'=G x)→Fh P l.toArray Q (fun w'=>∃x,w'=G x) (pick l.toArray u) (pick l.toArray E) q.length q V w') (pick l.toArray ls) a):
  (Code.region id l.toArray true).wp P Q a w:=by
 simp only[Qve,Zw,decide_eq_true_eq]at U;obtain⟨⟨⟨B,z⟩,R⟩,J⟩:=U;refine wp_region_any hm ?_;have I:Xj l.toArray (Array.replicate l.toArray.size false):=fun j oj _ hl=>by rw[getD_replicate_false]at hl;cases hl
 have hn:∀t,decide (t∈u)=true→∀h∈ls,Xs l.toArray l.toArray.size t h=true:=fun t ht h hh=>List.all_eq_true.1 (List.all_eq_true.1 R t (by simpa using ht)) h hh;refine Pj (C:=fun w'=>∃x,w'=G x) (late:=fun j=>decide (j∈u)) _ _ _ _ ?_;have:=Qa4 (P:=P) (ops:=l.toArray) (C:=fun w'=>∃x,w'=G x) (Q:=Q) (late:=fun j=>decide (j∈u)) (m:=q.length+(E.length+u.length)) (ls:=ls) (K:=Fh P l.toArray Q (fun w'=>∃x,w'=G x) (pick l.toArray u) (pick l.toArray E) q.length q) B hn hQ
  (fun k a w hf hK=>Qd1 (fun j hj=>by simpa using hj) q.length q k a w hf hK) ls _ a _ (fun _ h=>h) I Z J h
 rw[z]at this;exact this
end
section
variable{P:Program}{ops:Array Oper}{Q:Exit→Act→World→Prop}{C:World→Prop}
def Mt(P:Program)(ops:Array Oper)(Q:Exit→Act→World→Prop)(C:World→Prop)(late:Nat→Bool):Nat→Array Bool→Act→World→Prop
 |0,listed,a,w=>Region.ready .any ops listed=[]∧Q .normal a w
 |f+1,listed,a,w=>(Region.ready .any ops listed=[]→Q .normal a w)∧
  ∀i∈Region.ready .any ops listed,wpOp P ops Q i (fun c w'=>(late i=false→C w→C w')∧Mt P ops Q C late f (listed.setIfInBounds i true) c w') a w
theorem Qb8{late:Nat→Bool}:∀(f:Nat)(c:Array Bool)(a:Act)(w),Mt P ops Q C late f c a w→wpAny P .any ops Q f c a w
 |0,_,_,_,h=>h
 |f+1,_,_,_,h=>⟨h.1,fun i hi=>wpOp_mono (fun d w' h'=>Qb8 f _ d w' h'.2) (h.2 i hi)⟩
theorem Qfz{late:Nat→Bool}{D:World→Prop}{i F:Nat}{oi:Oper}{v:Value}(hi:ops[i]? =some oi)(U:∀(j:Nat)(o:Oper)cs b,ops[j]? =some o→o.op≠ .select cs b)
  (hQ:∀c a w,Q (.panic c) (a.put oi.dst v) w→Q (.panic c) a w) (u:(∀w,D w)∨((∀j I,ops[j]? =some I→late j=true→Xs ops F j i=true)∧D=C)):
  ∀(f:Nat)(d:Array Bool)(a:Act)(w),Xj ops d→
   (∀j I,ops[j]? =some I→j≠i→d.getD j true=false→(∀e∈I.after,Region.binds .any e=true→e.on≠i)→oi.apart ops I=true)→
   i∈Region.ready .any ops d→YieldsIf P ops D oi v a→D w→
   Mt P ops Q C late f (d.setIfInBounds i true) (a.put oi.dst v) w→Mt P ops Q C late (f+1) d a w:=by
 intro f;induction f with
 |zero=>
  intro d a w V _ hr hy hC H;refine⟨fun h=>(by rw[h]at hr;cases hr),fun j hj=>?_⟩;by_cases q:j=i;·subst q;exact hy.wpOp hi hC ⟨fun _ h=>h,H⟩
  ·have:=ready_mono hj q;rw[H.1]at this;cases this
 |succ f ih=>
  intro d a w V z hr hy hC H;have E:=(mem_ready.1 hr).1;refine⟨fun h=>(by rw[h]at hr;cases hr),fun j hj=>?_⟩;by_cases q:j=i;·subst q;exact hy.wpOp hi hC ⟨fun _ h=>h,H⟩
  ·have h1:=H.2 j (ready_mono hj q);obtain⟨R,I,B,K⟩:=mem_ready.1 hj;have Z:(∀w,D w)∨(late j=false∧D=C):=by
    rcases u with hD|⟨u,ac⟩;·exact .inl hD
    ·refine .inr ⟨?_,ac⟩;cases hl:late j with
     |false=>rfl
     |true=>
      have h1:=Yw V F j i (fun o ho e he hb=>by
       have:o=I:=Zs (ho.symm.trans B);subst this;exact K e he hb) (u j I B hl)
      rw[getD_both E]at h1;cases h1
   have ab:∀e∈I.after,Region.binds .any e=true→e.on≠i:=fun e he hb ae=>by have h1:=K e he hb;rw[ae,getD_both E]at h1;cases h1
   have h2:=wpOp_putIf (S:=D) B (z j I B q R ab) (fun cs b=>U i oi cs b hi) (fun cs b=>U j I cs b B) hQ hy h1;have J:∀k ok,ops[k]? =some ok→k≠i→(d.setIfInBounds j true).getD k true=false→
     (∀e∈ok.after,Region.binds .any e=true→e.on≠i)→oi.apart ops ok=true:=fun k ok hk af E ag=>by
    refine z k ok hk af ?_ ag;by_cases aa:j=k;·subst aa;exact R
    ·rw[getD_set_ne true aa]at E;exact E
   refine wpOp_mono (fun a' w' h3=>⟨h3.2.1,ih (d.setIfInBounds j true) a' w' (V.set hj) J (ready_mono hr (Ne.symm q)) h3.1 ?_ ?_⟩) h2
   ·rcases Z with hD|⟨Z,rfl⟩;·exact hD _
    ·exact h3.2.1 Z hC
   ·rw[Array.setIfInBounds_comm _ _ q];exact h3.2.2
theorem Qeg{late:Nat→Bool}:∀(d:List Nat)(c:Array Bool)(a:Act)(w),(∀j∈d,late j=true)→Iv ops d c=true→
  wpList P ops Q (pick ops d) a w→Mt P ops Q C late d.length c a w
 |[],c,a,w,_,hB,h=>⟨by simpa[Iv]using hB,h⟩
 |k::d,c,a,w,hl,hB,h=>by
  obtain⟨h1,⟨o,h0⟩,q⟩:=Cz hB;refine⟨fun z=>(by rw[h1]at z;cases z),fun i hi=>?_⟩;rw[h1]at hi;have u:i=k:=by simpa using hi
  subst u;rw[Df h0]at h;have I:wpOp P ops Q i (wpList P ops Q (pick ops d)) a w:=by unfold wpOp;simp only[h0];exact h
  exact wpOp_mono (fun B w' h'=>⟨fun h=>(by rw[hl i (by simp)]at h;cases h),Qeg d _ B w' (fun j E=>hl j (by simp[E])) q h'⟩) I
def Cm(ops:Array Oper)(B:Array Bool→Bool):List Nat→Array Bool→Bool
 |[],listed=>B listed
 |k::ks,listed=>(Region.ready .any ops listed).contains k&&Region.free .any ops listed k&&((ops[k]?).map (·.dst.isSome)).getD false&&Cm ops B ks (listed.setIfInBounds k true)
theorem Mr{late:Nat→Bool}{D:World→Prop}{B:Array Bool→Bool}{R:Act→Prop}{n:Nat}{w}(z:Region.noSelect ops=true)
  (Z:∀c(a:Act)(d:Tmp)v w,Q (.panic c) (a.put (some d) v) w→Q (.panic c) a w)(V:D w):
  ∀(u:List Nat)(q:Array Bool)(a:Act),((∀w,D w)∨((∀k∈u,∀j,late j=true→Xs ops ops.size j k=true)∧D=C))→Xj ops q→
   Cm ops B u q=true→(∀q a,Xj ops q→B q=true→R a→Mt P ops Q C late n q a w)→Yt P ops D R (pick ops u) a→
   Mt P ops Q C late (u.length+n) q a w
 |[],q,a,_,hcl,hB,hR,h=>by simp only[List.length_nil,Nat.zero_add];exact hR q a hcl (by simpa[Cm]using hB) h
 |k::u,q,a,hn,hcl,hB,hR,h=>by
  simp only[Cm,Zw]at hB;obtain⟨⟨⟨hr,hf⟩,I⟩,K⟩:=hB;have E:k∈Region.ready .any ops q:=by simpa using hr
  obtain⟨_,o,h0,_⟩:=mem_ready.1 E;rw[h0]at I;simp only[Zn,Option.getD_some]at I;obtain⟨d,I⟩:=Option.isSome_iff_exists.1 I;rw[Df h0]at h;have U:∃v,YieldsIf P ops D o v a∧Yt P ops D R (pick ops u) (a.put o.dst v):=by
   simp only[Yt]at h;by_cases J:Region.wanted o (yielded ops a.tmps)=true;·simp only[J,if_true]at h;obtain⟨v,h1,h2⟩:=h;exact⟨v,.inl ⟨J,h1⟩,h2⟩
   ·simp only[J]at h;exact⟨undef,.inr ⟨by simpa using J,rfl⟩,h⟩
  obtain⟨v,U,hK⟩:=U;have e:(k::u).length+n=(u.length+n)+1:=by simp;omega
  rw[e];refine Qfz (D:=D) (F:=ops.size) h0 (Region.noSelect_spec z) (fun c a' w' hq=>by rw[I]at hq;exact Z c a' d _ w' hq) (hn.imp id fun h=>⟨fun j oj hj hT=>h.1 k (by simp) j hT,h.2⟩) _ q a w hcl (Region.free_spec h0 hf) E U V
   (Mr z Z V u _ _ (hn.imp id fun h=>⟨fun j hj=>h.1 j (by simp[hj]),h.2⟩) (hcl.set E) K hR hK)
def Qul(ops:Array Oper)(ls ps c:List Nat):Bool:=
 Region.noSelect ops&&decide (ls.length+(ps.length+c.length)=ops.size)&&(c.all fun t=>ls.all fun h=>Xs ops ops.size t h)&&Cm ops (Cm ops (Iv ops c) ps) ls (Array.replicate ops.size false)
theorem Ka{id:Nat}{a:Act}{w}{l:List Oper}(ls ps z:List Nat)(G:World→World)(hm:P.follows .mixedOrders=true)(hB:Qul l.toArray ls ps z=true)
  (hQ:∀c(a:Act)(d:Tmp)v w,Q (.panic c) (a.put (some d) v) w→Q (.panic c) a w)(hG:∃x,w.drew=G x)
  (h:Yt P l.toArray (fun w'=>∃x,w'=G x) (fun B=>Yt P l.toArray (fun _=>True) (fun B=>∀w',(∃x,w'=G x)→wpList P l.toArray Q (pick l.toArray z) B w') (pick l.toArray ps) B) (pick l.toArray ls) a):
  (Code.region id l.toArray true).wp P Q a w:=by
 simp only[Qul,Zw,decide_eq_true_eq]at hB;obtain⟨⟨⟨u,J⟩,aa⟩,Z⟩:=hB;refine wp_region_any hm ?_;have V:Xj l.toArray (Array.replicate l.toArray.size false):=fun j oj _ hl=>by rw[getD_replicate_false]at hl;cases hl
 have hn:∀k∈ls,∀j,decide (j∈z)=true→Xs l.toArray l.toArray.size j k=true:=fun k hk j hj=>List.all_eq_true.1 (List.all_eq_true.1 aa j (by simpa using hj)) k hk;have key:=Mr (P:=P) (Q:=Q) (C:=fun w'=>∃x,w'=G x) (D:=fun w'=>∃x,w'=G x) (late:=fun j=>decide (j∈z)) (n:=ps.length+z.length) u hQ hG ls _ a (.inr ⟨hn,rfl⟩) V Z
  (fun q B I U h'=>Mr (D:=fun _=>True) (n:=z.length) u hQ trivial ps q B (.inl fun _=>trivial) I U (fun q K _ E R=>Qeg z q K _ (fun j hj=>by simpa using hj) E (R _ hG)) h') h
 rw[J]at key;exact Qb8 _ _ _ _ key
end
section
variable{P:Program}{ops:Array Oper}{Q:Exit→Act→World→Prop}{C:World→Prop}
def Lr(P:Program)(ops:Array Oper)(Q:Exit→Act→World→Prop)(C:World→Prop):List (Bool×Oper)→Act→Prop
 |[],a=>∀w,C w→Q .normal a w
 |(true,o)::r,a=>if Region.wanted o (yielded ops a.tmps)then Qp P o a C (Lr P ops Q C r)else Lr P ops Q C r (a.put o.dst undef)
 |(false,o)::r,a=>∀w,C w→wpList P ops (Exit.then (fun c w'=>C w'∧Lr P ops Q C r c) Q) [o] a w
def E8(ops:Array Oper):List (Bool×Nat)→List (Bool×Oper)
 |[]=>[]
 |(b,k)::r=>match ops[k]? with
  |some o=>(b,o)::E8 ops r
  |none=>E8 ops r
theorem Id{b:Bool}{k:Nat}{r:List (Bool×Nat)}{o:Oper}(h:ops[k]? =some o):E8 ops ((b,k)::r)=(b,o)::E8 ops r:=by simp[E8,h]
def Qk6(ops:Array Oper):List (Bool×Nat)→Array Bool→Bool
 |[],listed=>(Region.ready .any ops listed).isEmpty
 |(true,k)::r,listed=>(Region.ready .any ops listed).contains k&&Region.free .any ops listed k&&((ops[k]?).map (·.dst.isSome)).getD false&&Qk6 ops r (listed.setIfInBounds k true)
 |(false,k)::r,listed=>decide (Region.ready .any ops listed=[k])&&Qk6 ops r (listed.setIfInBounds k true)
theorem Qfc(z:Region.noSelect ops=true)(R:∀c(a:Act)(d:Tmp)v w,Q (.panic c) (a.put (some d) v) w→Q (.panic c) a w):
  ∀(r:List (Bool×Nat))(q:Array Bool)(a:Act)(w),Xj ops q→C w→Qk6 ops r q=true→Lr P ops Q C (E8 ops r) a→Ld P ops Q C (fun _=>false) r.length q a w
 |[],q,a,w,hcl,hC,hB,h=>⟨by simpa[Qk6]using hB,h w hC⟩
 |(true,k)::r,q,a,w,hcl,hC,hB,h=>by
  simp only[Qk6,Zw]at hB;obtain⟨⟨⟨hr,hf⟩,E⟩,B⟩:=hB;have u:k∈Region.ready .any ops q:=by simpa using hr
  obtain⟨_,o,h0,_⟩:=mem_ready.1 u;rw[h0]at E;simp only[Zn,Option.getD_some]at E;obtain⟨d,E⟩:=Option.isSome_iff_exists.1 E;rw[Id h0]at h;simp only[Lr]at h;have V:∃v,YieldsIf P ops C o v a∧Lr P ops Q C (E8 ops r) (a.put o.dst v):=by
   by_cases J:Region.wanted o (yielded ops a.tmps)=true;·simp only[J,if_true]at h;obtain⟨v,h1,I⟩:=h;exact⟨v,.inl ⟨J,h1⟩,I⟩
   ·simp only[J]at h;exact⟨undef,.inr ⟨by simpa using J,rfl⟩,h⟩
  obtain⟨v,V,hK⟩:=V;exact Pi (F:=ops.size) h0 (Region.noSelect_spec z) (fun c K w' Z=>by rw[E]at Z;exact R c K d _ w' Z) (fun j oj hj hT=>by cases hT) _ q a w hcl (Region.free_spec h0 hf) u V hC
   (Qfc z R r _ _ w (hcl.set u) hC B hK)
 |(false,k)::r,q,a,w,hcl,hC,hB,h=>by
  simp only[Qk6,Zw,decide_eq_true_eq]at hB;obtain⟨h1,B⟩:=hB;have u:k∈Region.ready .any ops q:=by rw[h1];simp
  obtain⟨_,o,h0,_⟩:=mem_ready.1 u;rw[Id h0]at h;simp only[Lr]at h;refine⟨fun I=>(by rw[h1]at I;cases I),fun i hi=>?_⟩;rw[h1]at hi;have U:i=k:=by simpa using hi
  subst U;refine wpOp_mono (fun K w' h'=>⟨fun _=>h'.1,?_⟩) (Ko h0 (h w hC));exact Qfc z R r _ K w' (hcl.set u) h'.1 B h'.2
theorem Qcp{id:Nat}{a:Act}{w}{l:List Oper}(k:List (Bool×Nat))(C:World→Prop)(J:P.follows .mixedOrders=true)
  (z:(Region.noSelect l.toArray&&(decide (k.length=l.toArray.size)&&Qk6 l.toArray k (Array.replicate l.toArray.size false)))=true)
  (I:∀c(a:Act)(d:Tmp)v w,Q (.panic c) (a.put (some d) v) w→Q (.panic c) a w) (E:C w.drew) (h:Lr P l.toArray Q C (E8 l.toArray k) a):
  (Code.region id l.toArray true).wp P Q a w:=by
 simp only[Zw,decide_eq_true_eq]at z;obtain⟨u,q,z⟩:=z;refine wp_region_any J ?_;have B:Xj l.toArray (Array.replicate l.toArray.size false):=fun j K _ hl=>by rw[getD_replicate_false]at hl;cases hl
 have:=Qfc (P:=P) u I k _ a _ B E z h;rw[q]at this;exact Pj _ _ _ _ this
variable{r:List (Bool×Oper)}{a:Act}{o:Oper}
theorem Qt2(h:∀w,C w→Q .normal a w):Lr P ops Q C [] a:=h
theorem Qr1{v:Value}(d:Region.wanted o (yielded ops a.tmps)=true)(c:∀w,C w→(execOp a.eval o).run P w=.ok (.value v) w)(h:Lr P ops Q C r (a.put o.dst v)):Lr P ops Q C ((true,o)::r) a:=by simp only[Lr,d,if_true];exact⟨v,c,h⟩
theorem Qr0(h:∀w,C w→wpList P ops (Exit.then (fun c w'=>C w'∧Lr P ops Q C r c) Q) [o] a w):Lr P ops Q C ((false,o)::r) a:=h
end
section
open Go.Maps Go.Shelf
attribute [local go_sem] Oper.semAt_some
theorem law64:Keyed prog 29:=int_keyed underlying29
theorem Qde{key:Value}{c:Lit}(h:keyOf prog 29 key=some c):∃x:Int,key=.int .u64 x∧c=.int .u64 x∧(Lit.int .u64 x).wf=true:=by have d:=underlying29;cases key<;>simp[keyOf,d,mapKey]at h;obtain⟨⟨rfl,k⟩,rfl⟩:=h;exact⟨_,rfl,rfl,k⟩
def Ag{H:Type}(d:DataW H)(left:Lit→Bool)(c:List Int):Prop:=c.Nodup∧∀x,x∈c↔(has d (.int .u64 x)=true∧left (.int .u64 x)=false)
theorem Ag.start{H:Type}(c:DataW H):Ag c (has c) []:=⟨List.nodup_nil,fun x=>by cases has c (.int .u64 x)<;>simp⟩
theorem Ag.step{H:Type}{k:DataW H}{left:Lit→Bool}{B:List Int}(h:Ag k left B){x:Int}{y:DataW H}(u:left (.int .u64 x)=true)(q:∀K,k.atKey (.int .u64 x) K=y):
  Ag k (fun z=>left z&&!z.sameKey (.int .u64 x)) (B++[x]):=by
 have c:has k (.int .u64 x)=true:=has_true_of_atKey q;have d:x∉B:=fun J=>by have:=((h.2 x).1 J).2;rw[u]at this;cases this
 refine⟨List.nodup_append.2 ⟨h.1,by simp,fun a ha b E=>by simp at E;subst E;exact fun e=>d (e▸ha)⟩,fun y=>?_⟩;by_cases I:y=x;·subst I;simp[c,Lit.sameKey]
 ·simp[h.2 y,I,Lit.sameKey]
theorem Qrx(F:Fence)(n:Nat)(k:F.fn 241)(c:F.round=none)(d:Option Nat)(w):
  CallsIn F n prog 241 #[.map d] w fun e w'=>e=.returned (.func (.func 255) #[] #[.pointer (some ⟨w.heap.size,0,none⟩)])∧w.alloc (.cells #[.map d] 304)=w':=by
 refine callsIn_of_wp func241 rfl k ?_ c;simp only[ntmps241,List.size_toArray,Zm,List.length_nil,Nat.reduceAdd,Nat.reduceSub,Array.replicate_succ,Array.replicate_zero,List.push_toArray,List.append_toArray,List.nil_append,List.cons_append];gi_wp2;go_ret;exact⟨rfl,rfl⟩
theorem Qo6{H:Type}(F:Fence)(n:Nat)(ae:F.fn 255)(ao:F.round=none)(hn:1≤n)(l Bm b nn:Nat)(u:DataW H){R:Value→Option (DataW H×List MemPlace)}(J Jx:List Int→World→Prop)
  (hY:∀k x W,J k W→k.length<Maps.size u→YieldAt F (n-1) prog l #[.int .u64 x] W fun e E=>
   (e=.returned (.bool true)∧J (k++[x]) E∧KeepsWalks W E)∨(e=.returned (.bool false)∧Jx (k++[x]) E))
  (W:World) (hJ:AbidesFrom W.heap.size J) (hm:W.cell? ⟨Bm,0,none⟩=some (.map (some b))) (Z:W.ownsMap prog 29 R b nn u) (h0:J [] W):
  CallsIn F n prog 255 #[.func (.yield l) #[] #[],.pointer (some ⟨Bm,0,none⟩)] W fun e E=>(∃v,e=.returned v)∧
   ((∃d:List Int,(d.Nodup∧∀x,x∈d↔has u (.int .u64 x)=true)∧J d E)∨(∃k:List Int,True∧Jx k E)):=by
 refine callsIn_of_wp func255 rfl ae ?_ ao;simp only[ntmps255,List.size_toArray,Zm,List.length_nil,Nat.reduceAdd,Nat.reduceSub,Array.replicate_succ,Array.replicate_zero,List.push_toArray,List.append_toArray,List.nil_append,List.cons_append];gi_wp2_with (first
  |(gi_at_range;refine wpListIn_range_own _ rfl _ 304 rfl 29 3 law64 underlying304 _ b nn _ rfl Z ?_;intro w0 aa aj ax)
  |gi_in)
 go_frame;gi_loopw [3] (fun _ wr=>∃(left:Lit→Bool)(z:Nat)(d:List Int),wr.ranges prog 29 R b W.heap.size nn u left z∧d.length+z≤Maps.size u∧Ag u left d∧J d wr)
  (fun _ wr=>wr.rangeLeft b W.heap.size)
 case atStart=> exact⟨_,_,[],aa,by simp,Ag.start u,hJ [] W w0 none h0 aj (fun r e=>by cases e)⟩
 case round=>
  obtain⟨left,z,d,B,av,hC,K⟩:=hrel;gi_wp2_with (first
   |(gi_at_next;refine wpListIn_next_ranges _ rfl _ rfl 29 law64 R (Value.int .u64) id (fun key kl hk=>by obtain⟨x,hx,_⟩:=Qde hk;exact⟨x,hx⟩) (fun v _ _=>⟨v,rfl⟩) b W.heap.size nn _ _ _ rfl B ?_ ?_)
   |gi_in)
  ·intro au am;gi_wp2;go_end0;exact⟨⟨_,rfl⟩,.inl ⟨d,⟨hC.1,fun x=>by rw[hC.2 x,am];simp⟩,K⟩⟩
  ·intro x c kl yd yp w2 I V an hv ai ab Xg ak ap aw;obtain⟨x',ex,rfl,_⟩:=Qde V;obtain rfl:x=x':=by simpa using ex
   have ag:J d w2:=hJ d wr w2 (some W.heap.size) K ak (fun r e=>by cases e;exact⟨Zv _,B.iter_walk⟩);obtain⟨fn,ar,ac,aq,hy,hR⟩:=hY d x w2 ag (by omega);clear ap;gi_wp2;refine hR.mono ?_;have af:=hC.step an ai;rintro e W3(⟨rfl,ah,al⟩|⟨rfl,U⟩)
   ·gi_wp2;have q:=ab.of_walks al;go_roundw;case rel=>exact⟨_,I,d++[x],q,by simp;omega,af,ah⟩
    case measure=>rw[q.left_eq,B.left_eq];exact Xg
   ·gi_wp2;refine bodyPost_ret (results_none rfl _ _ _) rfl ?_;exact⟨⟨_,rfl⟩,.inr ⟨d++[x],trivial,U⟩⟩
theorem Qhu{H:Type}(F:Fence)(n:Nat)(z:F.fn 255)(I:F.round=none)(hn:1≤n)(q b K:Nat)(u:DataW H){R:Value→Option (DataW H×List MemPlace)}(w:World)(B:q<w.heap.size)
  (hm:w.cell? ⟨q,0,none⟩=some (.map (some b)))(c:w.ownsMap prog 29 R b K u):
  SeqStopsA F n prog 255 #[.pointer (some ⟨q,0,none⟩)] (fun x:Int=>#[Value.int .u64 x]) (fun U=>U.Nodup∧∀x,x∈U↔has u (.int .u64 x)=true) (fun aa=>True) (Maps.size u) w:=fun l J Z W hW hJ _ hY h0=>by
 have k:W.ownsMap prog 29 R b K u:=by have E:=c.lt;obtain⟨es,d,hb,V,hs,hD⟩:=c;exact⟨es,d,(hW.block b E).trans hb,V,hs,hD⟩
 exact Qo6 F n z I hn l q b K u J Z hY W hJ ((hW.cell (p:=⟨q,0,none⟩) B).trans hm) k h0
theorem Qtq:(prog.info? 29).map (fun i=>(i.zero,i.size,i.bytes))=some (some (.int .u64 0),1,8):=by kernel_rfl
theorem Qn2{H:Type}(F:Fence)(n:Nat)(h3:F.fn 262)(h5:F.fn 255)(U:F.round=none)(hn:3≤n)(u b nn:Nat)(V:DataW H){R:Value→Option (DataW H×List MemPlace)}(w:World)(ap:Maps.size V<maxLen)(ae:Maps.size V*8+8≤140737488355328)
  (af:u<w.heap.size)(hm:w.cell? ⟨u,0,none⟩=some (.map (some b)))(z:w.ownsMap prog 29 R b nn V):
  CallsIn F n prog 262 #[.slice none 0 0,.func (.func 255) #[] #[.pointer (some ⟨u,0,none⟩)]] w fun e W'=>∃(v:Value)(ss:List Int),e=.returned v∧W'.ownsRow w.heap.size 29 1 v ss.length (ss.map (Value.int .u64))∧ss.Nodup∧(∀x,x∈ss↔has V (.int .u64 x)=true)∧Below w.heap.size w W':=by
 have h1:1≤n:=by omega
 obtain⟨i0,hi,al,am,an⟩:=info_parts Qtq;refine callsIn_of_wp_marks func262 rfl h3 ?_ U;simp only[ntmps262,List.size_toArray,Zm,List.length_nil,Nat.reduceAdd,Nat.reduceSub,Array.replicate_succ,Array.replicate_zero,List.push_toArray,List.append_toArray,List.nil_append,List.cons_append];gi_wp2;have bO:=Boxed.new w 64 (.slice none 0 0);have E:Below w.heap.size w (w.alloc (.cells #[.slice none 0 0] 64)):=(Below.refl _ w).alloc (Zv _) _;have J:(w.alloc (.cells #[.slice none 0 0] 64)).ownsMap prog 29 R b nn V:=by have ah:=z.lt;obtain⟨es,B,hb,Ft,hs,hD⟩:=z;exact⟨es,B,(E.block b ah).trans hb,Ft,hs,hD⟩
 refine wpIn_rangeFunc_ownG U h1 (gf:=255) (lb:=#[.pointer (some ⟨u,0,none⟩)]) rfl h5 (enters_of func255 (by kernel_rfl) rfl)
  (Qhu F (n-1) h5 U (by omega) u b nn V _ (by simp;omega) ((E.cell (p:=⟨u,0,none⟩) af).trans hm) J) walksK_t walksK_b (Below.refl _ _) (fun _=>rfl)
  (fun(d:List Int)W=>(∃v,Boxed W w.heap.size 64 v∧W.ownsRow w.heap.size 29 1 v d.length (d.map (Value.int .u64))∧True)∧Below w.heap.size w W)
  (fun _ _ _=>False)
  (OwnFrom.and (Own.from (holdsRow_own w.heap.size w.heap.size 64 29 1 (fun(d:List Int)=>d.length) (fun(d:List Int)=>d.map (Value.int .u64)) (fun(d:List Int)v=>True)) _) (ownFrom_below (Zv _) (by simp)))
  (fun _ _ _ _ _ hs _ _=>hs)
  ⟨⟨_,bO,World.ownsRow_nil _ _ _ _,trivial⟩,E⟩
  (fun x=>{tmps:=#[.slice none 0 0,.func (.func 255) #[] #[.pointer (some ⟨u,0,none⟩)],.pointer (some ⟨w.heap.size,0,none⟩),undef,.slice none 0 0,.int .u64 x,.func (.func 255) #[] #[.pointer (some ⟨u,0,none⟩)],.int .u64 x,undef,undef,undef,undef,undef],defers:=[]}) ?assign ?body ?done ?stop
 case assign=> intro l x W K hK;gi_wp2;exact hK
 case body=> rintro l d x W⟨⟨v,hv,k,_⟩,Z⟩Xg;have hc:=hv.cell;gi_wp2_with (gi_at_builtin;refine wpListIn_append_own _ rfl _ _ 64 rfl w.heap.size 29 i0 (.int .u64 0) 1 8 underlying64 hi al am an rfl (by decide) _ _ _ rfl (k.alloc _) ⟨W.heap.size,0,none⟩ 1 1 [.int .u64 x] rfl rfl (cell_one_new _ _ _) (by simp[Value.oneCell']) (by omega) (by omega) (by have:=Z.size;simp;omega) ?_;intro v' w1 q I _;obtain⟨g',ao,rfl⟩:=ownsRow_succ q;obtain⟨ac,ak,aj,aa,ag⟩:=hv.appended (by decide) k Z.size (Zv _) q I;have aq:=ac.cell;have ar:=ac.frozen);exact⟨aa.from _,aa.walks,⟨_,ak,by simpa using aj,trivial⟩,Z.trans ag⟩
 case done=> rintro D ys W hD⟨ai,ab⟩⟨⟨v,hv,k,_⟩,Z⟩hK;have hc:=hv.cell;gi_wp2;refine⟨by simp,.inl ⟨_,_,rfl,run_takeDeferred hK,?_⟩⟩;exact⟨_,results_tmp rfl _ _ _,v,ys,rfl,ownsRow_putObj k _ hK rfl,ai,ab,Z.trans (belowK_b (w:=w) (Zv _) W D _ _ (by simp at hD;omega) hK rfl rfl)⟩
 case stop=> rintro D c d W _ _ h _;exact h.elim
end
end Go.Proofs.YtnnhmpehkbihnaaGreat
