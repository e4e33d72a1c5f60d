/- A part of the proof: no condition. -/
import Derived.Test.YtnnhmpehkbihnaaGreatRows
import Derived.WalkKit
import Derived.ProofKit
import Derived.OpenShut
import Derived.SizedLaws
import Derived.Carry
import Derived.Deep.Slices
import Derived.Deep.QuietTactic
import Derived.StillTail
import Derived.BigQuiet
import Derived.Laws.OwnMore
import Derived.Laws.BitsLemmas
import Derived.IntWalk
namespace Go.Proofs.YtnnhmpehkbihnaaGreat
set_option linter.unusedVariables false
set_option maxRecDepth 100000
set_option maxHeartbeats 4000000
open Go.RowKit
open Go.Proofs.Tryz
abbrev Cl:=Calls prog
theorem Zx{α:Sort _}(a:α):∃b,b=a:=⟨a,rfl⟩
theorem Za{α:Type}(l:List α)(i:Nat)(a:α):l.toArray.setIfInBounds i a=(l.set i a).toArray:=List.setIfInBounds_toArray ..
theorem Zb{α:Type}(x:α)(l:List α)(i:Nat)(a:α):(x::l).set (i+1) a=x::l.set i a:=rfl
theorem Zc{α:Type}(x:α)(l:List α)(a:α):(x::l).set 0 a=a::l:=rfl
theorem Zd{α:Type}(x:α)(l:List α)(i:Nat):(x::l)[i+1]? =l[i]?:=List.getElem?_cons_succ ..
theorem Ze{α:Type}(x:α)(l:List α):(x::l)[0]? =some x:=List.getElem?_cons_zero ..
theorem Zf{α:Type}(l:List α)(i:Nat):l.toArray[i]? =l[i]?:=List.getElem?_toArray ..
section
open Go.ChangeShapes Go.WideShapes Go.ChangeAt
theorem Qal{H:Type}{enc:TypeId×Value→H}{P:Program}(hl:laidOutB P=true){W I:World}(E:Below W.heap.size W I):
  ∀(c:List TypeId)(vs:List Value)(B:List (DataW H))(ps:List MemPlace),(c.all fun t=>P.readableRec t&&decide (t<P.types.size))=true→
   DataW.TrodAll enc P W 0 (fun _=>true) true c vs B ps→(∀x∈ps,x.block<W.heap.size)→
   DataW.TrodAll enc P I 0 (fun b=>decide (b<W.heap.size)) true c vs B ps
 |[],_,_,_,_,h,_=>by obtain⟨rfl,rfl,rfl⟩:=trodAll_nil h;exact trodAll_mk0
 |t::c,vs,B,ps,hr,h,Jl=>by
  obtain⟨v,k,d,u,p,q,rfl,rfl,rfl,h0,J⟩:=trodAll_cons h;simp only[List.all_cons,Bool.and_eq_true,decide_eq_true_eq]at hr;exact trodAll_cons_mk (Below.trod hl hr.1.1 hr.1.2 h0 E fun x z=>Jl x (List.mem_append_left _ z))
   (Qal hl E c k u q (by simpa using hr.2) J fun x z=>Jl x (List.mem_append_right _ z))
theorem Qdy{H:Type}{enc:TypeId×Value→H}{P:Program}{w:World}{base:Nat}{spare:Nat→Bool}{held:Bool}:
  ∀(c:List TypeId)(vs:List Value)(z:List (DataW H))(ps:List MemPlace),DataW.TrodAll enc P w base spare held c vs z ps→z.length=c.length
 |[],_,_,_,h=>by obtain⟨_,rfl,_⟩:=trodAll_nil h;rfl
 |_::c,_,_,_,h=>by obtain⟨v,k,d,u,p,q,rfl,rfl,rfl,_,B⟩:=trodAll_cons h;have:=Qdy c k u q B;simp[this]
def Qrx{H:Type}(enc:TypeId×Value→H)(P:Program)(f:FuncId)(d:Func):Prop:=
 ∀(W:World)(base:Nat)(c:Array Value)(k:List (DataW H))(p:List MemPlace),
  (∀(j:Nat)t v,d.params[j]? =some t→c[j]? =some v→Value.okWide P W .any base t v)→
  DataW.TrodAll enc P W 0 (fun _=>true) true d.params.toList c.toList k p→
  (DataW.weightsEach P d.params.toList k).all (· ≤reachBytes)=true→
  (∀x∈p,x.block<W.heap.size)→
  Calls P f c W fun e q=>e=.returned (.bool true)∧Below W.heap.size W q
theorem Qe6{H:Type}{enc:TypeId×Value→H}{C:Checked}{os:Os}{f:FuncId}{z:Func}{s:ChangeSpec}{tb:TypeId}
  (own:ownKnob C.prog.godebug=none)(k:os.Started)(u:C.prog.inits.idxOf? f=none)(ac:C.prog.funcs[f]? =some z)
  (d:∃(w:World)(tape:Tape)(i:Input),w.os=os∧(w.forCall tape i).Shaped C.prog∧i.vars=[]∧Input.okWide C.prog (w.forCall tape i) .any w.heap.size f i∧
   s.pre6 enc C.prog z [] false (w.forCall tape i).memory i.args∧(({}:Assume)).holds C.prog (lone (Frame.enter C.prog f i.args .normal) [] (w.forCall tape i)))
  (hl:laidOutB C.prog=true) (hr:(z.params.toList.all fun t=>C.prog.readableRec t&&decide (t<C.prog.types.size))=true)
  (K:z.resultTypes=#[tb]) (ab:C.prog.underlying tb=some .bool) (c:s.vars=[])
  (E:∀B:List (DataW H),B.length=z.params.size→s.fn H B={results:=[.lit (.bool true)],args:=B})
  (walk:Qrx enc C.prog f z):
  ReturnsInHanded {} C os f .any (s.pre6 enc C.prog z [] false) (s.post enc C.prog z false true false false):=by
 refine returnsInHanded_of_change_sized own k u ac d ?_;intro W base args B gs V R hW _ J _;have I:=hW;obtain⟨p,q,hA,hV,rfl,_,_⟩:=hW;have Z:gs=[]∧q=[]:=by rw[c]at hV;exact trodVars_none hV
 obtain⟨rfl,rfl⟩:=Z;have aa:s.plain.varTypes C.prog=[]:=by have:s.plain.vars=[]:=c;simp[DataSpec.varTypes,this]
 rw[aa]at J;simp only[List.append_nil]at J I;have Jl:∀x∈p,x.block<W.heap.size:=fun x hx=>I.lt x hx;have U:B.length=z.params.size:=by have:=Qdy _ _ _ _ hA;simpa using this
 refine(walk W base args B p R hA J Jl).mono fun e W'⟨he,hb⟩=>?_;have e1:=E B U;refine⟨_,he,B,[],p,[],p,[],I,?_,?_,?_,hb.frame _,fun h=>by cases h⟩;·rw[List.append_nil,e1,K];exact trodAll_cons_mk (shut_bool ab true) trodAll_mk0
 ·rw[List.append_nil,e1];exact Qal hl hb _ _ _ _ hr hA Jl
 ·rw[List.append_nil,e1,c];rfl
theorem O{p:Prop}(h:p):Hid p:=h
def Ov(F:TypeId→Option (List (Option IntKind)))(P:Program):List Field→Nat→Option (List (Option IntKind))
 |[],_=>some []
 |f::fs,off=>if f.offset=off then(F f.type).bind fun c=>if P.cellsOf f.type=c.length then(Ov F P fs (off+c.length)).map (c++ ·)else none else none
def Ul(P:Program):Nat→TypeId→Option (List (Option IntKind))
 |0,_=>none
 |n+1,t=>match P.underlying t with
  |some (.int k)=>some [some k]
  |some .bool=>some [none]
  |some (.struct fs)=>(Ov (Ul P n) P fs.toList 0).bind fun c=>if P.cellsOf t=c.length then some c else none
  |_=>none
def Um:List (Option IntKind)→List Value→Prop
 |[],[]=>True
 |some k::ks,.int k' n::vs=>k'=k∧(Lit.int k n).wf=true∧Um ks vs
 |none::ks,.bool _::vs=>Um ks vs
 |_,_=>False
theorem Um.append:∀{a:List (Option IntKind)}{x:List Value}{b:List (Option IntKind)}{y:List Value},Um a x→Um b y→Um (a++b) (x++y)
 |[],[],_,_,_,h=>h
 |some k::a,.int k' n::x,_,_,h,h'=>⟨h.1,h.2.1,Um.append h.2.2 h'⟩
 |none::a,.bool _::x,_,_,h,h'=>Um.append (a:=a) (x:=x) h h'
theorem Um.length:∀{a:List (Option IntKind)}{x:List Value},Um a x→x.length=a.length
 |[],[],_=>rfl
 |some k::a,.int k' n::x,h=>by simp[Um.length h.2.2]
 |none::a,.bool _::x,h=>by have h':Um a x:=h;simp[Um.length h']
theorem Um.int1{k:IntKind}{c:List (Option IntKind)}{x:List Value}(h:Um (some k::c) x):∃n y,x=.int k n::y∧(Lit.int k n).wf=true∧Um c y:=by
 match x,h with
 | .int k' n::y,h=>obtain⟨rfl,h1,d⟩:=h;exact⟨n,y,rfl,h1,d⟩
theorem Um.bool1{c:List (Option IntKind)}{x:List Value}(h:Um (none::c) x):∃b y,x=.bool b::y∧Um c y:=by
 match x,h with
 | .bool b::y,h=>exact⟨b,y,rfl,h⟩
theorem Um.nil0{x:List Value}(h:Um [] x):x=[]:=by
 match x,h with
 |[],_=>rfl
section
variable{H:Type}{enc:TypeId×Value→H}{P:Program}{w:World}{base:Nat}{spare:Nat→Bool}{held:Bool}
theorem Qdz{F:TypeId→Option (List (Option IntKind))}{n:Nat}{cs:List Value}
  (u:∀t c cs x,F t=some c→DataW.trod enc P w base spare held n t cs=some x→Um c cs):
  ∀(d:List Field)(off:Nat)(c:List (Option IntKind)),Ov F P d off=some c→
   (∀f∈d,∃x,DataW.trod enc P w base spare held n f.type ((cs.drop f.offset).take (P.cellsOf f.type))=some x)→
   cs.length=off+c.length→Um c (cs.drop off)
 |[],off,c,h,_,hl=>by simp only[Ov,Option.some.injEq]at h;subst h;rw[List.drop_of_length_le (by simp at hl;omega)];trivial
 |f::d,off,c,h,hx,hl=>by
  simp only[Ov]at h;split at h;case isFalse=>cases h
  case isTrue ho=>
  obtain⟨kf,q,h⟩:=Option.bind_eq_some_iff.1 h;split at h;case isFalse=>cases h
  case isTrue hc=>
  obtain⟨z,k,rfl⟩:=Option.map_eq_some_iff.1 h;obtain⟨x,h0⟩:=hx f (by simp);have h1:=u _ _ _ _ q h0;rw[ho,hc]at h1;have E:=Qdz u d (off+kf.length) z k (fun g B=>hx g (by simp[B])) (by simp at hl;omega);have:=h1.append E;rw[←List.drop_drop,List.take_append_drop]at this;exact this
theorem Qbq:∀(n:Nat){c:Nat}{t:TypeId}{u:List (Option IntKind)}{cs:List Value}{x:DataW H×List MemPlace},Ul P n t=some u→
  DataW.trod enc P w base spare held c t cs=some x→Um u cs
 |0,_,_,_,_,_,h,_=>by simp[Ul]at h
 |n+1,c,t,u,cs,x,h,hx=>by
  simp only[Ul]at h;split at h;·rename_i k q;obtain⟨v,rfl,_,Z⟩:=DataW.trod_int q hx;simp only[Option.some.injEq]at h;subst h;exact⟨rfl,Z,trivial⟩
  ·rename_i q;obtain⟨b,rfl,_⟩:=DataW.trod_bool q hx;simp only[Option.some.injEq]at h;subst h;trivial
  ·rename_i I q;obtain⟨U,z,h⟩:=Option.bind_eq_some_iff.1 h;split at h;case isFalse=>cases h
   case isTrue hc=>
   simp only[Option.some.injEq]at h;subst h;obtain⟨K,m,rfl,_,R,E,hf⟩:=DataW.trod_struct q hx;have:=Qdz (cs:=cs) (F:=Ul P n) (n:=m) (enc:=enc) (P:=P) (w:=w) (base:=base) (spare:=spare) (held:=held)
    (fun t u cs x h1 V=>Qbq n h1 V) I.toList 0 U z (fun f J=>by
     obtain⟨i,hi,rfl⟩:=List.mem_iff_getElem.1 J;have d:i<I.size:=by simpa using hi
     have e:=hf i (I[i]) (by simp[d]);have B:i<K.length:=by rw[E];exact d
     rw[List.getElem?_eq_getElem B]at e;exact⟨K[i],by simpa using e⟩) (by omega)
   simpa using this
  ·cases h
def Qss(w:World)(sz:Nat)(v:Value)(c:List (List Value)):Prop:=
 ∃a cap,v=.slice a c.length cap∧c.length≤cap∧(a=none→cap=0)∧
  ∀i,i<c.length→∃g o,a=some ⟨g,o,none⟩∧∀j u,(c.getD i [])[j]? =some u→w.cell? ⟨g,o+i*sz+j,none⟩=some u
theorem Qo5{t e:TypeId}{n:Nat}{B:List (Option IntKind)}{r:Reach}{b0:Nat}{v:Value}{d:DataW H}{p:List MemPlace}
  (ht:P.underlying t=some (.slice e))(hk:Ul P n e=some B)(hc:P.cellsOf e=B.length)(h0:0<B.length)
  (hv:Value.okWide P w r b0 t v) (h:DataW.Trod enc P w base spare held t v d p):
  ∃xs:List (List Value),Qss w B.length v xs∧(∀x∈xs,Um B x)∧xs.length≤maxLen:=by
 obtain⟨a0,len,cap,rfl⟩:=okWide_slice ht hv;obtain⟨ae,hf⟩:=h;rcases Go.Deep.open_slice ht hf with⟨c,_⟩|⟨a,ab,af,m,k,D,Pl,c,_,hl,hm,aa,_,hi⟩;·simp[Value.cells]at c;obtain⟨rfl,rfl,rfl⟩:=c;exact⟨[],⟨none,0,rfl,Nat.le_refl _,fun _=>rfl,fun i hi=>absurd hi (by simp)⟩,by simp,by simp⟩
 ·simp[Value.cells]at c;obtain⟨rfl,rfl,rfl⟩:=c;obtain⟨f,E⟩:=Go.Deep.choose_lt (α:=List Value) (n:=len) (p:=fun i cs'=>w.cells? base (a.add (i*P.cellsOf e)) (P.cellsOf e)=some cs'∧Um B cs') (fun i J=>by
   obtain⟨cs',h1,Z⟩:=hi i (by rw[aa];split<;>omega);exact⟨cs',h1,Qbq n hk Z⟩)
  refine⟨(List.range len).map f,⟨some a,cap,by simp,by simpa using hl,by simp,fun i J=>?_⟩,?_,by simp;omega⟩
  ·have q:i<len:=by simpa using J
   obtain⟨h1,Z⟩:=E i q;obtain⟨_,ag,U⟩:=World.cells?_some h1;obtain⟨b,off,I⟩:=a;have z:I=none:=by obtain⟨q1,q2⟩:=E 0 (by omega);obtain⟨_,ac,V⟩:=World.cells?_some q1;have:=V 0 (by omega);rw[List.getElem?_eq_getElem (by omega)]at this;have h3:=World.cell?_spot this;simpa[Addr.add]using h3
   subst z;refine⟨b,off,rfl,fun j u R=>?_⟩;have hj:j<B.length:=by have:=(List.getElem?_eq_some_iff.1 R).1;have ah:=Z.length;simp[List.getD,q]at this;omega
   have:=U j (by omega);rw[Go.Deep.add_add]at this;simp[List.getD,q]at R;rw[R]at this;rw[←this,hc];simp only[Addr.add];split;·rename_i hz;congr 2;omega
   ·simp[Nat.add_assoc]
  ·intro x hx;obtain⟨i,K,rfl⟩:=List.mem_map.1 hx;exact(E i (by simpa using K)).2
end
theorem Qss.below{w w':World}{B sz:Nat}{v:Value}{c:List (List Value)}(h:Qss w sz v c)(z:Below B w w')(J:w.heap.size≤B):Qss w' sz v c:=by
 obtain⟨a,cap,rfl,hc,hn,E⟩:=h;refine⟨a,cap,rfl,hc,hn,fun i hi=>?_⟩;obtain⟨g,o,rfl,d⟩:=E i hi;refine⟨g,o,rfl,fun j u k=>?_⟩;have h1:=d j u k;have I:g<w.heap.size:=by
  unfold World.cell? at h1;split at h1;·rename_i q;exact(Array.getElem?_eq_some_iff.1 q).1
  ·cases h1
 rw[z.cell (by show g<B;omega)];exact h1
theorem Qe7{T:Type}(cells:T→List Value)(d:T→Prop):∀(c:List (List Value)),(∀x∈c,∃p,x=cells p∧d p)→∃l:List T,c=l.map cells∧∀p∈l,d p
 |[],_=>⟨[],rfl,by simp⟩
 |x::c,h=>by obtain⟨p,rfl,k⟩:=h x (by simp);obtain⟨l,rfl,hl⟩:=Qe7 cells d c (fun y q=>h y (by simp[q]));exact⟨p::l,rfl,by simpa using⟨k,hl⟩⟩
def Yr{T:Type}(cells:T→List Value)(sz:Nat)(w:World)(a:Option Addr)(l:List T):Prop:=
 ∀(i:Nat)(h:i<l.length),∃g o,a=some ⟨g,o,none⟩∧∀j u,(cells l[i])[j]? =some u→w.cell? ⟨g,o+i*sz+j,none⟩=some u
theorem Qss.row{T:Type}{cells:T→List Value}{w:World}{sz:Nat}{v:Value}{l:List T}(h:Qss w sz v (l.map cells)):
  ∃a cap,v=.slice a l.length cap∧l.length≤cap∧(a=none→cap=0)∧Yr cells sz w a l:=by
 obtain⟨a,cap,rfl,hc,hn,c⟩:=h;refine⟨a,cap,by simp,by simpa using hc,hn,fun i hi=>?_⟩;have:=c i (by simpa using hi);simpa[List.getD,hi]using this
theorem Qkb{w:World}{p:Addr}{u:Value}(h1:w.cell? p=some u):p.block<w.heap.size:=by
 unfold World.cell? at h1;split at h1;·rename_i c;exact(Array.getElem?_eq_some_iff.1 c).1
 ·cases h1
theorem Yr.below{T:Type}{cells:T→List Value}{sz:Nat}{w w':World}{a:Option Addr}{l:List T}(h:Yr cells sz w a l)(k:Below w.heap.size w w'):Yr cells sz w' a l:=by intro i hi;obtain⟨g,o,rfl,c⟩:=h i hi;refine⟨g,o,rfl,fun j u d=>?_⟩;rw[k.cell (Qkb (c j u d))];exact c j u d
end
section
variable{P:Program}{ops:Array Oper}{C:World→Prop}{Q:Exit→Act→World→Prop}
def Jy(ops:Array Oper):Nat→Nat→Nat→Bool
 |0,_,_=>false
 |f+1,t,h=>match ops[t]? with
  |some o=>o.after.any fun e=>Region.binds .any e&&(e.on==h||Jy ops f e.on h)
  |none=>false
def Ji(ops:Array Oper)(c:Array Bool):Prop:=
 ∀j d,ops[j]? =some d→c.getD j false=true→∀e∈d.after,Region.binds .any e=true→c.getD e.on false=true
theorem Xp{c:Array Bool}(hc:Ji ops c):∀(f t h:Nat),
  (∀o,ops[t]? =some o→∀e∈o.after,Region.binds .any e=true→c.getD e.on false=true)→Jy ops f t h=true→c.getD h false=true
 |0,_,_,_,hw=>by simp[Jy]at hw
 |f+1,t,h,ht,hw=>by
  simp only[Jy]at hw;split at hw
  ·rename_i o E;obtain⟨e,I,k⟩:=Array.any_eq_true'.1 hw;simp only[Bool.and_eq_true,Bool.or_eq_true,beq_iff_eq]at k;have h1:=ht o E e I k.1;rcases k.2 with rfl|B;·exact h1
   ·exact Xp hc f e.on h (fun J u z q d=>hc e.on J u h1 z q d) B
  ·cases hw
theorem Ji.set{c:Array Bool}{i:Nat}(hc:Ji ops c)(hi:i∈Region.ready .any ops c):Ji ops (c.setIfInBounds i true):=by
 obtain⟨_,I,q,d⟩:=mem_ready.1 hi;intro j u z hl e E B;by_cases k:i=j;·subst k;have:u=I:=Option.some.inj (z.symm.trans q);subst this;exact getD_set_true (d e E B)
 ·rw[getD_set_ne false k]at hl;exact getD_set_true (hc j u z hl e E B)
def Qlw(P:Program)(ops:Array Oper)(C:World→Prop)(L:Array Bool→Act→Prop):Nat→Array Bool→Act→Prop
 |0,listed,a=>L listed a
 |f+1,listed,a=>Region.ready .any ops listed≠[]∧∀i∈Region.ready .any ops listed,qOp P ops C i (Qlw P ops C L f (listed.setIfInBounds i true)) a
theorem Ln{L:Array Bool→Act→Prop}{g:Nat}(k:∀c a w,C w→L c a→wpAny P .any ops Q g c a w):
  ∀(f:Nat)(c:Array Bool)(a:Act)(w:World),C w→Qlw P ops C L f c a→wpAny P .any ops Q (f+g) c a w
 |0,c,a,w,hw,h=>by rw[Nat.zero_add];exact k _ _ _ hw h
 |f+1,c,a,w,hw,h=>by rw[show f+1+g=(f+g)+1 by omega];exact⟨fun h0=>absurd h0 h.1,fun i hi=>wpOp_of_qOp hw (fun q w' d h'=>Ln k f _ q w' d h') (h.2 i hi)⟩
theorem Qlx{i F:Nat}{oi:Oper}{v:Value}{L:Array Bool→Act→Prop}{T:Nat→Prop}(hi:ops[i]? =some oi)(K:∀(j:Nat)(o:Oper)cs b,ops[j]? =some o→o.op≠ .select cs b)
  (V:∀c a,L c a→∀j∈Region.ready .any ops c,T j) (U:∀j z,ops[j]? =some z→T j→Jy ops F j i=true):
  ∀(f:Nat)(c:Array Bool)(a:Act),Ji ops c→
   (∀j z,ops[j]? =some z→j≠i→c.getD j true=false→(∀e∈z.after,Region.binds .any e=true→e.on≠i)→oi.apart ops z=true)→
   i∈Region.ready .any ops c→YieldsIn P ops C oi v a→
   Qlw P ops C L f (c.setIfInBounds i true) (a.put oi.dst v)→Qlw P ops C L (f+1) c a:=by
 intro f;induction f with
 |zero=>
  intro c a R _ hr hy H;have q:=(mem_ready.1 hr).1;refine⟨fun h=>(by rw[h]at hr;cases hr),fun j Z=>?_⟩;by_cases d:j=i;·subst d;exact hy.qOp hi H
  ·obtain⟨_,z,u,B⟩:=mem_ready.1 Z;have hT:=V _ _ H j (ready_mono Z d);have h1:=Xp R F j i (fun o ho e he hb=>by
    have:o=z:=Option.some.inj (ho.symm.trans u);subst this;exact B e he hb) (U j z u hT)
   rw[getD_both q]at h1;cases h1
 |succ f ih=>
  intro c a R E hr hy H;have q:=(mem_ready.1 hr).1;refine⟨fun h=>(by rw[h]at hr;cases hr),fun j Z=>?_⟩;by_cases d:j=i;·subst d;exact hy.qOp hi H
  ·have h1:=H.2 j (ready_mono Z d);obtain⟨J,z,u,B⟩:=mem_ready.1 Z;have aa:∀e∈z.after,Region.binds .any e=true→e.on≠i:=fun e he hb ae=>by have h1:=B e he hb;rw[ae,getD_both q]at h1;cases h1
   have h2:=qOp_put u (E j z u d J aa) (fun cs b=>K i oi cs b hi) (fun cs b=>K j z cs b u) hy h1;have I:∀k ok,ops[k]? =some ok→k≠i→(c.setIfInBounds j true).getD k true=false→
     (∀e∈ok.after,Region.binds .any e=true→e.on≠i)→oi.apart ops ok=true:=fun k ok hk af q ac=>by
    refine E k ok hk af ?_ ac;by_cases ab:j=k;·subst ab;exact J
    ·rw[getD_set_ne true ab]at q;exact q
   refine qOp_mono (fun a' h3=>ih (c.setIfInBounds j true) a' (R.set Z) I (ready_mono hr (Ne.symm d)) h3.1 ?_) h2;rw[Array.setIfInBounds_comm _ _ d];exact h3.2
def Qe8(ops:Array Oper)(n g:Nat):Nat→Nat→Array Bool→Bool
 |0,_,listed=>Region.seqB .any ops g n listed
 |f+1,k,listed=>(Region.ready .any ops listed).contains k&&Region.free .any ops listed k&&Qe8 ops n g f (k+1) (listed.setIfInBounds k true)
def Qct(ops:Array Oper)(m n:Nat):Bool:=
 (List.range ops.size).all fun t=>decide (t<n)||(List.range n).all fun h=>decide (h<m)||Jy ops ops.size t h
theorem Qio{m n g:Nat}{I:Act→Prop}(q:Region.noSelect ops=true)(hn:Qct ops m n=true):
  ∀(l:List Oper)(k:Nat)(c:Array Bool)(a:Act),(∀j,j<l.length→l[j]? =ops[k+j]?)→k+l.length=n→m≤k→Ji ops c→
   Qe8 ops n g l.length k c=true→wpQuiet P ops C I l a→
   Qlw P ops C (fun d R=>Region.seqB .any ops g n d=true∧I R) l.length c a
 |[],k,c,a,_,hk,_,_,hB,h=>⟨by simpa[Qe8]using hB,h⟩
 |o::l,k,c,a,hl,hk,hmk,hcl,hB,h=>by
  have h0:ops[k]? =some o:=by simpa using(hl 0 (by simp)).symm
  simp only[List.length_cons,Qe8,Bool.and_eq_true]at hB;obtain⟨⟨hr,hf⟩,E⟩:=hB;have K:k<n:=by simp only[List.length_cons]at hk;omega
  have u:k∈Region.ready .any ops c:=by simpa using hr
  have J:qOp P ops C k (wpQuiet P ops C I l) a:=by unfold qOp;simp only[h0];exact h
  obtain⟨v,hy,Z⟩:=yieldsIn_of_qOp h0 J;refine Qlx (F:=ops.size) (T:=fun j=>n≤j) h0 (Region.noSelect_spec q) (fun d R V=>seqB_ready V.1) (fun j oj U hT=>?_) l.length c a hcl (Region.free_spec h0 hf) u hy
   (Qio q hn l (k+1) _ _ (fun j U=>by have:=hl (j+1) (by simp;omega);simpa[Nat.add_assoc,Nat.add_comm 1 j]using this) (by simp only[List.length_cons]at hk;omega) (by omega) (hcl.set u) E Z)
  have B:j<ops.size:=(Array.getElem?_eq_some_iff.1 U).1;have h1:=List.all_eq_true.1 hn j (List.mem_range.2 B);simp only[Bool.or_eq_true,decide_eq_true_eq]at h1;rcases h1 with h1|h1;·omega
  ·have z:=List.all_eq_true.1 h1 k (List.mem_range.2 K);simp only[Bool.or_eq_true,decide_eq_true_eq]at z;rcases z with z|z;·omega
   ·exact z
def Qkc(o:Oper):Bool:=match o with
 |{dst:=some _,op:=.move _,guard:=none,..}=>true
 |_=>false
theorem Qd0{o:Oper}(h:Qkc o=true):∃d x,o.dst=some d∧o.op=.move x∧o.guard=none:=by
 unfold Qkc at h;split at h;·exact⟨_,_,rfl,rfl,rfl⟩
 ·cases h
def Lo(ops:Array Oper)(m n g h:Nat):Nat→Nat→Array Bool→Bool
 |0,k,listed=>Qe8 ops n g h k listed
 |f+1,k,listed=>(Region.ready .any ops listed).contains k&&Region.free .any ops listed k&&((ops[k]?).map Qkc).getD false&&Lo ops m n g h f (k+1) (listed.setIfInBounds k true)
def Qvd(ops:Array Oper)(m n:Nat):Bool:=
 Region.noSelect ops&&decide (m≤n)&&decide (n≤ops.size)&&Qct ops m n&&Lo ops m n (ops.size-n) (n-m) m 0 (Array.replicate ops.size false)
theorem Qe9{m n g:Nat}(hC:∃w,C w)(u:Region.noSelect ops=true)(hn:Qct ops m n=true)
  (hQ:∀c(a:Act)(d:Tmp)v w,Q (.panic c) (a.put (some d) v) w→Q (.panic c) a w){rest:List Oper}(K:rest.length=n-m)(af:m≤n)(hg:ops.size=n+g)
  (E:∀j,j<rest.length→rest[j]? =ops[m+j]?) (U:List Oper) (V:∀j,U[j]? =ops[n+j]?) (R:U.length=g):
  ∀(l:List Oper)(k:Nat)(q:Array Bool)(a:Act)(w:World),C w→(∀j,j<l.length→l[j]? =ops[k+j]?)→k+l.length=m→Ji ops q→
   Lo ops m n g (n-m) l.length k q=true→wpQuiet P ops C (fun J=>∀w',C w'→wpList P ops Q U J w') (l++rest) a→
   wpAny P .any ops Q (l.length+((n-m)+g)) q a w
 |[],k,q,a,w,hw,_,hk,hcl,hB,h=>by
  have ah:k=m:=by simpa using hk
  subst ah;simp only[List.length_nil,Nat.zero_add];have H:=Qio (P:=P) (C:=C) (g:=g) u hn rest k q a E (by omega) (Nat.le_refl _) hcl (by rw[K];simpa[Lo]using hB) (by simpa using h);rw[K]at H;refine Ln (fun B J w' ai hL=>?_) _ _ _ _ hw H;have:=wpAny_of_seq (P:=P) (md:=.any) (ops:=ops) (Q':=Q) U n B J w' V (by rw[R];exact hL.1) (hL.2 w' ai);rwa[R]at this
 |o::l,k,q,a,w,hw,hl,hk,hcl,hB,h=>by
  have h0:ops[k]? =some o:=by simpa using(hl 0 (by simp)).symm
  simp only[List.length_cons,Lo,Bool.and_eq_true]at hB;obtain⟨⟨⟨hr,hf⟩,I⟩,aj⟩:=hB;have aa:k∈Region.ready .any ops q:=by simpa using hr
  rw[h0]at I;simp only[Option.map_some,Option.getD_some]at I;obtain⟨ak,op,z,pos,after,ag⟩:=o;obtain⟨d,x,e1,e2,e3⟩:=Qd0 I;dsimp only at e1 e2 e3;subst e1 e2 e3;have Z:Yields P ops ⟨some d,.move x,z,pos,after,none⟩ (a.eval x) a:=.inl ⟨rfl,fun w'=>rfl⟩;have ab:(⟨some d,.move x,z,pos,after,none⟩::l:List Oper).length+((n-m)+g)=(l.length+((n-m)+g))+1:=by simp;omega
  rw[ab];refine wpAny_first (md:=.any) h0 (Region.noSelect_spec u) (fun c J w' hq=>hQ c J d _ w' hq) _ q a w (Region.free_spec h0 hf) aa Z ?_;refine Qe9 hC u hn hQ K af hg E U V R l (k+1) _ _ w hw (fun j hj=>by have:=hl (j+1) (by simp;omega);simpa[Nat.add_assoc,Nat.add_comm 1 j]using this) (by simp only[List.length_cons]at hk;omega) (hcl.set aa) aj ?_;have h':Oper.quiet P ⟨some d,.move x,z,pos,after,none⟩ a C (wpQuiet P ops C (fun J=>∀w',C w'→wpList P ops Q U J w') (l++rest)):=h;obtain⟨v,hv,hK⟩:=h';have ae:=hv w hw;have ac:w=w∧a.eval x=v:=ae;rw[ac.2];exact hK
theorem Qfa{id:Nat}{a:Act}{w:World}{l:List Oper}(m n:Nat)(C:World→Prop)(Z:P.follows .mixedOrders=true)(V:Qvd l.toArray m n=true)(U:C w.drew)
  (hQ:∀c(a:Act)(d:Tmp)v w,Q (.panic c) (a.put (some d) v) w→Q (.panic c) a w)
  (h:wpQuiet P l.toArray C (fun a'=>∀w',C w'→wpList P l.toArray Q (l.drop n) a' w') (l.take n) a):(Code.region id l.toArray true).wp P Q a w:=by
 simp only[Qvd,Bool.and_eq_true,decide_eq_true_eq]at V;obtain⟨⟨⟨⟨u,B⟩,R⟩,K⟩,J⟩:=V;have z:l.toArray.size=l.length:=by simp
 rw[z]at R;refine wp_region_any Z ?_;have E:Ji l.toArray (Array.replicate l.toArray.size false):=fun j oj _ hl=>by rw[getD_replicate_false]at hl;cases hl
 have k:(l.take n)=l.take m++(l.drop m).take (n-m):=by
  have:n=m+(n-m):=by omega
  conv=>lhs;rw[this]
  rw[List.take_add]
 rw[k]at h;have:=Qe9 (P:=P) (ops:=l.toArray) (C:=C) (Q:=Q) (m:=m) (n:=n) (g:=l.toArray.size-n) ⟨_,U⟩ u K hQ (rest:=(l.drop m).take (n-m)) (by simp;omega) B (by rw[z];omega)
  (fun j I=>by
   have q:j<n-m:=by simp at I;omega
   simp[List.getElem?_drop,q]) (l.drop n) (fun j=>by simp[List.getElem?_drop]) (by simp) (l.take m) 0 _ a _ U
  (fun j I=>by
   have q:j<m:=by simp at I;omega
   simp[q]) (by simp;omega) E (by
   have e:(l.take m).length=m:=by simp;omega
   rw[e];exact J) h
 have e:(l.take m).length+(n-m+(l.toArray.size-n))=l.toArray.size:=by simp;omega
 rw[e]at this;exact this
theorem Xq{id:Nat}{a:Act}{w:World}{l:List Oper}(m n:Nat)(q:P.follows .mixedOrders=true)(u:Qvd l.toArray m n=true)
  (z:∀c(a:Act)(d:Tmp)v w,Q (.panic c) (a.put (some d) v) w→Q (.panic c) a w)
  (h:wpQuiet P l.toArray (fun w'=>∃n,w'=w.drewN n) (fun k=>∀w',(∃n,w'=w.drewN n)→wpList P l.toArray Q (l.drop n) k w') (l.take n) a):(Code.region id l.toArray true).wp P Q a w:=
 Qfa m n _ q u ⟨1,rfl⟩ z h
end
theorem Qst{P:Program}{f:FuncId}{c:Array Value}{w:World}{a n:Nat}{v:Value}
  (h:Calls P f c (w.drewN (a+n)) fun e w'=>e=.returned v∧∃m,w'=(w.drewN (a+n)).drewN m):
  Calls P f c (w.drewN (a+n)) fun e d=>e=.returned v∧∃m,d=w.drewN (a+m):=
 h.mono fun _ _⟨q,m,k⟩=>⟨q,n+m,by rw[k,World.drewN_drewN,Nat.add_assoc]⟩
theorem Qfb{P:Program}{f:FuncId}{c:Array Value}{w:World}{n:Nat}{v:Value}
  (h:Calls P f c (w.drewN n) fun e w'=>e=.returned v∧w.drewN n=w'):Calls P f c (w.drewN n) fun e d=>e=.returned v∧∃m,d=w.drewN m:=
 h.mono fun _ _⟨q,k⟩=>⟨q,n,k.symm⟩
def Qh(w:World)(b:Nat)(cs:Array Value)(t:TypeId):Prop:=w.heap[b]? =some (.cells cs t (0,0))
theorem Qh.lt{w:World}{b:Nat}{cs:Array Value}{t:TypeId}(h:Qh w b cs t):b<w.heap.size:=(Array.getElem?_eq_some_iff.1 h).1
theorem Qh.cell{w:World}{b:Nat}{cs:Array Value}{t:TypeId}(h:Qh w b cs t)(i:Nat):w.cell? ⟨b,i,none⟩=cs[i]? :=by unfold Qh at h;simp[World.cell?,h]
theorem Qh.frozen{w:World}{b:Nat}{cs:Array Value}{t:TypeId}(h:Qh w b cs t)(i:Nat):w.frozen? ⟨b,i,none⟩=false:=by unfold Qh at h;simp[World.frozen?,h]
theorem Qh.set{w:World}{b:Nat}{cs:Array Value}{t:TypeId}(h:Qh w b cs t)(i:Nat)(v:Value):Qh (w.setCell ⟨b,i,none⟩ v) b (cs.setIfInBounds i v) t:=by unfold Qh at*;simp[World.setCell,Array.getElem?_modify,h]
theorem Qh.set'{w:World}{b:Nat}{cs cs':Array Value}{t:TypeId}(h:Qh w b cs t)(i:Nat)(v:Value)(e:cs.setIfInBounds i v=cs'):Qh (w.setCell ⟨b,i,none⟩ v) b cs' t:=e▸h.set i v
theorem Qh.other{w:World}{b:Nat}{cs:Array Value}{t:TypeId}(h:Qh w b cs t){a:Addr}(v:Value)(c:a.block≠b):Qh (w.setCell a v) b cs t:=by unfold Qh at*;rw[Below.heap_setCell _ _ _ _ (Ne.symm c)];exact h
theorem Qh.alloc{w:World}{b:Nat}{cs:Array Value}{t:TypeId}(h:Qh w b cs t)(o:Obj):Qh (w.alloc o) b cs t:=by have:=h.lt;unfold Qh at*;rw[Below.heap_alloc _ _ _ this];exact h
theorem Qh.new(w:World)(cs:Array Value)(t:TypeId):Qh (w.alloc (.cells cs t)) w.heap.size cs t:=by unfold Qh;show(w.heap.push _)[w.heap.size]? =_;simp
theorem Qh.new'{w:World}{n:Nat}(cs:Array Value)(t:TypeId)(hn:n=w.heap.size):Qh (w.alloc (.cells cs t)) n cs t:=hn▸Qh.new w cs t
theorem Qh.drewN{w:World}{b:Nat}{cs:Array Value}{t:TypeId}(h:Qh w b cs t)(n:Nat):Qh (w.drewN n) b cs t:=h
theorem Qh.drew{w:World}{b:Nat}{cs:Array Value}{t:TypeId}(h:Qh w b cs t):Qh w.drew b cs t:=h
structure Qc(S:Nat→Prop)(w w':World):Prop where
 os:w'.os=w.os
 tape:w'.tape=w.tape
 output:w'.output=w.output
 size:w.heap.size≤w'.heap.size
 block:∀k,k<w.heap.size→¬S k→w'.heap[k]? =w.heap[k]?
section
variable{S S':Nat→Prop}{w w1 w2:World}
theorem Qc.refl(S:Nat→Prop)(w:World):Qc S w w:=⟨rfl,rfl,rfl,Nat.le_refl _,fun _ _ _=>rfl⟩
theorem Qc.trans(h:Qc S w w1)(h':Qc S' w1 w2)(hs:∀k,S' k→S k∨w.heap.size≤k):Qc S w w2:=
 ⟨h'.os.trans h.os,h'.tape.trans h.tape,h'.output.trans h.output,Nat.le_trans h.size h'.size,fun k d q=>
  (h'.block k (Nat.lt_of_lt_of_le d h.size) (fun c=>(hs k c).elim q (fun h=>by omega))).trans (h.block k d q)⟩
theorem Qc.mono(h:Qc S w w1)(hs:∀k,S k→S' k∨w.heap.size≤k):Qc S' w w1:=
 ⟨h.os,h.tape,h.output,h.size,fun k c hn=>h.block k c (fun d=>(hs k d).elim hn (fun h=>by omega))⟩
theorem Qc.trans'(h:Qc S w w1)(h':Qc S w1 w2):Qc S w w2:=h.trans h' fun k c=>.inl c
theorem Qc.drewN(h:Qc S w w1)(n:Nat):Qc S w (w1.drewN n):=⟨h.os,h.tape,h.output,h.size,h.block⟩
theorem Qc.drew(h:Qc S w w1):Qc S w w1.drew:=⟨h.os,h.tape,h.output,h.size,h.block⟩
theorem Qc.alloc(h:Qc S w w1)(o:Obj):Qc S w (w1.alloc o):=
 ⟨h.os,h.tape,h.output,Nat.le_trans h.size (by simp),fun k c d=>(Below.heap_alloc _ _ _ (Nat.lt_of_lt_of_le c h.size)).trans (h.block k c d)⟩
theorem Qc.setCell(h:Qc S w w1){a:Addr}(v:Value)(ha:S a.block∨w.heap.size≤a.block):Qc S w (w1.setCell a v):=
 ⟨h.os,h.tape,h.output,by simpa[World.setCell]using h.size,fun k d c=>(Below.heap_setCell _ _ _ _ (fun e=>by
  subst e;exact ha.elim c (fun h=>by omega))).trans (h.block k d c)⟩
theorem Qc.ofBelow(h:Below w.heap.size w w1):Qc S w w1:=⟨h.os,h.tape,h.output,h.size,fun k c _=>h.block k c⟩
theorem Qc.toBelow(h:Qc S w w1){B:Nat}(q:B≤w.heap.size)(hs:∀k,S k→B≤k):Below B w w1:=
 ⟨h.os,h.tape,h.output,h.size,fun k d=>h.block k (by omega) (fun c=>by have:=hs k c;omega)⟩
theorem Qc.grown{row:Option Nat}(h:Qc S w w1)(c:w1.grownBy w2 row)(hr:∀k,row=some k→S k∨w.heap.size≤k):Qc S w w2:=
 ⟨c.os.trans h.os,c.tape.trans h.tape,c.output.trans h.output,Nat.le_trans h.size c.size,fun k d q=>
  (c.block k (Nat.lt_of_lt_of_le d h.size) (fun e=>(hr k e.symm).elim q (fun h=>by omega))).trans (h.block k d q)⟩
theorem Qc.blk(h:Qc S w w1){b:Nat}{cs:Array Value}{t:TypeId}(c:Qh w b cs t)(d:¬S b):Qh w1 b cs t:=
 (h.block b c.lt d).trans c
theorem Qc.heap(h:Qc S w w1){b:Nat}{o:Obj}(c:w.heap[b]? =some o)(d:¬S b):w1.heap[b]? =some o:=
 (h.block b (Array.getElem?_eq_some_iff.1 c).1 d).trans c
theorem Qc.cell(h:Qc S w w1){a:Addr}(ha:a.block<w.heap.size)(c:¬S a.block):w1.cell? a=w.cell? a:=
 World.cell?_of_block (w:=w) (h.block a.block ha c)
end
abbrev Qb:Nat→Prop:=fun _=>False
theorem Qc.below{w w1:World}(h:Qc Qb w w1):Below w.heap.size w w1:=h.toBelow (Nat.le_refl _) fun _ h=>h.elim
def Zr{T:Type}(cells:T→List Value)(l:List T):List Value:=l.flatMap cells
section
variable{T:Type}{cells:T→List Value}{sz:Nat}
theorem Xd(hc:∀x,(cells x).length=sz):∀l:List T,(Zr cells l).length=l.length*sz
 |[]=>by simp[Zr]
 |x::l=>by have:=Xd hc l;simp only[Zr,List.flatMap_cons,List.length_append,List.length_cons,hc]at*;rw[this,Nat.add_mul];omega
theorem Ko(x:T)(l:List T):Zr cells (x::l)=cells x++Zr cells l:=rfl
theorem Ob(a b:List T):Zr cells (a++b)=Zr cells a++Zr cells b:=by simp[Zr]
theorem Ol(hc:∀x,(cells x).length=sz):∀(l:List T)(i j:Nat)(hi:i<l.length),j<sz→(Zr cells l)[i*sz+j]? =(cells l[i])[j]?
 |x::l,0,j,_,hj=>by rw[Ko,List.getElem?_append_left (by rw[hc];omega)];simp
 |x::l,i+1,j,hi,hj=>by rw[Ko,List.getElem?_append_right (by rw[hc,Nat.add_mul];omega),hc,show(i+1)*sz+j-sz=i*sz+j by rw[Nat.add_mul];omega];simpa using Ol hc l i j (by simpa using hi) hj
theorem Qfc(hc:∀x,(cells x).length=sz)(l:List T)(n:Nat):(Zr cells l).take (n*sz)=Zr cells (l.take n):=by
 induction l generalizing n with
 |nil=>simp[Zr]
 |cons x l c=>
  cases n with
  |zero=>simp[Zr]
  |succ n=>
   rw[Ko,List.take_succ_cons,Ko,List.take_append,hc,show(n+1)*sz-sz=n*sz by rw[Nat.add_mul];omega,c,
    List.take_of_length_le (by rw[hc,Nat.add_mul];omega)]
theorem Qip(hc:∀x,(cells x).length=sz):∀(l:List T)(i:Nat)(x:T),i<l.length→Zr cells (l.set i x)=(Zr cells l).take (i*sz)++cells x++(Zr cells l).drop ((i+1)*sz)
 |y::l,0,x,_=>by simp[Ko,hc]
 |y::l,i+1,x,hi=>by
  have c:=Qip hc l i x (by simpa using hi);have e1:(i+1)*sz=sz+i*sz:=by rw[Nat.add_mul];omega
  have d:(i+1+1)*sz=sz+(i+1)*sz:=by rw[Nat.add_mul (i+1)];omega
  have h1:(cells y++Zr cells l).take (sz+i*sz)=cells y++(Zr cells l).take (i*sz):=by rw[List.take_append,hc,Nat.add_sub_cancel_left,List.take_of_length_le (by rw[hc];omega)]
  have k:(cells y++Zr cells l).drop (sz+(i+1)*sz)=(Zr cells l).drop ((i+1)*sz):=by rw[List.drop_append,hc,Nat.add_sub_cancel_left,List.drop_of_length_le (by rw[hc];omega),List.nil_append]
  rw[Zb,Ko,Ko,c,d,k,e1,h1];simp[List.append_assoc]
end
def RowBlk{T:Type}(cells:T→List Value)(w:World)(r:Nat)(l:List T)(t:TypeId):Prop:=Qh w r (Zr cells l).toArray t
theorem RowBlk.cellAt{T:Type}{cells:T→List Value}{sz:Nat}(hc:∀x,(cells x).length=sz){w:World}{r:Nat}{l:List T}{t:TypeId}(h:RowBlk cells w r l t)(i:Nat)(hi:i<l.length)(j:Nat)(u:Value)(c:(cells l[i])[j]? =some u):
  w.cell? ⟨r,i*sz+j,none⟩=some u:=by
 have d:j<sz:=by have:=(List.getElem?_eq_some_iff.1 c).1;rw[hc]at this;exact this
 rw[Qh.cell h];simp only[Zf];rw[Ol hc l i j hi d];exact c
theorem RowBlk.row{T:Type}{cells:T→List Value}{sz:Nat}(hc:∀x,(cells x).length=sz){w:World}{r:Nat}{l:List T}{t:TypeId}(h:RowBlk cells w r l t):Yr cells sz w (some ⟨r,0,none⟩) l:=by intro i hi;refine⟨r,0,rfl,fun j u c=>?_⟩;rw[Nat.zero_add];exact h.cellAt hc i hi j u c
def setW(w:World)(r:Nat):Nat→List Value→World
 |_,[]=>w
 |k,v::vs=>setW (w.setCell ⟨r,k,none⟩ v) r (k+1) vs
def setL:List Value→Nat→List Value→List Value
 |l,_,[]=>l
 |l,k,v::vs=>setL (l.set k v) (k+1) vs
theorem Qry:∀(vs l:List Value)(k:Nat),k+vs.length≤l.length→setL l k vs=l.take k++vs++l.drop (k+vs.length)
 |[],l,k,_=>by simp[setL]
 |v::vs,l,k,h=>by
  simp only[List.length_cons]at h;have c:k<l.length:=by omega
  rw[setL,Qry vs (l.set k v) (k+1) (by rw[List.length_set];omega)];have h1:(l.set k v).take (k+1)=l.take k++[v]:=by rw[List.take_succ_eq_append_getElem (by simpa using c)];simp[List.take_set_of_le]
  have d:(l.set k v).drop (k+1+vs.length)=l.drop (k+(vs.length+1)):=by rw[List.drop_set_of_lt (by omega)];congr 1;omega
  rw[h1,d];simp
theorem Qh.setW{r:Nat}{t:TypeId}:∀(vs:List Value){w:World}{cs:List Value}(k:Nat),Qh w r cs.toArray t→Qh (setW w r k vs) r (setL cs k vs).toArray t
 |[],_,_,_,h=>h
 |v::vs,w,cs,k,h=>Qh.setW vs (k+1) (h.set' k v (by simp))
theorem RowBlk.store{T:Type}{cells:T→List Value}{sz:Nat}(hc:∀x,(cells x).length=sz){w:World}{r:Nat}{l:List T}{t:TypeId}(h:RowBlk cells w r l t)(i:Nat)(hi:i<l.length)(x:T):
  RowBlk cells (setW w r (i*sz) (cells x)) r (l.set i x) t:=by
 have h1:=Qh.setW (cells x) (i*sz) h;have c:(i+1)*sz≤l.length*sz:=Nat.mul_le_mul_right _ hi;rw[Nat.add_mul]at c;rw[Qry _ _ _ (by rw[hc,Xd hc];omega),hc,show i*sz+sz=(i+1)*sz by rw[Nat.add_mul];omega,←Qip hc l i x hi]at h1;exact h1
theorem Yr.drop{T:Type}{cells:T→List Value}{sz:Nat}{w:World}{g o:Nat}{l:List T}(h:Yr cells sz w (some ⟨g,o,none⟩) l)(k:Nat):Yr cells sz w (some ⟨g,o+k*sz,none⟩) (l.drop k):=by
 intro i hi;have c:k+i<l.length:=by simp at hi;omega
 obtain⟨B,E,q,z⟩:=h (k+i) c;simp only[Option.some.injEq,Addr.mk.injEq]at q;obtain⟨rfl,rfl,_⟩:=q;refine⟨g,o+k*sz,rfl,fun j u d=>?_⟩;rw[List.getElem_drop]at d;have:=z j u d;rw[Nat.add_mul]at this;rw[show o+k*sz+i*sz+j=o+(k*sz+i*sz)+j by omega];exact this
theorem Yr.take{T:Type}{cells:T→List Value}{sz:Nat}{w:World}{a:Option Addr}{l:List T}(h:Yr cells sz w a l)(k:Nat):Yr cells sz w a (l.take k):=by
 intro i hi;have c:i<l.length:=by simp at hi;omega
 obtain⟨g,o,rfl,q⟩:=h i c;refine⟨g,o,rfl,fun j u d=>q j u ?_⟩;rw[List.getElem_take]at d;exact d
theorem Yr.keep{T:Type}{cells:T→List Value}{sz:Nat}{w w1:World}{a:Option Addr}{l:List T}{S:Nat→Prop}(h:Yr cells sz w a l)(hc:Qc S w w1)(k:∀ad,a=some ad→¬S ad.block):Yr cells sz w1 a l:=by intro i hi;obtain⟨g,o,rfl,c⟩:=h i hi;refine⟨g,o,rfl,fun j u d=>?_⟩;rw[hc.cell (Qkb (c j u d)) (k ⟨g,o,none⟩ rfl)];exact c j u d
theorem Zg(S:Nat→Prop)(w:World):Qc S w w:=Qc.refl S w
theorem Zh{S:Nat→Prop}{w v:World}(h:Qc S w v)(o:Obj):Qc S w (v.alloc o):=h.alloc o
theorem Zi{S:Nat→Prop}{w v:World}(h:Qc S w v)(n:Nat):Qc S w (v.drewN n):=h.drewN n
theorem Zj{S:Nat→Prop}{w v:World}(h:Qc S w v):Qc S w v.drew:=h.drew
theorem Zk{S:Nat→Prop}{w v:World}{a:Addr}(h:Qc S w v)(x:Value)(b:S a.block ∨ w.heap.size ≤ a.block):Qc S w (v.setCell a x):=h.setCell x b
theorem Qcu(n:Int)(d:0≤n)(c:n<2 ^ 64):IntKind.u64.wrap n=n:=by
 have:IntKind.u64.wrap n=n%18446744073709551616:=by simp[IntKind.wrap,IntKind.bits,IntKind.signed]
 rw[this];omega
theorem Ey(x:Int)(d:0≤x)(c:x<18446744073709551616):bits .and .u64 x 4294967295=x%4294967296:=
 bits_mask .u64 64 (by decide) Qcu 32 (by decide) x d c
theorem Qve(x y:Int)(q:0≤x)(c:x<4294967296)(k:0≤y)(d:y<4294967296):bits .or .u64 (x*4294967296) y=x*4294967296+y:=
 bits_join .u64 64 (by decide) Qcu 32 _ y (by omega) (by omega) (by omega) k d (by omega)
theorem Qrz{w wr W:World}{s:Nat}{k0 k1 k2 B:Array Value}{u q d z:TypeId}{X:Prop}(hs:s=w.heap.size)(H:Qc Qb w wr∧Qh wr s k0 u∧Qh wr (s+1) k1 q∧Qh wr (s+1+1) k2 d∧Qh wr (s+1+1+1) B z)
  (c:Qc (fun k=>k=s+1+1+1) wr W) (E:X):Qc Qb w W∧Qh W s k0 u∧Qh W (s+1) k1 q∧Qh W (s+1+1) k2 d∧X:=
 ⟨H.1.trans c (fun k I=>.inr (by omega)),c.blk H.2.1 (by omega),c.blk H.2.2.1 (by omega),c.blk H.2.2.2.1 (by omega),E⟩
theorem Qly(a b a0 a1 b0 b1 E ab V aa q0 r0 n1 q1 r1 n2 q2 r2 n3 q3 r3:Int)(w:World)
    (S0:Hid (bits .and .u64 a 4294967295=a0∧a/4294967296=a1∧bits .and .u64 b 4294967295=b0∧b/4294967296=b1))
    (S1:Hid (a0*b0=E∧0≤E∧E≤18446744065119617025∧bits .and .u64 E 4294967295=q0∧E/4294967296=r0))
    (S2:Hid (a0*b1=ab∧0≤ab∧ab≤18446744065119617025∧0≤r0∧r0≤4294967295∧ab+r0=n1∧bits .and .u64 n1 4294967295=q1∧n1/4294967296=r1))
    (S3:Hid (a1*b0=V∧0≤V∧V≤18446744065119617025∧0≤q1∧q1≤4294967295∧V+q1=n2∧bits .and .u64 n2 4294967295=q2∧n2/4294967296=r2))
    (S4:Hid (a1*b1=aa∧0≤aa∧aa≤18446744065119617025∧0≤r1∧r1≤4294967295∧0≤r2∧r2≤4294967295∧aa+r1+r2=n3∧bits .and .u64 n3 4294967295=q3∧n3/4294967296=r3))
    (S5:Hid (0≤r3∧r3≤4294967295∧0≤q3∧q3≤4294967295∧0≤q2∧q2≤4294967295∧0≤q0∧q0≤4294967295)):
    Cl 243 #[.int .u64 a,.int .u64 b] w fun e w'=>e=.returned (.agg #[.int .u64 (r3*4294967296+q3),.int .u64 (q2*4294967296+q0)])∧Qc Qb w w':=by
  go_enter func243,ntmps243
  have s0:=S0.out
  obtain⟨d,J,q,U⟩:=s0
  go_wp2
  clear d J q U
  go_loopw [22] (fun i wr=>Qc Qb w wr∧Qh wr w.heap.size #[.int .u64 0,.int .u64 0] 291∧Qh wr (w.heap.size+1) #[.int .u64 a0,.int .u64 a1] 319∧Qh wr (w.heap.size+1+1) #[.int .u64 b0,.int .u64 b1] 319∧
      ((i=.int .i64 0∧Qh wr (w.heap.size+1+1+1) #[.int .u64 0,.int .u64 0,.int .u64 0,.int .u64 0] 320)∨(i=.int .i64 1∧Qh wr (w.heap.size+1+1+1) #[.int .u64 q0,.int .u64 q1,.int .u64 r1,.int .u64 0] 320)∨
       (i=.int .i64 2∧Qh wr (w.heap.size+1+1+1) #[.int .u64 q0,.int .u64 q2,.int .u64 q3,.int .u64 r3] 320))) (fun i _=>2-(intOf i).toNat)
  case atStart=>
    refine⟨?_,?_,?_,?_,.inl ⟨rfl,Qh.new' _ _ (by simp)⟩⟩
    · (repeat' (first|(with_reducible first|exact Zg _ _|assumption|refine Zh ?_ _|refine Zi ?_ _|refine Zj ?_ |refine Zk ?_ _ ?_ |(apply Or.inl;rfl))|(apply Or.inl;simp;done)|(apply Or.inr;simp;first|done|omega)))
    · exact(((Qh.new _ _ _).alloc _).alloc _).alloc _
    · exact((Qh.new' _ _ (by simp)).alloc _).alloc _
    · exact(Qh.new' _ _ (by simp)).alloc _
  case round=>
    obtain⟨hc,B0,K,R,⟨rfl,c⟩|⟨rfl,c⟩|⟨rfl,c⟩⟩:=hrel
    · have ae:=K.cell 0
      have ag:=K.cell 1
      have ac:=R.cell 0
      have af:=R.cell 1
      have I:=c.cell 0
      have u:=c.cell 1
      have B:=c.cell 2
      have z:=c.cell 3
      have f3:=c.frozen
      have hs:=c.lt
      simp at ae ag ac af I u B z
      have HB:=O (And.intro hc (And.intro B0 (And.intro K (And.intro R c))))
      clear hc B0 K R c
      go_wp2
      refine wp_loop_rounds 3 ?_
      rw[rounds_succ]
      have s1:=S1.out
      obtain⟨d,J,q,U,Z⟩:=s1
      go_wp2
      go_quiet (fail)
      go_wp2
      clear d J q U Z
      rw[rounds_succ]
      have s2:=S2.out
      obtain⟨d,J,q,U,Z,x6,x7,x8⟩:=s2
      go_wp2
      go_quiet (fail)
      go_wp2
      clear d J q U Z x6 x7 x8
      rw[rounds_succ]
      go_wp2
      go_roundw
      case rel=>
        refine Qrz rfl HB.out ?_ (.inr (.inl ⟨rfl,?_⟩))
        · (repeat' (first|(with_reducible first|exact Zg _ _|assumption|refine Zh ?_ _|refine Zi ?_ _|refine Zj ?_ |refine Zk ?_ _ ?_ |(apply Or.inl;rfl))|(apply Or.inl;simp;done)|(apply Or.inr;simp;first|done|omega)))
        · exact((((HB.out.2.2.2.2.drewN _).set 0 _).drewN _).set 1 _).set 2 _
      case measure=>simp[intOf]
    · have ae:=K.cell 0
      have ag:=K.cell 1
      have ac:=R.cell 0
      have af:=R.cell 1
      have I:=c.cell 0
      have u:=c.cell 1
      have B:=c.cell 2
      have z:=c.cell 3
      have f3:=c.frozen
      have hs:=c.lt
      simp at ae ag ac af I u B z
      have HB:=O (And.intro hc (And.intro B0 (And.intro K (And.intro R c))))
      clear hc B0 K R c
      go_wp2
      refine wp_loop_rounds 3 ?_
      rw[rounds_succ]
      have s1:=S3.out
      obtain⟨d,J,q,U,Z,x6,x7,x8⟩:=s1
      go_wp2
      go_quiet (fail)
      go_wp2
      clear d J q U Z x6 x7 x8
      rw[rounds_succ]
      have s2:=S4.out
      obtain⟨d,J,q,U,Z,x6,x7,x8,x9,aj⟩:=s2
      go_wp2
      go_quiet (fail)
      go_wp2
      clear d J q U Z x6 x7 x8 x9 aj
      rw[rounds_succ]
      go_wp2
      go_roundw
      case rel=>
        refine Qrz rfl HB.out ?_ (.inr (.inr ⟨rfl,?_⟩))
        · (repeat' (first|(with_reducible first|exact Zg _ _|assumption|refine Zh ?_ _|refine Zi ?_ _|refine Zj ?_ |refine Zk ?_ _ ?_ |(apply Or.inl;rfl))|(apply Or.inl;simp;done)|(apply Or.inr;simp;first|done|omega)))
        · exact((((HB.out.2.2.2.2.drewN _).set 1 _).drewN _).set 2 _).set 3 _
      case measure=>simp[intOf]
    · have I:=c.cell 0
      have u:=c.cell 1
      have B:=c.cell 2
      have z:=c.cell 3
      have ai:=B0.cell 0
      have ah:=B0.cell 1
      have f0:=B0.frozen
      have hs:=c.lt
      simp at I u B z ai ah
      have HB:=O (And.intro hc (And.intro B0 (And.intro K (And.intro R c))))
      clear hc B0 K R c
      have s5:=S5.out
      obtain⟨d,J,q,U,Z,x6,x7,x8⟩:=s5
      have o1:=Qve r3 q3 d (by omega) q (by omega)
      have o2:=Qve q2 q0 Z (by omega) x7 (by omega)
      go_wp2
      refine bodyPost_ret (v:=.agg #[.int .u64 (r3*4294967296+q3),.int .u64 (q2*4294967296+q0)]) (by simp[results,Tryz.results243,go_sem,ai,ah]) rfl ⟨rfl,?_⟩
      refine(HB.out.1).trans (S':=fun k=>k=w.heap.size) ?_ (fun k hk=>.inr (by omega))
      (repeat' (first|(with_reducible first|exact Zg _ _|assumption|refine Zh ?_ _|refine Zi ?_ _|refine Zj ?_ |refine Zk ?_ _ ?_ |(apply Or.inl;rfl))|(apply Or.inl;simp;done)|(apply Or.inr;simp;first|done|omega)))
theorem Uz(a b:Nat)(w:World)(ha:a<18446744073709551616)(hb:b<18446744073709551616):
  Cl 243 #[.int .u64 (a:Int),.int .u64 (b:Int)] w fun e w'=>e=.returned (.agg #[.int .u64 ((a*b/18446744073709551616:Nat):Int),.int .u64 ((a*b%18446744073709551616:Nat):Int)])∧Qc Qb w w':=by
 obtain⟨k,aq⟩:∃x:Int,x=(a:Int)%4294967296:=⟨_,rfl⟩;obtain⟨a1,aj⟩:∃x:Int,x=(a:Int)/4294967296:=⟨_,rfl⟩;obtain⟨d,ao⟩:∃x:Int,x=(b:Int)%4294967296:=⟨_,rfl⟩;obtain⟨b1,ai⟩:∃x:Int,x=(b:Int)/4294967296:=⟨_,rfl⟩;have pr:∀x y:Int,0≤x→x≤4294967295→0≤y→y≤4294967295→0≤x*y∧x*y≤18446744065119617025:=fun x y h1 h2 h3 h4=>
  ⟨Int.mul_nonneg h1 h3,Int.le_trans (Int.mul_le_mul h2 h4 h3 (by omega)) (by decide)⟩
 obtain⟨c,U⟩:∃x,k*d=x:=⟨_,rfl⟩;obtain⟨u,K⟩:∃x,k*b1=x:=⟨_,rfl⟩;obtain⟨q,z⟩:∃x,a1*d=x:=⟨_,rfl⟩;obtain⟨J,B⟩:∃x,a1*b1=x:=⟨_,rfl⟩;have R:=pr k d (by omega) (by omega) (by omega) (by omega);have E:=pr k b1 (by omega) (by omega) (by omega) (by omega);have V:=pr a1 d (by omega) (by omega) (by omega) (by omega);have I:=pr a1 b1 (by omega) (by omega) (by omega) (by omega);have am:(a:Int)*(b:Int)=J*18446744073709551616+(q+u)*4294967296+c:=by
  have e1:(a:Int)=a1*4294967296+k:=by omega
  have e2:(b:Int)=b1*4294967296+d:=by omega
  rw[e1,e2,←U,←K,←z,←B];simp only[Int.add_mul,Int.mul_add];have r1:a1*4294967296*(b1*4294967296)=a1*b1*18446744073709551616:=by rw[Int.mul_assoc,Int.mul_left_comm 4294967296,←Int.mul_assoc a1 b1];rfl
  have r2:a1*4294967296*d=a1*d*4294967296:=by rw[Int.mul_assoc,Int.mul_comm 4294967296,←Int.mul_assoc]
  have Z:k*(b1*4294967296)=k*b1*4294967296:=by rw[Int.mul_assoc]
  rw[r1,r2,Z];omega
 rw[U]at R;rw[K]at E;rw[z]at V;rw[B]at I;have A1:=Ey a (by omega) (by omega);have B1:=Ey b (by omega) (by omega);clear pr;obtain⟨q0,aa⟩:∃x:Int,x=c%4294967296:=⟨_,rfl⟩;obtain⟨r0,ak⟩:∃x:Int,x=c/4294967296:=⟨_,rfl⟩;obtain⟨n1,af⟩:∃x:Int,u+r0=x:=⟨_,rfl⟩;obtain⟨q1,ag⟩:∃x:Int,x=n1%4294967296:=⟨_,rfl⟩;obtain⟨r1,ae⟩:∃x:Int,x=n1/4294967296:=⟨_,rfl⟩;obtain⟨n2,ah⟩:∃x:Int,q+q1=x:=⟨_,rfl⟩;obtain⟨q2,an⟩:∃x:Int,x=n2%4294967296:=⟨_,rfl⟩;obtain⟨r2,al⟩:∃x:Int,x=n2/4294967296:=⟨_,rfl⟩;obtain⟨n3,ab⟩:∃x:Int,J+r1+r2=x:=⟨_,rfl⟩;obtain⟨q3,ac⟩:∃x:Int,x=n3%4294967296:=⟨_,rfl⟩;obtain⟨Z,ar⟩:∃x:Int,x=n3/4294967296:=⟨_,rfl⟩;have X0:=Ey c (by omega) (by omega);have X1:=Ey n1 (by omega) (by omega);have X2:=Ey n2 (by omega) (by omega);have X3:=Ey n3 (by omega) (by omega);have key:(a:Int)*(b:Int)=(Z*4294967296+q3)*18446744073709551616+(q2*4294967296+q0):=by rw[am];omega
 have ap:((a*b/18446744073709551616:Nat):Int)=Z*4294967296+q3:=by
  have:((a*b:Nat):Int)=(a:Int)*(b:Int):=by simp
  omega
 have au:((a*b%18446744073709551616:Nat):Int)=q2*4294967296+q0:=by
  have:((a*b:Nat):Int)=(a:Int)*(b:Int):=by simp
  omega
 rw[ap,au];exact Qly a b k a1 d b1 c u q J q0 r0 n1 q1 r1 n2 q2 r2 n3 q3 Z w
  (O ⟨A1.trans aq.symm,aj.symm,B1.trans ao.symm,ai.symm⟩)
  (O ⟨U,R.1,R.2,X0.trans aa.symm,ak.symm⟩)
  (O ⟨K,E.1,E.2,by omega,by omega,af,X1.trans ag.symm,ae.symm⟩)
  (O ⟨z,V.1,V.2,by omega,by omega,ah,X2.trans an.symm,al.symm⟩)
  (O ⟨B,I.1,I.2,by omega,by omega,by omega,by omega,ab,X3.trans ac.symm,ar.symm⟩)
  (O ⟨by omega,by omega,by omega,by omega,by omega,by omega,by omega,by omega⟩)
def Qiq(n:Nat):Value:=.agg #[.int .u64 ((n/18446744073709551616:Nat):Int),.int .u64 ((n%18446744073709551616:Nat):Int)]
theorem Qr0(a b:Nat)(w:World):
  Cl 244 #[.int .u64 (a:Int),.int .u64 (b:Int)] w fun e w'=>e=.returned (.int .i64 (if a<b then-1 else if b<a then 1 else 0))∧w=w':=by
 by_cases h1:a<b;·rw[if_pos h1];go_enter func244,ntmps244;go_wp2;go_ret;exact⟨rfl,rfl⟩
 ·rw[if_neg h1];by_cases c:b<a;·rw[if_pos c];go_enter func244,ntmps244;go_wp2;go_ret;exact⟨rfl,rfl⟩
  ·rw[if_neg c];go_enter func244,ntmps244;go_wp2;go_ret;exact⟨rfl,rfl⟩
theorem Qo6(h1 l1 d l2:Nat)(r:Int)(w:World)(hr:(if h1<d then(-1:Int)else if d<h1 then 1 else if l1<l2 then-1 else if l2<l1 then 1 else 0)=r):
  Cl 232 #[.agg #[.int .u64 (h1:Int),.int .u64 (l1:Int)],.agg #[.int .u64 (d:Int),.int .u64 (l2:Int)]] w fun e w'=>e=.returned (.int .i64 r)∧Qc Qb w w':=by
 have c:=O (fun w=>Qr0 h1 d w);have q:=O (fun w=>Qr0 l1 l2 w);by_cases u:h1<d;·rw[if_pos u]at hr c;subst hr;go_enter func232,ntmps232;go_wp2_with fail;refine(c.out _).mono ?_;rintro e w1⟨rfl,rfl⟩;go_wp2;go_ret;refine⟨rfl,?_⟩;(repeat' (first|(with_reducible first|exact Zg _ _|assumption|refine Zh ?_ _|refine Zi ?_ _|refine Zj ?_ |refine Zk ?_ _ ?_ |(apply Or.inl;rfl))|(apply Or.inl;simp;done)|(apply Or.inr;simp;first|done|omega)))
 ·rw[if_neg u]at hr c;by_cases k:d<h1;·rw[if_pos k]at hr c;subst hr;go_enter func232,ntmps232;go_wp2_with fail;refine(c.out _).mono ?_;rintro e w1⟨rfl,rfl⟩;go_wp2;go_ret;refine⟨rfl,?_⟩;(repeat' (first|(with_reducible first|exact Zg _ _|assumption|refine Zh ?_ _|refine Zi ?_ _|refine Zj ?_ |refine Zk ?_ _ ?_ |(apply Or.inl;rfl))|(apply Or.inl;simp;done)|(apply Or.inr;simp;first|done|omega)))
  ·rw[if_neg k]at hr c;rw[hr]at q;go_enter func232,ntmps232;go_wp2_with fail;refine(c.out _).mono ?_;rintro e w1⟨rfl,rfl⟩;go_wp2_with fail;refine(q.out _).mono ?_;rintro e w1⟨rfl,rfl⟩;go_wp2;go_ret;refine⟨rfl,?_⟩;(repeat' (first|(with_reducible first|exact Zg _ _|assumption|refine Zh ?_ _|refine Zi ?_ _|refine Zj ?_ |refine Zk ?_ _ ?_ |(apply Or.inl;rfl))|(apply Or.inl;simp;done)|(apply Or.inr;simp;first|done|omega)))
def Qep(m n:Nat):Int:=if m<n then-1 else if n<m then 1 else 0
theorem Qo7(m n:Nat):(if m/18446744073709551616<n/18446744073709551616 then(-1:Int)else if n/18446744073709551616<m/18446744073709551616 then 1 else if m%18446744073709551616<n%18446744073709551616 then-1 else if n%18446744073709551616<m%18446744073709551616 then 1 else 0)=Qep m n:=by
 unfold Qep;repeat' split
 all_goals omega
theorem Qfd(m n:Nat)(w:World):
  Cl 232 #[.agg #[.int .u64 ((m/18446744073709551616:Nat):Int),.int .u64 ((m%18446744073709551616:Nat):Int)],.agg #[.int .u64 ((n/18446744073709551616:Nat):Int),.int .u64 ((n%18446744073709551616:Nat):Int)]] w fun e w'=>e=.returned (.int .i64 (Qep m n))∧Qc Qb w w':=
 Qo6 _ _ _ _ _ w (Qo7 m n)
end Go.Proofs.YtnnhmpehkbihnaaGreat
