/- A part of the proof: no condition. -/
import Derived.Test.YtnnhmpehkbihnaaGreatRows
import Derived.WalkKit
import Derived.ProofKit
import Derived.OpenShut
import Derived.SizedLaws
import Derived.Carry
import Derived.Deep.Slices
import Derived.Deep.QuietTactic
import Derived.StillTail
import Derived.BigQuiet
import Derived.Laws.OwnMore
import Derived.Laws.BitsLemmas
import Derived.IntWalk
namespace Go.Proofs.YtnnhmpehkbihnaaGreat
set_option linter.unusedVariables false
set_option maxRecDepth 100000
set_option maxHeartbeats 4000000
open Go.RowKit
open Go.Proofs.Tryz
abbrev Cl:=Calls prog
def Hi(p:Prop):Prop:=p
theorem Hi.o{p:Prop}(h:Hi p):p:=h
theorem Zo{P:Program}{f:FuncId}{a:Array Value}{w:World}{R S:Ending→World→Prop}(h:Hi (Calls P f a w R))(k:∀e w',R e w'→S e w'):Calls P f a w S:=h.mono k
theorem Zz{P:Program}{f:FuncId}{a:Array Value}{w:World}{v:Value}{R:World→Prop}{S:Ending→World→Prop}(h:Calls P f a w fun e w'=>e=.returned v∧R w')(k:∀w',R w'→S (.returned v) w'):Calls P f a w S:=h.mono fun e w' p=>p.1▸k w' p.2
theorem Zy{P:Program}{f:FuncId}{a:Array Value}{w:World}{v:Value}{R:World→Prop}{S:Ending→World→Prop}(h:Hi (Calls P f a w fun e w'=>e=.returned v∧R w'))(k:∀w',R w'→S (.returned v) w'):Calls P f a w S:=Zz h k
theorem Zq:prog.follows .mixedOrders=true:=by kernel_rfl
theorem Zx{α:Sort _}(a:α):∃b,b=a:=⟨a,rfl⟩
theorem Zs{α:Type}{a b:α}(h:some a=some b):a=b:=Option.some.inj h
theorem Zt{a b:Prop}(h:a)(k:b):a∧b:=⟨h,k⟩
theorem Zu{α:Type}{a b:α}{l:List α}:a∈b::l↔a=b∨a∈l:=List.mem_cons
theorem Zv(n:Nat):n≤n:=Nat.le_refl n
theorem Zw(a b:Bool):((a&&b)=true)=(a=true∧b=true):=Bool.and_eq_true a b
theorem Zl{α:Type}{a:α}{s t:List α}:a∈s++t↔a∈s∨a∈t:=List.mem_append
theorem Zm{α:Type}{a:α}{l:List α}:(a::l).length=l.length+1:=List.length_cons
theorem Zn{α β:Type}{f:α→β}{a:α}:Option.map f (some a)=some (f a):=rfl
theorem Zp{n m k:Nat}(h:n≤m)(g:m≤k):n≤k:=Nat.le_trans h g
theorem Zr{α:Type}{a:α}(b:α){l:List α}(h:a∈l):a∈b::l:=List.mem_cons_of_mem b h
theorem Z1{α:Type}{l:List α}{i:Nat}{a:α}:l[i]? =some a↔∃h:i<l.length,l[i]=a:=List.getElem?_eq_some_iff
theorem Z2{α:Type}{l:Array α}{i:Nat}{a:α}:l[i]? =some a↔∃h:i<l.size,l[i]=a:=Array.getElem?_eq_some_iff
theorem Z3{α β:Type}{b:β}{f:α→β}{l:List α}:b∈l.map f↔∃a,a∈l∧f a=b:=List.mem_map
theorem Za{α:Type}(l:List α)(i:Nat)(a:α):l.toArray.setIfInBounds i a=(l.set i a).toArray:=List.setIfInBounds_toArray ..
theorem Zb{α:Type}(x:α)(l:List α)(i:Nat)(a:α):(x::l).set (i+1) a=x::l.set i a:=rfl
theorem Zc{α:Type}(x:α)(l:List α)(a:α):(x::l).set 0 a=a::l:=rfl
theorem Zd{α:Type}(x:α)(l:List α)(i:Nat):(x::l)[i+1]? =l[i]?:=List.getElem?_cons_succ ..
theorem Ze{α:Type}(x:α)(l:List α):(x::l)[0]? =some x:=List.getElem?_cons_zero ..
theorem Zf{α:Type}(l:List α)(i:Nat):l.toArray[i]? =l[i]?:=List.getElem?_toArray ..
section
open Go.ChangeShapes Go.WideShapes Go.ChangeAt
theorem Tl{H:Type}{enc:TypeId×Value→H}{P:Program}(hl:laidOutB P=true){W E:World}(I:Below W.heap.size W E):
  ∀(c:List TypeId)(vs:List Value)(k:List (DataW H))(ps:List MemPlace),(c.all fun t=>P.readableRec t&&decide (t<P.types.size))=true→
   DataW.TrodAll enc P W 0 (fun _=>true) true c vs k ps→(∀x∈ps,x.block<W.heap.size)→
   DataW.TrodAll enc P E 0 (fun b=>decide (b<W.heap.size)) true c vs k ps
 |[],_,_,_,_,h,_=>by obtain⟨rfl,rfl,rfl⟩:=trodAll_nil h;exact trodAll_mk0
 |t::c,vs,k,ps,hr,h,Xg=>by
  obtain⟨v,B,d,u,p,q,rfl,rfl,rfl,h0,J⟩:=trodAll_cons h;simp only[List.all_cons,Zw,decide_eq_true_eq]at hr;exact trodAll_cons_mk (Below.trod hl hr.1.1 hr.1.2 h0 I fun x z=>Xg x (List.mem_append_left _ z))
   (Tl hl I c B u q (by simpa using hr.2) J fun x z=>Xg x (List.mem_append_right _ z))
theorem Ii{H:Type}{enc:TypeId×Value→H}{P:Program}{w}{base:Nat}{spare:Nat→Bool}{held:Bool}:
  ∀(c:List TypeId)(vs:List Value)(z:List (DataW H))(ps:List MemPlace),DataW.TrodAll enc P w base spare held c vs z ps→z.length=c.length
 |[],_,_,_,h=>by obtain⟨_,rfl,_⟩:=trodAll_nil h;rfl
 |_::c,_,_,_,h=>by obtain⟨v,u,d,k,p,q,rfl,rfl,rfl,_,B⟩:=trodAll_cons h;have:=Ii c u k q B;simp[this]
def Qel{H:Type}(enc:TypeId×Value→H)(P:Program)(f:FuncId)(d:Func):Prop:=
 ∀(W)(base:Nat)(c:Array Value)(k:List (DataW H))(p:List MemPlace),
  (∀(j:Nat)t v,d.params[j]? =some t→c[j]? =some v→Value.okWide P W .any base t v)→
  DataW.TrodAll enc P W 0 (fun _=>true) true d.params.toList c.toList k p→
  (DataW.weightsEach P d.params.toList k).all (· ≤reachBytes)=true→
  (∀x∈p,x.block<W.heap.size)→
  Calls P f c W fun e q=>e=.returned (.bool true)∧Below W.heap.size W q
theorem Rh{H:Type}{enc:TypeId×Value→H}{C:Checked}{os:Os}{f:FuncId}{u:Func}{s:ChangeSpec}{tb:TypeId}
  (own:ownKnob C.prog.godebug=none)(d:os.Started)(z:C.prog.inits.idxOf? f=none)(aa:C.prog.funcs[f]? =some u)
  (k:∃(w:World)(tape:Tape)(i:Input),w.os=os∧(w.forCall tape i).Shaped C.prog∧i.vars=[]∧Input.okWide C.prog (w.forCall tape i) .any w.heap.size f i∧
   s.pre6 enc C.prog u [] false (w.forCall tape i).memory i.args∧(({}:Assume)).holds C.prog (lone (Frame.enter C.prog f i.args .normal) [] (w.forCall tape i)))
  (hl:laidOutB C.prog=true) (hr:(u.params.toList.all fun t=>C.prog.readableRec t&&decide (t<C.prog.types.size))=true)
  (R:u.resultTypes=#[tb]) (ac:C.prog.underlying tb=some .bool) (c:s.vars=[])
  (I:∀B:List (DataW H),B.length=u.params.size→s.fn H B={results:=[.lit (.bool true)],args:=B})
  (walk:Qel enc C.prog f u):
  ReturnsInHanded {} C os f .any (s.pre6 enc C.prog u [] false) (s.post enc C.prog u false true false false):=by
 refine returnsInHanded_of_change_sized own d z aa k ?_;intro W base args B gs V U hW _ J _;have E:=hW;obtain⟨p,q,Z,hV,rfl,_,_⟩:=hW;have ab:gs=[]∧q=[]:=by rw[c]at hV;exact trodVars_none hV
 obtain⟨rfl,rfl⟩:=ab;have ae:s.plain.varTypes C.prog=[]:=by have:s.plain.vars=[]:=c;simp[DataSpec.varTypes,this]
 rw[ae]at J;simp only[List.append_nil]at J E;have Xg:∀x∈p,x.block<W.heap.size:=fun x hx=>E.lt x hx;have K:B.length=u.params.size:=by have:=Ii _ _ _ _ Z;simpa using this
 refine(walk W base args B p U Z J Xg).mono fun e W'⟨he,hb⟩=>?_;have e1:=I B K;refine⟨_,he,B,[],p,[],p,[],E,?_,?_,?_,hb.frame _,fun h=>by cases h⟩;·rw[List.append_nil,e1,R];exact trodAll_cons_mk (shut_bool ac true) trodAll_mk0
 ·rw[List.append_nil,e1];exact Tl hl hb _ _ _ _ hr Z Xg
 ·rw[List.append_nil,e1,c];rfl
theorem O{p:Prop}(h:p):Hi p:=h
theorem Qv7{B:Nat}{a w}(h:Below B a w)(n:Nat):Below B a (w.drewN n):=⟨h.os,h.tape,h.output,h.size,h.block⟩
def Gy(F:TypeId→Option (List (Option IntKind)))(P:Program):List Field→Nat→Option (List (Option IntKind))
 |[],_=>some []
 |f::fs,off=>if f.offset=off then(F f.type).bind fun c=>if P.cellsOf f.type=c.length then(Gy F P fs (off+c.length)).map (c++ ·)else none else none
def O9(P:Program):Nat→TypeId→Option (List (Option IntKind))
 |0,_=>none
 |n+1,t=>match P.underlying t with
  |some (.int k)=>some [some k]
  |some .bool=>some [none]
  |some (.struct fs)=>(Gy (O9 P n) P fs.toList 0).bind fun c=>if P.cellsOf t=c.length then some c else none
  |_=>none
def O2:List (Option IntKind)→List Value→Prop
 |[],[]=>True
 |some k::ks,.int k' n::vs=>k'=k∧(Lit.int k n).wf=true∧O2 ks vs
 |none::ks,.bool _::vs=>O2 ks vs
 |_,_=>False
theorem O2.append:∀{a:List (Option IntKind)}{x:List Value}{b:List (Option IntKind)}{y:List Value},O2 a x→O2 b y→O2 (a++b) (x++y)
 |[],[],_,_,_,h=>h
 |some k::a,.int k' n::x,_,_,h,h'=>⟨h.1,h.2.1,O2.append h.2.2 h'⟩
 |none::a,.bool _::x,_,_,h,h'=>O2.append (a:=a) (x:=x) h h'
theorem O2.length:∀{a:List (Option IntKind)}{x:List Value},O2 a x→x.length=a.length
 |[],[],_=>rfl
 |some k::a,.int k' n::x,h=>by simp[O2.length h.2.2]
 |none::a,.bool _::x,h=>by have h':O2 a x:=h;simp[O2.length h']
theorem O2.int1{k:IntKind}{c:List (Option IntKind)}{x:List Value}(h:O2 (some k::c) x):∃n y,x=.int k n::y∧(Lit.int k n).wf=true∧O2 c y:=by
 match x,h with
 | .int k' n::y,h=>obtain⟨rfl,h1,d⟩:=h;exact⟨n,y,rfl,h1,d⟩
theorem O2.bool1{c:List (Option IntKind)}{x:List Value}(h:O2 (none::c) x):∃b y,x=.bool b::y∧O2 c y:=by
 match x,h with
 | .bool b::y,h=>exact⟨b,y,rfl,h⟩
theorem O2.nil0{x:List Value}(h:O2 [] x):x=[]:=by
 match x,h with
 |[],_=>rfl
section
variable{H:Type}{enc:TypeId×Value→H}{P:Program}{w:World}{base:Nat}{spare:Nat→Bool}{held:Bool}
theorem Fw{F:TypeId→Option (List (Option IntKind))}{n:Nat}{cs:List Value}
  (u:∀t c cs x,F t=some c→DataW.trod enc P w base spare held n t cs=some x→O2 c cs):
  ∀(d:List Field)(off:Nat)(c:List (Option IntKind)),Gy F P d off=some c→
   (∀f∈d,∃x,DataW.trod enc P w base spare held n f.type ((cs.drop f.offset).take (P.cellsOf f.type))=some x)→
   cs.length=off+c.length→O2 c (cs.drop off)
 |[],off,c,h,_,hl=>by simp only[Gy,Option.some.injEq]at h;subst h;rw[List.drop_of_length_le (by simp at hl;omega)];trivial
 |f::d,off,c,h,hx,hl=>by
  simp only[Gy]at h;split at h;case isFalse=>cases h
  case isTrue ho=>
  obtain⟨kf,k,h⟩:=Option.bind_eq_some_iff.1 h;split at h;case isFalse=>cases h
  case isTrue hc=>
  obtain⟨E,q,rfl⟩:=Option.map_eq_some_iff.1 h;obtain⟨x,h0⟩:=hx f (by simp);have h1:=u _ _ _ _ k h0;rw[ho,hc]at h1;have z:=Fw u d (off+kf.length) E q (fun g B=>hx g (by simp[B])) (by simp at hl;omega);have:=h1.append z;rw[←List.drop_drop,List.take_append_drop]at this;exact this
theorem Ni:∀(n:Nat){c:Nat}{t:TypeId}{u:List (Option IntKind)}{cs:List Value}{x:DataW H×List MemPlace},O9 P n t=some u→
  DataW.trod enc P w base spare held c t cs=some x→O2 u cs
 |0,_,_,_,_,_,h,_=>by simp[O9]at h
 |n+1,c,t,u,cs,x,h,hx=>by
  simp only[O9]at h;split at h;·rename_i k q;obtain⟨v,rfl,_,V⟩:=DataW.trod_int q hx;simp only[Option.some.injEq]at h;subst h;exact⟨rfl,V,trivial⟩
  ·rename_i q;obtain⟨b,rfl,_⟩:=DataW.trod_bool q hx;simp only[Option.some.injEq]at h;subst h;trivial
  ·rename_i z q;obtain⟨Z,E,h⟩:=Option.bind_eq_some_iff.1 h;split at h;case isFalse=>cases h
   case isTrue hc=>
   simp only[Option.some.injEq]at h;subst h;obtain⟨R,m,rfl,_,K,J,hf⟩:=DataW.trod_struct q hx;have:=Fw (cs:=cs) (F:=O9 P n) (n:=m) (enc:=enc) (P:=P) (w:=w) (base:=base) (spare:=spare) (held:=held)
    (fun t u cs x h1 U=>Ni n h1 U) z.toList 0 Z E (fun f B=>by
     obtain⟨i,hi,rfl⟩:=List.mem_iff_getElem.1 B;have d:i<z.size:=by simpa using hi
     have e:=hf i (z[i]) (by simp[d]);have I:i<R.length:=by rw[J];exact d
     rw[List.getElem?_eq_getElem I]at e;exact⟨R[i],by simpa using e⟩) (by omega)
   simpa using this
  ·cases h
def Qnx(w:World)(sz:Nat)(v:Value)(c:List (List Value)):Prop:=
 ∃a cap,v=.slice a c.length cap∧c.length≤cap∧(a=none→cap=0)∧
  ∀i,i<c.length→∃g o,a=some ⟨g,o,none⟩∧∀j u,(c.getD i [])[j]? =some u→w.cell? ⟨g,o+i*sz+j,none⟩=some u
theorem Qa1{t e:TypeId}{n:Nat}{E:List (Option IntKind)}{r:Reach}{b0:Nat}{v:Value}{d:DataW H}{p:List MemPlace}
  (ht:P.underlying t=some (.slice e))(hk:O9 P n e=some E)(hc:P.cellsOf e=E.length)(h0:0<E.length)
  (hv:Value.okWide P w r b0 t v) (h:DataW.Trod enc P w base spare held t v d p):
  ∃xs:List (List Value),Qnx w E.length v xs∧(∀x∈xs,O2 E x)∧xs.length≤maxLen:=by
 obtain⟨a0,len,cap,rfl⟩:=okWide_slice ht hv;obtain⟨ac,hf⟩:=h;rcases Go.Deep.open_slice ht hf with⟨c,_⟩|⟨a,af,ab,m,k,D,Pl,c,_,hl,hm,V,_,hi⟩;·simp[Value.cells]at c;obtain⟨rfl,rfl,rfl⟩:=c;exact⟨[],⟨none,0,rfl,Zv _,fun _=>rfl,fun i hi=>absurd hi (by simp)⟩,by simp,by simp⟩
 ·simp[Value.cells]at c;obtain⟨rfl,rfl,rfl⟩:=c;obtain⟨f,z⟩:=Go.Deep.choose_lt (α:=List Value) (n:=len) (p:=fun i cs'=>w.cells? base (a.add (i*P.cellsOf e)) (P.cellsOf e)=some cs'∧O2 E cs') (fun i I=>by
   obtain⟨cs',h1,K⟩:=hi i (by rw[V];split<;>omega);exact⟨cs',h1,Ni n hk K⟩)
  refine⟨(List.range len).map f,⟨some a,cap,by simp,by simpa using hl,by simp,fun i I=>?_⟩,?_,by simp;omega⟩
  ·have q:i<len:=by simpa using I
   obtain⟨h1,K⟩:=z i q;obtain⟨_,ae,R⟩:=World.cells?_some h1;obtain⟨b,off,J⟩:=a;have B:J=none:=by obtain⟨q1,q2⟩:=z 0 (by omega);obtain⟨_,ag,aa⟩:=World.cells?_some q1;have:=aa 0 (by omega);rw[List.getElem?_eq_getElem (by omega)]at this;have h3:=World.cell?_spot this;simpa[Addr.add]using h3
   subst B;refine⟨b,off,rfl,fun j u Z=>?_⟩;have hj:j<E.length:=by have:=(Z1.1 Z).1;have ah:=K.length;simp[List.getD,q]at this;omega
   have:=R j (by omega);rw[Go.Deep.add_add]at this;simp[List.getD,q]at Z;rw[Z]at this;rw[←this,hc];simp only[Addr.add];split;·rename_i hz;congr 2;omega
   ·simp[Nat.add_assoc]
  ·intro x hx;obtain⟨i,U,rfl⟩:=Z3.1 hx;exact(z i (by simpa using U)).2
end
theorem Qnx.below{w w'}{B sz:Nat}{v:Value}{c:List (List Value)}(h:Qnx w sz v c)(k:Below B w w')(I:w.heap.size≤B):Qnx w' sz v c:=by
 obtain⟨a,cap,rfl,hc,hn,E⟩:=h;refine⟨a,cap,rfl,hc,hn,fun i hi=>?_⟩;obtain⟨g,o,rfl,q⟩:=E i hi;refine⟨g,o,rfl,fun j u z=>?_⟩;have h1:=q j u z;have J:g<w.heap.size:=by
  unfold World.cell? at h1;split at h1;·rename_i d;exact(Z2.1 d).1
  ·cases h1
 rw[k.cell (by show g<B;omega)];exact h1
theorem Ms{T:Type}(cells:T→List Value)(d:T→Prop):∀(c:List (List Value)),(∀x∈c,∃p,x=cells p∧d p)→∃l:List T,c=l.map cells∧∀p∈l,d p
 |[],_=>⟨[],rfl,by simp⟩
 |x::c,h=>by obtain⟨p,rfl,k⟩:=h x (by simp);obtain⟨l,rfl,hl⟩:=Ms cells d c (fun y q=>h y (by simp[q]));exact⟨p::l,rfl,by simpa using⟨k,hl⟩⟩
def Kb{T:Type}(cells:T→List Value)(sz:Nat)(w:World)(a:Option Addr)(l:List T):Prop:=
 ∀(i:Nat)(h:i<l.length),∃g o,a=some ⟨g,o,none⟩∧∀j u,(cells l[i])[j]? =some u→w.cell? ⟨g,o+i*sz+j,none⟩=some u
theorem Qnx.row{T:Type}{cells:T→List Value}{w}{sz:Nat}{v:Value}{l:List T}(h:Qnx w sz v (l.map cells)):
  ∃a cap,v=.slice a l.length cap∧l.length≤cap∧(a=none→cap=0)∧Kb cells sz w a l:=by
 obtain⟨a,cap,rfl,hc,hn,c⟩:=h;refine⟨a,cap,by simp,by simpa using hc,hn,fun i hi=>?_⟩;have:=c i (by simpa using hi);simpa[List.getD,hi]using this
theorem Qeu{w:World}{p:Addr}{u:Value}(h1:w.cell? p=some u):p.block<w.heap.size:=by
 unfold World.cell? at h1;split at h1;·rename_i c;exact(Z2.1 c).1
 ·cases h1
theorem Kb.below{T:Type}{cells:T→List Value}{sz:Nat}{w w'}{a:Option Addr}{l:List T}(h:Kb cells sz w a l)(k:Below w.heap.size w w'):Kb cells sz w' a l:=by intro i hi;obtain⟨g,o,rfl,c⟩:=h i hi;refine⟨g,o,rfl,fun j u d=>?_⟩;rw[k.cell (Qeu (c j u d))];exact c j u d
end
section
variable{P:Program}{ops:Array Oper}{C:World→Prop}{Q:Exit→Act→World→Prop}
def Xs(ops:Array Oper):Nat→Nat→Nat→Bool
 |0,_,_=>false
 |f+1,t,h=>match ops[t]? with
  |some o=>o.after.any fun e=>Region.binds .any e&&(e.on==h||Xs ops f e.on h)
  |none=>false
def Xj(ops:Array Oper)(c:Array Bool):Prop:=
 ∀j d,ops[j]? =some d→c.getD j false=true→∀e∈d.after,Region.binds .any e=true→c.getD e.on false=true
theorem Yw{c:Array Bool}(hc:Xj ops c):∀(f t h:Nat),
  (∀o,ops[t]? =some o→∀e∈o.after,Region.binds .any e=true→c.getD e.on false=true)→Xs ops f t h=true→c.getD h false=true
 |0,_,_,_,hw=>by simp[Xs]at hw
 |f+1,t,h,ht,hw=>by
  simp only[Xs]at hw;split at hw
  ·rename_i o I;obtain⟨e,E,d⟩:=Array.any_eq_true'.1 hw;simp only[Zw,Bool.or_eq_true,beq_iff_eq]at d;have h1:=ht o I e E d.1;rcases d.2 with rfl|B;·exact h1
   ·exact Yw hc f e.on h (fun J u z q k=>hc e.on J u h1 z q k) B
  ·cases hw
theorem Xj.set{c:Array Bool}{i:Nat}(hc:Xj ops c)(hi:i∈Region.ready .any ops c):Xj ops (c.setIfInBounds i true):=by
 obtain⟨_,I,q,d⟩:=mem_ready.1 hi;intro j E B hl e z u;by_cases k:i=j;·subst k;have:E=I:=Zs (B.symm.trans q);subst this;exact getD_set_true (d e z u)
 ·rw[getD_set_ne false k]at hl;exact getD_set_true (hc j E B hl e z u)
def Qf8(P:Program)(ops:Array Oper)(C:World→Prop)(L:Array Bool→Act→Prop):Nat→Array Bool→Act→Prop
 |0,listed,a=>L listed a
 |f+1,listed,a=>Region.ready .any ops listed≠[]∧∀i∈Region.ready .any ops listed,qOp P ops C i (Qf8 P ops C L f (listed.setIfInBounds i true)) a
theorem Sb{L:Array Bool→Act→Prop}{g:Nat}(k:∀c a w,C w→L c a→wpAny P .any ops Q g c a w):
  ∀(f:Nat)(c:Array Bool)(a:Act)(w),C w→Qf8 P ops C L f c a→wpAny P .any ops Q (f+g) c a w
 |0,c,a,w,hw,h=>by rw[Nat.zero_add];exact k _ _ _ hw h
 |f+1,c,a,w,hw,h=>by rw[show f+1+g=(f+g)+1 by omega];exact⟨fun h0=>absurd h0 h.1,fun i hi=>wpOp_of_qOp hw (fun q w' d h'=>Sb k f _ q w' d h') (h.2 i hi)⟩
theorem Qhh{i F:Nat}{oi:Oper}{v:Value}{L:Array Bool→Act→Prop}{T:Nat→Prop}(hi:ops[i]? =some oi)(K:∀(j:Nat)(o:Oper)cs b,ops[j]? =some o→o.op≠ .select cs b)
  (U:∀c a,L c a→∀j∈Region.ready .any ops c,T j) (V:∀j z,ops[j]? =some z→T j→Xs ops F j i=true):
  ∀(f:Nat)(c:Array Bool)(a:Act),Xj ops c→
   (∀j z,ops[j]? =some z→j≠i→c.getD j true=false→(∀e∈z.after,Region.binds .any e=true→e.on≠i)→oi.apart ops z=true)→
   i∈Region.ready .any ops c→YieldsIn P ops C oi v a→
   Qf8 P ops C L f (c.setIfInBounds i true) (a.put oi.dst v)→Qf8 P ops C L (f+1) c a:=by
 intro f;induction f with
 |zero=>
  intro c a R _ hr hy H;have u:=(mem_ready.1 hr).1;refine⟨fun h=>(by rw[h]at hr;cases hr),fun j Z=>?_⟩;by_cases d:j=i;·subst d;exact hy.qOp hi H
  ·obtain⟨_,z,q,B⟩:=mem_ready.1 Z;have hT:=U _ _ H j (ready_mono Z d);have h1:=Yw R F j i (fun o ho e he hb=>by
    have:o=z:=Zs (ho.symm.trans q);subst this;exact B e he hb) (V j z q hT)
   rw[getD_both u]at h1;cases h1
 |succ f ih=>
  intro c a R E hr hy H;have u:=(mem_ready.1 hr).1;refine⟨fun h=>(by rw[h]at hr;cases hr),fun j Z=>?_⟩;by_cases d:j=i;·subst d;exact hy.qOp hi H
  ·have h1:=H.2 j (ready_mono Z d);obtain⟨J,z,q,B⟩:=mem_ready.1 Z;have ab:∀e∈z.after,Region.binds .any e=true→e.on≠i:=fun e he hb ac=>by have h1:=B e he hb;rw[ac,getD_both u]at h1;cases h1
   have h2:=qOp_put q (E j z q d J ab) (fun cs b=>K i oi cs b hi) (fun cs b=>K j z cs b q) hy h1;have I:∀k ok,ops[k]? =some ok→k≠i→(c.setIfInBounds j true).getD k true=false→
     (∀e∈ok.after,Region.binds .any e=true→e.on≠i)→oi.apart ops ok=true:=fun k ok hk ae u af=>by
    refine E k ok hk ae ?_ af;by_cases aa:j=k;·subst aa;exact J
    ·rw[getD_set_ne true aa]at u;exact u
   refine qOp_mono (fun a' h3=>ih (c.setIfInBounds j true) a' (R.set Z) I (ready_mono hr (Ne.symm d)) h3.1 ?_) h2;rw[Array.setIfInBounds_comm _ _ d];exact h3.2
def Wv(ops:Array Oper)(n g:Nat):Nat→Nat→Array Bool→Bool
 |0,_,listed=>Region.seqB .any ops g n listed
 |f+1,k,listed=>(Region.ready .any ops listed).contains k&&Region.free .any ops listed k&&Wv ops n g f (k+1) (listed.setIfInBounds k true)
def Fc(ops:Array Oper)(m n:Nat):Bool:=
 (List.range ops.size).all fun t=>decide (t<n)||(List.range n).all fun h=>decide (h<m)||Xs ops ops.size t h
theorem Qdb{m n g:Nat}{B:Act→Prop}(q:Region.noSelect ops=true)(hn:Fc ops m n=true):
  ∀(l:List Oper)(k:Nat)(c:Array Bool)(a:Act),(∀j,j<l.length→l[j]? =ops[k+j]?)→k+l.length=n→m≤k→Xj ops c→
   Wv ops n g l.length k c=true→wpQuiet P ops C B l a→
   Qf8 P ops C (fun d R=>Region.seqB .any ops g n d=true∧B R) l.length c a
 |[],k,c,a,_,hk,_,_,hB,h=>⟨by simpa[Wv]using hB,h⟩
 |o::l,k,c,a,hl,hk,hmk,hcl,hB,h=>by
  have h0:ops[k]? =some o:=by simpa using(hl 0 (by simp)).symm
  simp only[Zm,Wv,Zw]at hB;obtain⟨⟨hr,hf⟩,E⟩:=hB;have J:k<n:=by simp only[Zm]at hk;omega
  have z:k∈Region.ready .any ops c:=by simpa using hr
  have K:qOp P ops C k (wpQuiet P ops C B l) a:=by unfold qOp;simp only[h0];exact h
  obtain⟨v,hy,V⟩:=yieldsIn_of_qOp h0 K;refine Qhh (F:=ops.size) (T:=fun j=>n≤j) h0 (Region.noSelect_spec q) (fun d R Z=>seqB_ready Z.1) (fun j oj U hT=>?_) l.length c a hcl (Region.free_spec h0 hf) z hy
   (Qdb q hn l (k+1) _ _ (fun j U=>by have:=hl (j+1) (by simp;omega);simpa[Nat.add_assoc,Nat.add_comm 1 j]using this) (by simp only[Zm]at hk;omega) (by omega) (hcl.set z) E V)
  have I:j<ops.size:=(Z2.1 U).1;have h1:=List.all_eq_true.1 hn j (List.mem_range.2 I);simp only[Bool.or_eq_true,decide_eq_true_eq]at h1;rcases h1 with h1|h1;·omega
  ·have u:=List.all_eq_true.1 h1 k (List.mem_range.2 J);simp only[Bool.or_eq_true,decide_eq_true_eq]at u;rcases u with u|u;·omega
   ·exact u
def W9(o:Oper):Bool:=match o with
 |{dst:=some _,op:=.move _,guard:=none,..}=>true
 |_=>false
theorem Fz{o:Oper}(h:W9 o=true):∃d x,o.dst=some d∧o.op=.move x∧o.guard=none:=by
 unfold W9 at h;split at h;·exact⟨_,_,rfl,rfl,rfl⟩
 ·cases h
def Pw(ops:Array Oper)(m n g h:Nat):Nat→Nat→Array Bool→Bool
 |0,k,listed=>Wv ops n g h k listed
 |f+1,k,listed=>(Region.ready .any ops listed).contains k&&Region.free .any ops listed k&&((ops[k]?).map W9).getD false&&Pw ops m n g h f (k+1) (listed.setIfInBounds k true)
def Qsb(ops:Array Oper)(m n:Nat):Bool:=
 Region.noSelect ops&&decide (m≤n)&&decide (n≤ops.size)&&Fc ops m n&&Pw ops m n (ops.size-n) (n-m) m 0 (Array.replicate ops.size false)
theorem Ax{m n g:Nat}(hC:∃w,C w)(z:Region.noSelect ops=true)(hn:Fc ops m n=true)
  (hQ:∀c(a:Act)(d:Tmp)v w,Q (.panic c) (a.put (some d) v) w→Q (.panic c) a w){rest:List Oper}(K:rest.length=n-m)(ag:m≤n)(hg:ops.size=n+g)
  (u:∀j,j<rest.length→rest[j]? =ops[m+j]?) (U:List Oper) (aa:∀j,U[j]? =ops[n+j]?) (R:U.length=g):
  ∀(l:List Oper)(k:Nat)(q:Array Bool)(a:Act)(w),C w→(∀j,j<l.length→l[j]? =ops[k+j]?)→k+l.length=m→Xj ops q→
   Pw ops m n g (n-m) l.length k q=true→wpQuiet P ops C (fun I=>∀w',C w'→wpList P ops Q U I w') (l++rest) a→
   wpAny P .any ops Q (l.length+((n-m)+g)) q a w
 |[],k,q,a,w,hw,_,hk,hcl,hB,h=>by
  have af:k=m:=by simpa using hk
  subst af;simp only[List.length_nil,Nat.zero_add];have H:=Qdb (P:=P) (C:=C) (g:=g) z hn rest k q a u (by omega) (Zv _) hcl (by rw[K];simpa[Pw]using hB) (by simpa using h);rw[K]at H;refine Sb (fun B I w' aj hL=>?_) _ _ _ _ hw H;have:=wpAny_of_seq (P:=P) (md:=.any) (ops:=ops) (Q':=Q) U n B I w' aa (by rw[R];exact hL.1) (hL.2 w' aj);rwa[R]at this
 |o::l,k,q,a,w,hw,hl,hk,hcl,hB,h=>by
  have h0:ops[k]? =some o:=by simpa using(hl 0 (by simp)).symm
  simp only[Zm,Pw,Zw]at hB;obtain⟨⟨⟨hr,hf⟩,J⟩,ae⟩:=hB;have Z:k∈Region.ready .any ops q:=by simpa using hr
  rw[h0]at J;simp only[Zn,Option.getD_some]at J;obtain⟨ak,op,E,pos,after,ac⟩:=o;obtain⟨d,x,e1,e2,e3⟩:=Fz J;dsimp only at e1 e2 e3;subst e1 e2 e3;have ab:Yields P ops ⟨some d,.move x,E,pos,after,none⟩ (a.eval x) a:=.inl ⟨rfl,fun w'=>rfl⟩;have V:(⟨some d,.move x,E,pos,after,none⟩::l:List Oper).length+((n-m)+g)=(l.length+((n-m)+g))+1:=by simp;omega
  rw[V];refine wpAny_first (md:=.any) h0 (Region.noSelect_spec z) (fun c I w' hq=>hQ c I d _ w' hq) _ q a w (Region.free_spec h0 hf) Z ab ?_;refine Ax hC z hn hQ K ag hg u U aa R l (k+1) _ _ w hw (fun j hj=>by have:=hl (j+1) (by simp;omega);simpa[Nat.add_assoc,Nat.add_comm 1 j]using this) (by simp only[Zm]at hk;omega) (hcl.set Z) ae ?_;have h':Oper.quiet P ⟨some d,.move x,E,pos,after,none⟩ a C (wpQuiet P ops C (fun I=>∀w',C w'→wpList P ops Q U I w') (l++rest)):=h;obtain⟨v,hv,hK⟩:=h';have ah:=hv w hw;have ai:w=w∧a.eval x=v:=ah;rw[ai.2];exact hK
theorem Qcc{id:Nat}{a:Act}{w:World}{l:List Oper}(m n:Nat)(C:World→Prop)(hm:P.follows .mixedOrders=true)(U:Qsb l.toArray m n=true)(V:C w.drew)
  (hQ:∀c(a:Act)(d:Tmp)v w,Q (.panic c) (a.put (some d) v) w→Q (.panic c) a w)
  (h:wpQuiet P l.toArray C (fun Z=>∀w',C w'→wpList P l.toArray Q (l.drop n) Z w') (l.take n) a):(Code.region id l.toArray true).wp P Q a w:=by
 simp only[Qsb,Zw,decide_eq_true_eq]at U;obtain⟨⟨⟨⟨u,J⟩,R⟩,K⟩,E⟩:=U;have z:l.toArray.size=l.length:=by simp
 rw[z]at R;refine wp_region_any hm ?_;have B:Xj l.toArray (Array.replicate l.toArray.size false):=fun j oj _ hl=>by rw[getD_replicate_false]at hl;cases hl
 have k:(l.take n)=l.take m++(l.drop m).take (n-m):=by
  have:n=m+(n-m):=by omega
  conv=>lhs;rw[this]
  rw[List.take_add]
 rw[k]at h;have:=Ax (P:=P) (ops:=l.toArray) (C:=C) (Q:=Q) (m:=m) (n:=n) (g:=l.toArray.size-n) ⟨_,V⟩ u K hQ (rest:=(l.drop m).take (n-m)) (by simp;omega) J (by rw[z];omega)
  (fun j I=>by
   have q:j<n-m:=by simp at I;omega
   simp[List.getElem?_drop,q]) (l.drop n) (fun j=>by simp[List.getElem?_drop]) (by simp) (l.take m) 0 _ a _ V
  (fun j I=>by
   have q:j<m:=by simp at I;omega
   simp[q]) (by simp;omega) B (by
   have e:(l.take m).length=m:=by simp;omega
   rw[e];exact E) h
 have e:(l.take m).length+(n-m+(l.toArray.size-n))=l.toArray.size:=by simp;omega
 rw[e]at this;exact this
theorem Yi{id:Nat}{a:Act}{w}{l:List Oper}(m n:Nat)(z:P.follows .mixedOrders=true)(q:Qsb l.toArray m n=true)
  (u:∀c(a:Act)(d:Tmp)v w,Q (.panic c) (a.put (some d) v) w→Q (.panic c) a w)
  (h:wpQuiet P l.toArray (fun w'=>∃n,w'=w.drewN n) (fun k=>∀w',(∃n,w'=w.drewN n)→wpList P l.toArray Q (l.drop n) k w') (l.take n) a):(Code.region id l.toArray true).wp P Q a w:=
 Qcc m n _ z q ⟨1,rfl⟩ u h
end
theorem Qpu{P:Program}{f:FuncId}{c:Array Value}{w:World}{a n:Nat}{v:Value}
  (h:Calls P f c (w.drewN (a+n)) fun e w'=>e=.returned v∧∃m,w'=(w.drewN (a+n)).drewN m):
  Calls P f c (w.drewN (a+n)) fun e d=>e=.returned v∧∃m,d=w.drewN (a+m):=
 h.mono fun _ _⟨k,m,q⟩=>⟨k,n+m,by rw[q,World.drewN_drewN,Nat.add_assoc]⟩
theorem Qbe{P:Program}{f:FuncId}{c:Array Value}{w:World}{n:Nat}{v:Value}
  (h:Calls P f c (w.drewN n) fun e w'=>e=.returned v∧w.drewN n=w'):Calls P f c (w.drewN n) fun e d=>e=.returned v∧∃m,d=w.drewN m:=
 h.mono fun _ _⟨k,q⟩=>⟨k,n,q.symm⟩
def Qh(w:World)(b:Nat)(cs:Array Value)(t:TypeId):Prop:=w.heap[b]? =some (.cells cs t (0,0))
theorem Qh.lt{w}{b:Nat}{cs:Array Value}{t:TypeId}(h:Qh w b cs t):b<w.heap.size:=(Z2.1 h).1
theorem Qh.cell{w}{b:Nat}{cs:Array Value}{t:TypeId}(h:Qh w b cs t)(i:Nat):w.cell? ⟨b,i,none⟩=cs[i]? :=by unfold Qh at h;simp[World.cell?,h]
theorem Qh.at{w}{b:Nat}{cs:Array Value}{t:TypeId}(h:Qh w b cs t)(j:Nat){v:Value}(c:cs[j]? =some v):w.cell? ⟨b,j,none⟩=some v:=by rw[h.cell];exact c
theorem Qh.frozen{w}{b:Nat}{cs:Array Value}{t:TypeId}(h:Qh w b cs t)(i:Nat):w.frozen? ⟨b,i,none⟩=false:=by unfold Qh at h;simp[World.frozen?,h]
theorem Qh.set{w}{b:Nat}{cs:Array Value}{t:TypeId}(h:Qh w b cs t)(i:Nat)(v:Value):Qh (w.setCell ⟨b,i,none⟩ v) b (cs.setIfInBounds i v) t:=by unfold Qh at*;simp[World.setCell,Array.getElem?_modify,h]
theorem Qh.set'{w}{b:Nat}{cs cs':Array Value}{t:TypeId}(h:Qh w b cs t)(i:Nat)(v:Value)(e:cs.setIfInBounds i v=cs'):Qh (w.setCell ⟨b,i,none⟩ v) b cs' t:=e▸h.set i v
theorem Qh.other{w}{b:Nat}{cs:Array Value}{t:TypeId}(h:Qh w b cs t){a:Addr}(v:Value)(c:a.block≠b):Qh (w.setCell a v) b cs t:=by unfold Qh at*;rw[Below.heap_setCell _ _ _ _ (Ne.symm c)];exact h
theorem Qh.alloc{w}{b:Nat}{cs:Array Value}{t:TypeId}(h:Qh w b cs t)(o:Obj):Qh (w.alloc o) b cs t:=by have:=h.lt;unfold Qh at*;rw[Below.heap_alloc _ _ _ this];exact h
theorem Qh.new(w:World)(cs:Array Value)(t:TypeId):Qh (w.alloc (.cells cs t)) w.heap.size cs t:=by unfold Qh;show(w.heap.push _)[w.heap.size]? =_;simp
theorem Qh.new'{w:World}{n:Nat}(cs:Array Value)(t:TypeId)(hn:n=w.heap.size):Qh (w.alloc (.cells cs t)) n cs t:=hn▸Qh.new w cs t
theorem Qh.drewN{w}{b:Nat}{cs:Array Value}{t:TypeId}(h:Qh w b cs t)(n:Nat):Qh (w.drewN n) b cs t:=h
theorem Qh.drew{w}{b:Nat}{cs:Array Value}{t:TypeId}(h:Qh w b cs t):Qh w.drew b cs t:=h
structure Qc(S:Nat→Prop)(w w':World):Prop where
 os:w'.os=w.os
 tape:w'.tape=w.tape
 output:w'.output=w.output
 size:w.heap.size≤w'.heap.size
 block:∀k,k<w.heap.size→¬S k→w'.heap[k]? =w.heap[k]?
section
variable{S S':Nat→Prop}{w w1 w2:World}
theorem Zg(S:Nat→Prop)(w):Qc S w w:=⟨rfl,rfl,rfl,Zv _,fun _ _ _=>rfl⟩
theorem Qc.trans(h:Qc S w w1)(h':Qc S' w1 w2)(hs:∀k,S' k→S k∨w.heap.size≤k):Qc S w w2:=
 ⟨h'.os.trans h.os,h'.tape.trans h.tape,h'.output.trans h.output,Zp h.size h'.size,fun k q d=>
  (h'.block k (Nat.lt_of_lt_of_le q h.size) (fun c=>(hs k c).elim d (fun h=>by omega))).trans (h.block k q d)⟩
theorem Qc.mono(h:Qc S w w1)(hs:∀k,S k→S' k∨w.heap.size≤k):Qc S' w w1:=
 ⟨h.os,h.tape,h.output,h.size,fun k d hn=>h.block k d (fun c=>(hs k c).elim hn (fun h=>by omega))⟩
theorem Qc.aA(h:Qc S w w1)(h':Qc S w1 w2):Qc S w w2:=h.trans h' fun k c=>.inl c
theorem Qc.drewN(h:Qc S w w1)(n:Nat):Qc S w (w1.drewN n):=⟨h.os,h.tape,h.output,h.size,h.block⟩
theorem Qc.drew(h:Qc S w w1):Qc S w w1.drew:=⟨h.os,h.tape,h.output,h.size,h.block⟩
theorem Qc.alloc(h:Qc S w w1)(o:Obj):Qc S w (w1.alloc o):=
 ⟨h.os,h.tape,h.output,Zp h.size (by simp),fun k c d=>(Below.heap_alloc _ _ _ (Nat.lt_of_lt_of_le c h.size)).trans (h.block k c d)⟩
theorem Qc.setCell(h:Qc S w w1){a:Addr}(v:Value)(ha:S a.block∨w.heap.size≤a.block):Qc S w (w1.setCell a v):=
 ⟨h.os,h.tape,h.output,by simpa[World.setCell]using h.size,fun k d c=>(Below.heap_setCell _ _ _ _ (fun e=>by
  subst e;exact ha.elim c (fun h=>by omega))).trans (h.block k d c)⟩
theorem Qc.ofBelow(h:Below w.heap.size w w1):Qc S w w1:=⟨h.os,h.tape,h.output,h.size,fun k c _=>h.block k c⟩
theorem Qc.toBelow(h:Qc S w w1){B:Nat}(d:B≤w.heap.size)(hs:∀k,S k→B≤k):Below B w w1:=
 ⟨h.os,h.tape,h.output,h.size,fun k q=>h.block k (by omega) (fun c=>by have:=hs k c;omega)⟩
theorem Qc.grown{row:Option Nat}(h:Qc S w w1)(c:w1.grownBy w2 row)(hr:∀k,row=some k→S k∨w.heap.size≤k):Qc S w w2:=
 ⟨c.os.trans h.os,c.tape.trans h.tape,c.output.trans h.output,Zp h.size c.size,fun k q d=>
  (c.block k (Nat.lt_of_lt_of_le q h.size) (fun e=>(hr k e.symm).elim d (fun h=>by omega))).trans (h.block k q d)⟩
theorem Qc.blk(h:Qc S w w1){b:Nat}{cs:Array Value}{t:TypeId}(c:Qh w b cs t)(d:¬S b):Qh w1 b cs t:=
 (h.block b c.lt d).trans c
theorem Qc.heap(h:Qc S w w1){b:Nat}{o:Obj}(c:w.heap[b]? =some o)(d:¬S b):w1.heap[b]? =some o:=
 (h.block b (Z2.1 c).1 d).trans c
theorem Qc.cell(h:Qc S w w1){a:Addr}(ha:a.block<w.heap.size)(c:¬S a.block):w1.cell? a=w.cell? a:=
 World.cell?_of_block (w:=w) (h.block a.block ha c)
end
abbrev Qb:Nat→Prop:=fun _=>False
theorem Qc.below{w w1}(h:Qc Qb w w1):Below w.heap.size w w1:=h.toBelow (Zv _) fun _ h=>h.elim
def Jm{T:Type}(cells:T→List Value)(l:List T):List Value:=l.flatMap cells
section
variable{T:Type}{cells:T→List Value}{sz:Nat}
theorem Yh(hc:∀x,(cells x).length=sz):∀l:List T,(Jm cells l).length=l.length*sz
 |[]=>by simp[Jm]
 |x::l=>by have:=Yh hc l;simp only[Jm,List.flatMap_cons,List.length_append,Zm,hc]at*;rw[this,Nat.add_mul];omega
theorem V8(x:T)(l:List T):Jm cells (x::l)=cells x++Jm cells l:=rfl
theorem Ge(a b:List T):Jm cells (a++b)=Jm cells a++Jm cells b:=by simp[Jm]
theorem Eb(hc:∀x,(cells x).length=sz):∀(l:List T)(i j:Nat)(hi:i<l.length),j<sz→(Jm cells l)[i*sz+j]? =(cells l[i])[j]?
 |x::l,0,j,_,hj=>by rw[V8,List.getElem?_append_left (by rw[hc];omega)];simp
 |x::l,i+1,j,hi,hj=>by rw[V8,List.getElem?_append_right (by rw[hc,Nat.add_mul];omega),hc,show(i+1)*sz+j-sz=i*sz+j by rw[Nat.add_mul];omega];simpa using Eb hc l i j (by simpa using hi) hj
theorem Wn(hc:∀x,(cells x).length=sz)(l:List T)(n:Nat):(Jm cells l).take (n*sz)=Jm cells (l.take n):=by
 induction l generalizing n with
 |nil=>simp[Jm]
 |cons x l c=>
  cases n with
  |zero=>simp[Jm]
  |succ n=>
   rw[V8,List.take_succ_cons,V8,List.take_append,hc,show(n+1)*sz-sz=n*sz by rw[Nat.add_mul];omega,c,
    List.take_of_length_le (by rw[hc,Nat.add_mul];omega)]
theorem Qc6(hc:∀x,(cells x).length=sz):∀(l:List T)(i:Nat)(x:T),i<l.length→Jm cells (l.set i x)=(Jm cells l).take (i*sz)++cells x++(Jm cells l).drop ((i+1)*sz)
 |y::l,0,x,_=>by simp[V8,hc]
 |y::l,i+1,x,hi=>by
  have k:=Qc6 hc l i x (by simpa using hi);have e1:(i+1)*sz=sz+i*sz:=by rw[Nat.add_mul];omega
  have c:(i+1+1)*sz=sz+(i+1)*sz:=by rw[Nat.add_mul (i+1)];omega
  have h1:(cells y++Jm cells l).take (sz+i*sz)=cells y++(Jm cells l).take (i*sz):=by rw[List.take_append,hc,Nat.add_sub_cancel_left,List.take_of_length_le (by rw[hc];omega)]
  have d:(cells y++Jm cells l).drop (sz+(i+1)*sz)=(Jm cells l).drop ((i+1)*sz):=by rw[List.drop_append,hc,Nat.add_sub_cancel_left,List.drop_of_length_le (by rw[hc];omega),List.nil_append]
  rw[Zb,V8,V8,k,c,d,e1,h1];simp[List.append_assoc]
end
def RowBlk{T:Type}(cells:T→List Value)(w:World)(r:Nat)(l:List T)(t:TypeId):Prop:=Qh w r (Jm cells l).toArray t
theorem RowBlk.cellAt{T:Type}{cells:T→List Value}{sz:Nat}(hc:∀x,(cells x).length=sz){w}{r:Nat}{l:List T}{t:TypeId}(h:RowBlk cells w r l t)(i:Nat)(hi:i<l.length)(j:Nat)(u:Value)(c:(cells l[i])[j]? =some u):
  w.cell? ⟨r,i*sz+j,none⟩=some u:=by
 have d:j<sz:=by have:=(Z1.1 c).1;rw[hc]at this;exact this
 rw[Qh.cell h];simp only[Zf];rw[Eb hc l i j hi d];exact c
theorem RowBlk.row{T:Type}{cells:T→List Value}{sz:Nat}(hc:∀x,(cells x).length=sz){w}{r:Nat}{l:List T}{t:TypeId}(h:RowBlk cells w r l t):Kb cells sz w (some ⟨r,0,none⟩) l:=by intro i hi;refine⟨r,0,rfl,fun j u c=>?_⟩;rw[Nat.zero_add];exact h.cellAt hc i hi j u c
def setW(w:World)(r:Nat):Nat→List Value→World
 |_,[]=>w
 |k,v::vs=>setW (w.setCell ⟨r,k,none⟩ v) r (k+1) vs
def setL:List Value→Nat→List Value→List Value
 |l,_,[]=>l
 |l,k,v::vs=>setL (l.set k v) (k+1) vs
theorem Qnr:∀(vs l:List Value)(k:Nat),k+vs.length≤l.length→setL l k vs=l.take k++vs++l.drop (k+vs.length)
 |[],l,k,_=>by simp[setL]
 |v::vs,l,k,h=>by
  simp only[Zm]at h;have d:k<l.length:=by omega
  rw[setL,Qnr vs (l.set k v) (k+1) (by rw[List.length_set];omega)];have h1:(l.set k v).take (k+1)=l.take k++[v]:=by rw[List.take_succ_eq_append_getElem (by simpa using d)];simp[List.take_set_of_le]
  have c:(l.set k v).drop (k+1+vs.length)=l.drop (k+(vs.length+1)):=by rw[List.drop_set_of_lt (by omega)];congr 1;omega
  rw[h1,c];simp
theorem Qh.setW{r:Nat}{t:TypeId}:∀(vs:List Value){w}{cs:List Value}(k:Nat),Qh w r cs.toArray t→Qh (setW w r k vs) r (setL cs k vs).toArray t
 |[],_,_,_,h=>h
 |v::vs,w,cs,k,h=>Qh.setW vs (k+1) (h.set' k v (by simp))
theorem RowBlk.store{T:Type}{cells:T→List Value}{sz:Nat}(hc:∀x,(cells x).length=sz){w}{r:Nat}{l:List T}{t:TypeId}(h:RowBlk cells w r l t)(i:Nat)(hi:i<l.length)(x:T):
  RowBlk cells (setW w r (i*sz) (cells x)) r (l.set i x) t:=by
 have h1:=Qh.setW (cells x) (i*sz) h;have c:(i+1)*sz≤l.length*sz:=Nat.mul_le_mul_right _ hi;rw[Nat.add_mul]at c;rw[Qnr _ _ _ (by rw[hc,Yh hc];omega),hc,show i*sz+sz=(i+1)*sz by rw[Nat.add_mul];omega,←Qc6 hc l i x hi]at h1;exact h1
theorem Kb.drop{T:Type}{cells:T→List Value}{sz:Nat}{w}{g o:Nat}{l:List T}(h:Kb cells sz w (some ⟨g,o,none⟩) l)(k:Nat):Kb cells sz w (some ⟨g,o+k*sz,none⟩) (l.drop k):=by
 intro i hi;have c:k+i<l.length:=by simp at hi;omega
 obtain⟨B,E,d,z⟩:=h (k+i) c;simp only[Option.some.injEq,Addr.mk.injEq]at d;obtain⟨rfl,rfl,_⟩:=d;refine⟨g,o+k*sz,rfl,fun j u q=>?_⟩;rw[List.getElem_drop]at q;have:=z j u q;rw[Nat.add_mul]at this;rw[show o+k*sz+i*sz+j=o+(k*sz+i*sz)+j by omega];exact this
theorem Kb.take{T:Type}{cells:T→List Value}{sz:Nat}{w}{a:Option Addr}{l:List T}(h:Kb cells sz w a l)(k:Nat):Kb cells sz w a (l.take k):=by
 intro i hi;have c:i<l.length:=by simp at hi;omega
 obtain⟨g,o,rfl,q⟩:=h i c;refine⟨g,o,rfl,fun j u d=>q j u ?_⟩;rw[List.getElem_take]at d;exact d
theorem Kb.aB{T:Type}{cells:T→List Value}{sz:Nat}{w w1}{a:Option Addr}{l:List T}{S:Nat→Prop}(h:Kb cells sz w a l)(hc:Qc S w w1)(k:∀ad,a=some ad→¬S ad.block):Kb cells sz w1 a l:=by intro i hi;obtain⟨g,o,rfl,c⟩:=h i hi;refine⟨g,o,rfl,fun j u d=>?_⟩;rw[hc.cell (Qeu (c j u d)) (k ⟨g,o,none⟩ rfl)];exact c j u d
theorem Zh{S:Nat→Prop}{w v:World}(h:Qc S w v)(o:Obj):Qc S w (v.alloc o):=h.alloc o
theorem Zi{S:Nat→Prop}{w v:World}(h:Qc S w v)(n:Nat):Qc S w (v.drewN n):=h.drewN n
theorem Zj{S:Nat→Prop}{w v:World}(h:Qc S w v):Qc S w v.drew:=h.drew
theorem Zk{S:Nat→Prop}{w v:World}{a:Addr}(h:Qc S w v)(x:Value)(b:S a.block ∨ w.heap.size ≤ a.block):Qc S w (v.setCell a x):=h.setCell x b
theorem Fj(n:Int)(c:0≤n)(d:n<2 ^ 64):IntKind.u64.wrap n=n:=by
 have:IntKind.u64.wrap n=n%18446744073709551616:=by simp[IntKind.wrap,IntKind.bits,IntKind.signed]
 rw[this];omega
theorem Sg(x:Int)(c:0≤x)(d:x<18446744073709551616):bits .and .u64 x 4294967295=x%4294967296:=
 bits_mask .u64 64 (by decide) Fj 32 (by decide) x c d
theorem Qr8(x y:Int)(q:0≤x)(c:x<4294967296)(d:0≤y)(k:y<4294967296):bits .or .u64 (x*4294967296) y=x*4294967296+y:=
 bits_join .u64 64 (by decide) Fj 32 _ y (by omega) (by omega) (by omega) d k (by omega)
theorem Qnf{w wr W:World}{s:Nat}{k0 k1 k2 B:Array Value}{d q u E:TypeId}{X:Prop}(hs:s=w.heap.size)(H:Qc Qb w wr∧Qh wr s k0 d∧Qh wr (s+1) k1 q∧Qh wr (s+1+1) k2 u∧Qh wr (s+1+1+1) B E)
  (c:Qc (fun k=>k=s+1+1+1) wr W) (z:X):Qc Qb w W∧Qh W s k0 d∧Qh W (s+1) k1 q∧Qh W (s+1+1) k2 u∧X:=
 ⟨H.1.trans c (fun k I=>.inr (by omega)),c.blk H.2.1 (by omega),c.blk H.2.2.1 (by omega),c.blk H.2.2.2.1 (by omega),z⟩
theorem Qjk(a b a0 a1 b0 b1 B Z aa ab q0 r0 n1 q1 r1 n2 q2 r2 n3 q3 r3:Int)(w)
    (S0 : Hi (bits .and .u64 a 4294967295 = a0 ∧ a / 4294967296 = a1 ∧ bits .and .u64 b 4294967295 = b0 ∧ b / 4294967296 = b1))
    (S1 : Hi (a0 * b0 = B ∧ 0 ≤ B ∧ B ≤ 18446744065119617025 ∧ bits .and .u64 B 4294967295 = q0 ∧ B / 4294967296 = r0))
    (S2 : Hi (a0 * b1 = Z ∧ 0 ≤ Z ∧ Z ≤ 18446744065119617025 ∧ 0 ≤ r0 ∧ r0 ≤ 4294967295 ∧ Z + r0 = n1 ∧ bits .and .u64 n1 4294967295 = q1 ∧ n1 / 4294967296 = r1))
    (S3 : Hi (a1 * b0 = aa ∧ 0 ≤ aa ∧ aa ≤ 18446744065119617025 ∧ 0 ≤ q1 ∧ q1 ≤ 4294967295 ∧ aa + q1 = n2 ∧ bits .and .u64 n2 4294967295 = q2 ∧ n2 / 4294967296 = r2))
    (S4 : Hi (a1 * b1 = ab ∧ 0 ≤ ab ∧ ab ≤ 18446744065119617025 ∧ 0 ≤ r1 ∧ r1 ≤ 4294967295 ∧ 0 ≤ r2 ∧ r2 ≤ 4294967295 ∧ ab + r1 + r2 = n3 ∧ bits .and .u64 n3 4294967295 = q3 ∧ n3 / 4294967296 = r3))
    (S5 : Hi (0 ≤ r3 ∧ r3 ≤ 4294967295 ∧ 0 ≤ q3 ∧ q3 ≤ 4294967295 ∧ 0 ≤ q2 ∧ q2 ≤ 4294967295 ∧ 0 ≤ q0 ∧ q0 ≤ 4294967295)) :
    Cl 243 #[.int .u64 a,.int .u64 b] w fun e w'=>e=.returned (.agg #[.int .u64 (r3*4294967296+q3),.int .u64 (q2*4294967296+q0)])∧Qc Qb w w':=by
  go_enter func243,ntmps243
  have s0:=S0.o
  obtain⟨E,R,I,U⟩:=s0
  go_wp2
  clear E R I U
  go_loopw [22] (fun i wr=>Qc Qb w wr∧Qh wr w.heap.size #[.int .u64 0,.int .u64 0] 291∧Qh wr (w.heap.size+1) #[.int .u64 a0,.int .u64 a1] 319∧Qh wr (w.heap.size+1+1) #[.int .u64 b0,.int .u64 b1] 319∧
      ((i = .int .i64 0 ∧ Qh wr (w.heap.size + 1 + 1 + 1) #[.int .u64 0, .int .u64 0, .int .u64 0, .int .u64 0] 320) ∨ (i = .int .i64 1 ∧ Qh wr (w.heap.size + 1 + 1 + 1) #[.int .u64 q0, .int .u64 q1, .int .u64 r1, .int .u64 0] 320) ∨
       (i = .int .i64 2 ∧ Qh wr (w.heap.size + 1 + 1 + 1) #[.int .u64 q0, .int .u64 q2, .int .u64 q3, .int .u64 r3] 320))) (fun i _ => 2 - (intOf i).toNat)
  case atStart=>
    refine⟨?_,?_,?_,?_,.inl ⟨rfl,Qh.new' _ _ (by simp)⟩⟩
    · (repeat' (first | (with_reducible first | exact Zg _ _ | assumption | refine Zh ?_ _ | refine Zi ?_ _ | refine Zj ?_ | refine Zk ?_ _ ?_ | (apply Or.inl; rfl)) | (apply Or.inl; simp; done) | (apply Or.inr; simp; first | done | omega)))
    · exact (((Qh.new _ _ _).alloc _).alloc _).alloc _
    · exact ((Qh.new' _ _ (by simp)).alloc _).alloc _
    · exact (Qh.new' _ _ (by simp)).alloc _
  case round=>
    obtain⟨hc,V,J,K,⟨rfl,c⟩|⟨rfl,c⟩|⟨rfl,c⟩⟩:=hrel
    · have ac := J.cell 0
      have ae:=J.cell 1
      have af:=K.cell 0
      have ag:=K.cell 1
      have d:=c.cell 0
      have q:=c.cell 1
      have u:=c.cell 2
      have z:=c.cell 3
      have f3:=c.frozen
      have hs:=c.lt
      simp at ac ae af ag d q u z
      have HB:=O (Zt hc (Zt V (Zt J (Zt K c))))
      clear hc V J K c
      go_wp2
      refine wp_loop_rounds 3 ?_
      rw[rounds_succ]
      have s1:=S1.o
      obtain⟨E,R,I,U,x5⟩:=s1
      go_wp2
      go_quiet (fail)
      go_wp2
      clear E R I U x5
      rw[rounds_succ]
      have s2:=S2.o
      obtain⟨E,R,I,U,x5,x6,x7,x8⟩:=s2
      go_wp2
      go_quiet (fail)
      go_wp2
      clear E R I U x5 x6 x7 x8
      rw[rounds_succ]
      go_wp2
      go_roundw
      case rel=>
        refine Qnf rfl HB.o ?_ (.inr (.inl ⟨rfl,?_⟩))
        · (repeat' (first | (with_reducible first | exact Zg _ _ | assumption | refine Zh ?_ _ | refine Zi ?_ _ | refine Zj ?_ | refine Zk ?_ _ ?_ | (apply Or.inl; rfl)) | (apply Or.inl; simp; done) | (apply Or.inr; simp; first | done | omega)))
        · exact ((((HB.o.2.2.2.2.drewN _).set 0 _).drewN _).set 1 _).set 2 _
      case measure=>simp[intOf]
    · have ac := J.cell 0
      have ae:=J.cell 1
      have af:=K.cell 0
      have ag:=K.cell 1
      have d:=c.cell 0
      have q:=c.cell 1
      have u:=c.cell 2
      have z:=c.cell 3
      have f3:=c.frozen
      have hs:=c.lt
      simp at ac ae af ag d q u z
      have HB:=O (Zt hc (Zt V (Zt J (Zt K c))))
      clear hc V J K c
      go_wp2
      refine wp_loop_rounds 3 ?_
      rw[rounds_succ]
      have s1:=S3.o
      obtain⟨E,R,I,U,x5,x6,x7,x8⟩:=s1
      go_wp2
      go_quiet (fail)
      go_wp2
      clear E R I U x5 x6 x7 x8
      rw[rounds_succ]
      have s2:=S4.o
      obtain⟨E,R,I,U,x5,x6,x7,x8,x9,aj⟩:=s2
      go_wp2
      go_quiet (fail)
      go_wp2
      clear E R I U x5 x6 x7 x8 x9 aj
      rw[rounds_succ]
      go_wp2
      go_roundw
      case rel=>
        refine Qnf rfl HB.o ?_ (.inr (.inr ⟨rfl,?_⟩))
        · (repeat' (first | (with_reducible first | exact Zg _ _ | assumption | refine Zh ?_ _ | refine Zi ?_ _ | refine Zj ?_ | refine Zk ?_ _ ?_ | (apply Or.inl; rfl)) | (apply Or.inl; simp; done) | (apply Or.inr; simp; first | done | omega)))
        · exact ((((HB.o.2.2.2.2.drewN _).set 1 _).drewN _).set 2 _).set 3 _
      case measure=>simp[intOf]
    · have d := c.cell 0
      have q:=c.cell 1
      have u:=c.cell 2
      have z:=c.cell 3
      have ah:=V.cell 0
      have ai:=V.cell 1
      have f0:=V.frozen
      have hs:=c.lt
      simp at d q u z ah ai
      have HB:=O (Zt hc (Zt V (Zt J (Zt K c))))
      clear hc V J K c
      have s5:=S5.o
      obtain⟨E,R,I,U,x5,x6,x7,x8⟩:=s5
      have o1:=Qr8 r3 q3 E (by omega) I (by omega)
      have o2:=Qr8 q2 q0 x5 (by omega) x7 (by omega)
      go_wp2
      refine bodyPost_ret (v:=.agg #[.int .u64 (r3*4294967296+q3),.int .u64 (q2*4294967296+q0)]) (by simp[results,Tryz.results243,go_sem,ah,ai]) rfl ⟨rfl,?_⟩
      refine(HB.o.1).trans (S':=fun k=>k=w.heap.size) ?_ (fun k hk=>.inr (by omega))
      (repeat' (first | (with_reducible first | exact Zg _ _ | assumption | refine Zh ?_ _ | refine Zi ?_ _ | refine Zj ?_ | refine Zk ?_ _ ?_ | (apply Or.inl; rfl)) | (apply Or.inl; simp; done) | (apply Or.inr; simp; first | done | omega)))
theorem Dw(a b:Nat)(w)(ha:a<18446744073709551616)(hb:b<18446744073709551616):
  Cl 243 #[.int .u64 a,.int .u64 b] w fun e w'=>e=.returned (.agg #[.int .u64 ((a*b/18446744073709551616:Nat):Int),.int .u64 ((a*b%18446744073709551616:Nat):Int)])∧Qc Qb w w':=by
 obtain⟨d,aa⟩:∃x:Int,x=(a:Int)%4294967296:=⟨_,rfl⟩;obtain⟨a1,ab⟩:∃x:Int,x=(a:Int)/4294967296:=⟨_,rfl⟩;obtain⟨k,ae⟩:∃x:Int,x=(b:Int)%4294967296:=⟨_,rfl⟩;obtain⟨b1,af⟩:∃x:Int,x=(b:Int)/4294967296:=⟨_,rfl⟩;have pr:∀x y:Int,0≤x→x≤4294967295→0≤y→y≤4294967295→0≤x*y∧x*y≤18446744065119617025:=fun x y h1 h2 h3 h4=>
  ⟨Int.mul_nonneg h1 h3,Int.le_trans (Int.mul_le_mul h2 h4 h3 (by omega)) (by decide)⟩
 obtain⟨c,q⟩:∃x,d*k=x:=⟨_,rfl⟩;obtain⟨R,u⟩:∃x,d*b1=x:=⟨_,rfl⟩;obtain⟨U,z⟩:∃x,a1*k=x:=⟨_,rfl⟩;obtain⟨V,B⟩:∃x,a1*b1=x:=⟨_,rfl⟩;have E:=pr d k (by omega) (by omega) (by omega) (by omega);have I:=pr d b1 (by omega) (by omega) (by omega) (by omega);have J:=pr a1 k (by omega) (by omega) (by omega) (by omega);have K:=pr a1 b1 (by omega) (by omega) (by omega) (by omega);have ac:(a:Int)*(b:Int)=V*18446744073709551616+(U+R)*4294967296+c:=by
  have e1:(a:Int)=a1*4294967296+d:=by omega
  have e2:(b:Int)=b1*4294967296+k:=by omega
  rw[e1,e2,←q,←u,←z,←B];simp only[Int.add_mul,Int.mul_add];have r1:a1*4294967296*(b1*4294967296)=a1*b1*18446744073709551616:=by rw[Int.mul_assoc,Int.mul_left_comm 4294967296,←Int.mul_assoc a1 b1];rfl
  have r2:a1*4294967296*k=a1*k*4294967296:=by rw[Int.mul_assoc,Int.mul_comm 4294967296,←Int.mul_assoc]
  have Z:d*(b1*4294967296)=d*b1*4294967296:=by rw[Int.mul_assoc]
  rw[r1,r2,Z];omega
 rw[q]at E;rw[u]at I;rw[z]at J;rw[B]at K;have A1:=Sg a (by omega) (by omega);have B1:=Sg b (by omega) (by omega);clear pr;obtain⟨q0,al⟩:∃x:Int,x=c%4294967296:=⟨_,rfl⟩;obtain⟨r0,ap⟩:∃x:Int,x=c/4294967296:=⟨_,rfl⟩;obtain⟨n1,ai⟩:∃x:Int,R+r0=x:=⟨_,rfl⟩;obtain⟨q1,am⟩:∃x:Int,x=n1%4294967296:=⟨_,rfl⟩;obtain⟨r1,aq⟩:∃x:Int,x=n1/4294967296:=⟨_,rfl⟩;obtain⟨n2,aj⟩:∃x:Int,U+q1=x:=⟨_,rfl⟩;obtain⟨q2,an⟩:∃x:Int,x=n2%4294967296:=⟨_,rfl⟩;obtain⟨r2,ar⟩:∃x:Int,x=n2/4294967296:=⟨_,rfl⟩;obtain⟨n3,ak⟩:∃x:Int,V+r1+r2=x:=⟨_,rfl⟩;obtain⟨q3,ao⟩:∃x:Int,x=n3%4294967296:=⟨_,rfl⟩;obtain⟨Z,au⟩:∃x:Int,x=n3/4294967296:=⟨_,rfl⟩;have X0:=Sg c (by omega) (by omega);have X1:=Sg n1 (by omega) (by omega);have X2:=Sg n2 (by omega) (by omega);have X3:=Sg n3 (by omega) (by omega);have key:(a:Int)*(b:Int)=(Z*4294967296+q3)*18446744073709551616+(q2*4294967296+q0):=by rw[ac];omega
 have ag:((a*b/18446744073709551616:Nat):Int)=Z*4294967296+q3:=by
  have:((a*b:Nat):Int)=(a:Int)*(b:Int):=by simp
  omega
 have ah:((a*b%18446744073709551616:Nat):Int)=q2*4294967296+q0:=by
  have:((a*b:Nat):Int)=(a:Int)*(b:Int):=by simp
  omega
 rw[ag,ah];exact Qjk a b d a1 k b1 c R U V q0 r0 n1 q1 r1 n2 q2 r2 n3 q3 Z w
  (O ⟨A1.trans aa.symm,ab.symm,B1.trans ae.symm,af.symm⟩)
  (O ⟨q,E.1,E.2,X0.trans al.symm,ap.symm⟩)
  (O ⟨u,I.1,I.2,by omega,by omega,ai,X1.trans am.symm,aq.symm⟩)
  (O ⟨z,J.1,J.2,by omega,by omega,aj,X2.trans an.symm,ar.symm⟩)
  (O ⟨B,K.1,K.2,by omega,by omega,by omega,by omega,ak,X3.trans ao.symm,au.symm⟩)
  (O ⟨by omega,by omega,by omega,by omega,by omega,by omega,by omega,by omega⟩)
def Qek(n:Nat):Value:=.agg #[.int .u64 ((n/18446744073709551616:Nat):Int),.int .u64 ((n%18446744073709551616:Nat):Int)]
theorem Qm3(a b:Nat)(w):
  Cl 244 #[.int .u64 a,.int .u64 b] w fun e w'=>e=.returned (.int .i64 (if a<b then-1 else if b<a then 1 else 0))∧w=w':=by
 by_cases h1:a<b;·rw[if_pos h1];go_enter func244,ntmps244;go_wp2;go_ret;exact⟨rfl,rfl⟩
 ·rw[if_neg h1];by_cases c:b<a;·rw[if_pos c];go_enter func244,ntmps244;go_wp2;go_ret;exact⟨rfl,rfl⟩
  ·rw[if_neg c];go_enter func244,ntmps244;go_wp2;go_ret;exact⟨rfl,rfl⟩
theorem Qmx(h1 l1 d l2:Nat)(r:Int)(w)(hr:(if h1<d then(-1:Int)else if d<h1 then 1 else if l1<l2 then-1 else if l2<l1 then 1 else 0)=r):
  Cl 232 #[.agg #[.int .u64 h1,.int .u64 l1],.agg #[.int .u64 d,.int .u64 l2]] w fun e w'=>e=.returned (.int .i64 r)∧Qc Qb w w':=by
 have c:=O (fun w=>Qm3 h1 d w);have k:=O (fun w=>Qm3 l1 l2 w);by_cases q:h1<d;·rw[if_pos q]at hr c;subst hr;go_enter func232,ntmps232;go_wp2_with fail;refine Zz (c.o _) ?_;rintro w1 rfl;go_wp2;go_ret;refine⟨rfl,?_⟩;(repeat' (first|(with_reducible first|exact Zg _ _|assumption|refine Zh ?_ _|refine Zi ?_ _|refine Zj ?_|refine Zk ?_ _ ?_|(apply Or.inl;rfl))|(apply Or.inl;simp;done)|(apply Or.inr;simp;first|done|omega)))
 ·rw[if_neg q]at hr c;by_cases u:d<h1;·rw[if_pos u]at hr c;subst hr;go_enter func232,ntmps232;go_wp2_with fail;refine Zz (c.o _) ?_;rintro w1 rfl;go_wp2;go_ret;refine⟨rfl,?_⟩;(repeat' (first|(with_reducible first|exact Zg _ _|assumption|refine Zh ?_ _|refine Zi ?_ _|refine Zj ?_|refine Zk ?_ _ ?_|(apply Or.inl;rfl))|(apply Or.inl;simp;done)|(apply Or.inr;simp;first|done|omega)))
  ·rw[if_neg u]at hr c;rw[hr]at k;go_enter func232,ntmps232;go_wp2_with fail;refine Zz (c.o _) ?_;rintro w1 rfl;go_wp2_with fail;refine Zz (k.o _) ?_;rintro w1 rfl;go_wp2;go_ret;refine⟨rfl,?_⟩;(repeat' (first|(with_reducible first|exact Zg _ _|assumption|refine Zh ?_ _|refine Zi ?_ _|refine Zj ?_|refine Zk ?_ _ ?_|(apply Or.inl;rfl))|(apply Or.inl;simp;done)|(apply Or.inr;simp;first|done|omega)))
def Io(m n:Nat):Int:=if m<n then-1 else if n<m then 1 else 0
theorem Qj3(m n:Nat):(if m/18446744073709551616<n/18446744073709551616 then(-1:Int)else if n/18446744073709551616<m/18446744073709551616 then 1 else if m%18446744073709551616<n%18446744073709551616 then-1 else if n%18446744073709551616<m%18446744073709551616 then 1 else 0)=Io m n:=by
 unfold Io;repeat' split
 all_goals omega
theorem Qb5(m n:Nat)(w):
  Cl 232 #[.agg #[.int .u64 ((m/18446744073709551616:Nat):Int),.int .u64 ((m%18446744073709551616:Nat):Int)],.agg #[.int .u64 ((n/18446744073709551616:Nat):Int),.int .u64 ((n%18446744073709551616:Nat):Int)]] w fun e w'=>e=.returned (.int .i64 (Io m n))∧Qc Qb w w':=
 Qmx _ _ _ _ _ w (Qj3 m n)
structure Jy where
 f:Nat
 l:Nat
 r:Nat
def Jy.cells(c:Jy):List Value:=[.int .u64 c.f,.int .u64 c.l,.int .u64 c.r]
theorem Jy.aF(c:Jy):c.cells.length=3:=rfl
def Jy.zero:Jy:=⟨0,0,0⟩
structure Yk where
 id:Int
 par:Int
 leaf:Bool
 real:Jy
 share:Jy
 aN:Jy
 pk:Int
 bt:Int
abbrev Z4(b:Bool)(s:Yk):Array Value:=#[.int .i64 s.id,.int .i64 s.par,.bool b,.int .u64 s.real.f,.int .u64 s.real.l,.int .u64 s.real.r,.int .u64 s.share.f,.int .u64 s.share.l,.int .u64 s.share.r,.int .u64 s.aN.f,.int .u64 s.aN.l,.int .u64 s.aN.r,.int .i64 s.pk,.int .i64 s.bt]
abbrev Z5:Array Value:=#[.int .i64 0,.int .i64 0,.bool false,.int .u64 0,.int .u64 0,.int .u64 0,.int .u64 0,.int .u64 0,.int .u64 0,.int .u64 0,.int .u64 0,.int .u64 0,.int .i64 0,.int .i64 0]
abbrev Z6:Array Value:=#[.int .i64 0,.int .i64 0,.bool false,.int .u64 0,.int .u64 0,.int .u64 0,.int .u64 0,.int .u64 0,.int .u64 0,.int .u64 0,.int .u64 0,.int .u64 0,.int .i64 0,.int .i64 0,.int .i64 0]
end Go.Proofs.YtnnhmpehkbihnaaGreat
