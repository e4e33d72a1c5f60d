/- A part of the proof: no condition. -/
import Derived.Test.YtigcnnkagkbflaaGreatRows
import Derived.WalkKit
import Derived.ProofKit
import Derived.OpenShut
import Derived.SizedLaws
import Derived.Carry
import Derived.Deep.Slices
import Derived.Deep.QuietTactic
import Derived.StillTail
import Derived.BigQuiet
import Derived.Laws.OwnMore
import Derived.Laws.BitsLemmas
import Derived.IntWalk
import Derived.Laws.Externs
import Derived.Deep.RegionHeld3
import Derived.Maps.Own
import Derived.Maps.RangeRun
import Derived.OrdersHeld
import Derived.Maps.AppendAt
import Derived.Laws.AppendOwnNone
import Derived.Laws.CopyRow
import Derived.Laws.IdiomCopy
import Derived.RangeFuncNested
import Derived.RangeFuncBound
import Derived.RangeFuncCalls
import Derived.RangeFuncLeaves
import Derived.Shelf.Abstract
import Derived.Shelf.RegionOpen
import Derived.OwnWalkIn
import Derived.TacticsInMore
import Derived.LoopNIn
import Derived.LoopIn
namespace Go.Proofs.YtigcnnkagkbflaaGreat
set_option linter.unusedVariables false
set_option maxRecDepth 100000
set_option maxHeartbeats 4000000
open Go.RowKit
open Go.Proofs.Tryz
abbrev Cl:=Calls prog
abbrev ZW(f:FuncId)(a:Array Value)(w:World)(v:Value)(R:World->Prop):Prop:=Calls prog f a w λe w'=>e=.returned v/\R w'
abbrev ZU(n:Int):Value:=.int .u64 n
abbrev ZI(n:Int):Value:=.int .i64 n
abbrev ZP(b:Nat):Value:=.pointer (some ⟨b,0,none⟩)
abbrev ZH:Array Value:=#[.int .u8 0,ZU 0,ZI 0,ZI 0,ZU 0,.int .u8 0,ZU 0,ZU 0,ZU 0]
abbrev ZG:Array Value:=#[ZU 0,ZI 0,ZI 0,ZU 0,.int .u8 0,ZU 0,ZU 0,ZU 0]
abbrev ZJ:Array Value:=#[ZU 0,ZU 0,ZU 0,ZU 0,ZU 0,ZU 0,ZU 0,ZU 0]
abbrev ZK:Array Value:=#[ZU 0,ZI 0,ZI 0,ZU 0,.int .u8 0,ZU 0]
def Hi(p:Prop):Prop:=p
theorem Hi.o{p:Prop}(h:Hi p):p:=h
theorem Zo{P:Program}{f:FuncId}{a:Array Value}{w:World}{R S:Ending->World->Prop}(h:Hi (Calls P f a w R))(k:∀e w',R e w'->S e w'):Calls P f a w S:=h.mono k
theorem Zz{P:Program}{f:FuncId}{a:Array Value}{w:World}{v:Value}{R:World->Prop}{S:Ending->World->Prop}(h:Calls P f a w λe w'=>e=.returned v/\R w')(k:∀w',R w'->S (.returned v) w'):Calls P f a w S:=h.mono λe w' p=>p.1▸k w' p.2
theorem Zy{P:Program}{f:FuncId}{a:Array Value}{w:World}{v:Value}{R:World->Prop}{S:Ending->World->Prop}(h:Hi (Calls P f a w λe w'=>e=.returned v/\R w'))(k:∀w',R w'->S (.returned v) w'):Calls P f a w S:=Zz h k
theorem Zq:prog.follows .mixedOrders=true:=by kernel_rfl
theorem ZQ{f:FuncId}{a:Array Value}{w:World}{v:Value}{R:World->Prop}{S:Ending->World->Prop}(h:Hi (Calls prog f a w λe w'=>e=.returned v/\R w'))(k:∀w',Hi (R w')->S (.returned v) w'):Calls prog f a w S:=Zz h (λw p=>k w p)
theorem ZD{f:FuncId}{a:Array Value}{w:World}{v:Value}{R:World->Prop}{S:Ending->World->Prop}(h:Calls prog f a w λe w'=>e=.returned v/\R w')(k:∀w',Hi (R w')->S (.returned v) w'):Calls prog f a w S:=Zz h (λw p=>k w p)
theorem ZF{f:FuncId}{a:Array Value}{w:World}{v:Value}{R:World->Prop}{S:Ending->World->Prop}{T:World->Prop}(h:Hi (Calls prog f a w λe w'=>e=.returned v/\R w'))(q:∀w',R w'->T w')(k:∀w',Hi (T w')->S (.returned v) w'):Calls prog f a w S:=Zz h (λw p=>k w (q w p))
theorem Z9{f:FuncId}{a:Array Value}{w:World}{v:Value}{R:World->Prop}{S:Ending->World->Prop}{T:World->Prop}(h:Calls prog f a w λe w'=>e=.returned v/\R w')(q:∀w',R w'->T w')(k:∀w',Hi (T w')->S (.returned v) w'):Calls prog f a w S:=Zz h (λw p=>k w (q w p))
theorem WA{fn:Func}{R:Ending->World->Prop}{a:Act}{w:World}(r:fn.results=#[])(d:a.defers=[])(h:R (.returned (.tuple #[])) w):bodyPost prog fn R .ret a w:=bodyPost_ret (results_none r _ _ _) d h
theorem WB{fn:Func}{R:Ending->World->Prop}{a:Act}{w:World}(r:fn.results=#[])(d:a.defers=[])(h:R (.returned (.tuple #[])) w):bodyPost prog fn R .normal a w:=bodyPost_end (results_none r _ _ _) d h
theorem WD{G C:Prop}(h:Hi C)(q:Hi C->G:=by intro h;go_wp2;(first|go_ret|go_ret2|refine WB rfl rfl ?_|refine WA rfl rfl ?_);exact⟨rfl,h.o⟩):G:=q h
theorem WE{G:Prop}(q:G:=by go_wp2;(first|go_ret|go_ret2|refine WB rfl rfl ?_|refine WA rfl rfl ?_);exact⟨rfl,rfl⟩):G:=q
theorem WG{G C:Prop}(h:Hi C)(q:Hi C->G:=by intro h;go_wp2;(first|go_ret|go_ret2|refine WB rfl rfl ?_|refine WA rfl rfl ?_);exact⟨_,rfl,h.o⟩):G:=q h
theorem WH{f:FuncId}{fn:Func}{a:Array Value}{w:World}{R:Ending->World->Prop}{K:Prop}(h:prog.funcs[f]? =some fn)(k:K)(q:prog.funcs[f]? =some fn->K->Calls prog f a w R:=by intro h k;refine calls_of_wp h rfl ?_;(conv in Func.ntmps _=>whnf);simp only[List.size_toArray,List.length_cons,List.length_nil,Nat.reduceAdd,Nat.reduceSub,Array.replicate_succ,Array.replicate_zero,List.push_toArray,List.append_toArray,List.nil_append,List.cons_append];exact k):Calls prog f a w R:=q h k
theorem Zx{α:Sort _}(a:α):∃b,b=a:=⟨a,rfl⟩
theorem Zs{α:Type}{a b:α}(h:some a=some b):a=b:=Option.some.inj h
theorem Zt{a b:Prop}(h:a)(k:b):a/\b:=⟨h,k⟩
theorem Zu{α:Type}{a b:α}{l:List α}:a∈b::l↔a=b\/a∈l:=List.mem_cons
theorem Zv(n:Nat):n<=n:=Nat.le_refl n
theorem Zw(a b:Bool):((a&&b)=true)=(a=true/\b=true):=Bool.and_eq_true a b
theorem Zl{α:Type}{a:α}{s t:List α}:a∈s++t↔a∈s\/a∈t:=List.mem_append
theorem Zm{α:Type}{a:α}{l:List α}:(a::l).length=l.length+1:=List.length_cons
theorem Zn{α β:Type}{f:α->β}{a:α}:Option.map f (some a)=some (f a):=rfl
theorem Zp{n m k:Nat}(h:n<=m)(g:m<=k):n<=k:=Nat.le_trans h g
theorem Zr{α:Type}{a:α}(b:α){l:List α}(h:a∈l):a∈b::l:=List.mem_cons_of_mem b h
theorem Z1{α:Type}{l:List α}{i:Nat}{a:α}:l[i]? =some a↔∃h:i<l.length,l[i]=a:=List.getElem?_eq_some_iff
theorem Z2{α:Type}{l:Array α}{i:Nat}{a:α}:l[i]? =some a↔∃h:i<l.size,l[i]=a:=Array.getElem?_eq_some_iff
theorem Z3{α β:Type}{b:β}{f:α->β}{l:List α}:b∈l.map f↔∃a,a∈l/\f a=b:=List.mem_map
theorem Za{α:Type}(l:List α)(i:Nat)(a:α):l.toArray.setIfInBounds i a=(l.set i a).toArray:=List.setIfInBounds_toArray ..
theorem Zb{α:Type}(x:α)(l:List α)(i:Nat)(a:α):(x::l).set (i+1) a=x::l.set i a:=rfl
theorem Zc{α:Type}(x:α)(l:List α)(a:α):(x::l).set 0 a=a::l:=rfl
theorem Zd{α:Type}(x:α)(l:List α)(i:Nat):(x::l)[i+1]? =l[i]?:=List.getElem?_cons_succ ..
theorem Ze{α:Type}(x:α)(l:List α):(x::l)[0]? =some x:=List.getElem?_cons_zero ..
theorem ZT{a b:Nat}(h:a<b):decide ((a:Int)<(b:Int))=true/\decide (a<b)=true:=by simp;omega
theorem ZN{a b:Nat}(h:¬a<b):decide ((a:Int)<(b:Int))=false/\decide (a<b)=false:=by simp;omega
theorem Zf{α:Type}(l:List α)(i:Nat):l.toArray[i]? =l[i]?:=List.getElem?_toArray ..
section
open Go.ChangeShapes Go.WideShapes Go.ChangeAt
theorem Tl{H:Type}{enc:TypeId×Value->H}{P:Program}(J:laidOutB P=true){W E:World}(I:Below W.heap.size W E):
  ∀(c:List TypeId)(vs:List Value)(k:List (DataW H))(ps:List MemPlace),(c.all λt=>P.readableRec t&&decide (t<P.types.size))=true->
   DataW.TrodAll enc P W 0 (λ_=>true) true c vs k ps->(∀x∈ps,x.block<W.heap.size)->
   DataW.TrodAll enc P E 0 (λb=>decide (b<W.heap.size)) true c vs k ps
 |[],_,_,_,_,h,_=>by obtain⟨rfl,rfl,rfl⟩:=trodAll_nil h;exact trodAll_mk0
 |t::c,vs,k,ps,hr,h,Xg=>by
  obtain⟨v,B,d,u,p,q,rfl,rfl,rfl,K,R⟩:=trodAll_cons h;simp only[List.all_cons,Zw,decide_eq_true_eq]at hr;exact trodAll_cons_mk (Below.trod J hr.1.1 hr.1.2 K I λx z=>Xg x (List.mem_append_left _ z))
   (Tl J I c B u q (by simpa using hr.2) R λx z=>Xg x (List.mem_append_right _ z))
theorem Ii{H:Type}{enc:TypeId×Value->H}{P:Program}{w}{base:Nat}{spare:Nat->Bool}{held:Bool}:
  ∀(c:List TypeId)(vs:List Value)(z:List (DataW H))(ps:List MemPlace),DataW.TrodAll enc P w base spare held c vs z ps->z.length=c.length
 |[],_,_,_,h=>by obtain⟨_,rfl,_⟩:=trodAll_nil h;rfl
 |_::c,_,_,_,h=>by obtain⟨v,u,d,k,p,q,rfl,rfl,rfl,_,B⟩:=trodAll_cons h;have:=Ii c u k q B;simp[this]
def Qel{H:Type}(enc:TypeId×Value->H)(P:Program)(f:FuncId)(d:Func):Prop:=
 ∀(W)(base:Nat)(c:Array Value)(k:List (DataW H))(p:List MemPlace),
  (∀(j:Nat)t v,d.params[j]? =some t->c[j]? =some v->Value.okWide P W .any base t v)->
  DataW.TrodAll enc P W 0 (λ_=>true) true d.params.toList c.toList k p->
  (DataW.weightsEach P d.params.toList k).all (· <=reachBytes)=true->
  (∀x∈p,x.block<W.heap.size)->
  Calls P f c W λe q=>e=.returned (.bool true)/\Below W.heap.size W q
theorem Rh{H:Type}{enc:TypeId×Value->H}{C:Checked}{os:Os}{f:FuncId}{z:Func}{s:ChangeSpec}{tb:TypeId}
  (own:ownKnob C.prog.godebug=none)(k:os.Started)(B:C.prog.inits.idxOf? f=none)(ab:C.prog.funcs[f]? =some z)
  (u:∃(w:World)(d:Tape)(i:Input),w.os=os/\(w.forCall d i).Shaped C.prog/\i.vars=[]/\Input.okWide C.prog (w.forCall d i) .any w.heap.size f i/\
   s.pre6 enc C.prog z [] false (w.forCall d i).memory i.args/\(({}:Assume)).holds C.prog (lone (Frame.enter C.prog f i.args .normal) [] (w.forCall d i)))
  (hl:laidOutB C.prog=true) (hr:(z.params.toList.all λt=>C.prog.readableRec t&&decide (t<C.prog.types.size))=true)
  (U:z.resultTypes=#[tb]) (ae:C.prog.underlying tb=some .bool) (c:s.vars=[])
  (J:∀E:List (DataW H),E.length=z.params.size->s.fn H E={results:=[.lit (.bool true)],args:=E})
  (Z:Qel enc C.prog f z):
  ReturnsInHanded {} C os f .any (s.pre6 enc C.prog z [] false) (s.post enc C.prog z false true false false):=by
 refine returnsInHanded_of_change_sized own k B ab u ?_;intro W base args E gs aa V hW _ K _;have I:=hW;obtain⟨p,q,hA,hV,rfl,_,_⟩:=hW;have ac:gs=[]/\q=[]:=by rw[c]at hV;exact trodVars_none hV
 obtain⟨rfl,rfl⟩:=ac;have af:s.plain.varTypes C.prog=[]:=by have:s.plain.vars=[]:=c;simp[DataSpec.varTypes,this]
 rw[af]at K;simp only[List.append_nil]at K I;have Xg:∀x∈p,x.block<W.heap.size:=λx hx=>I.lt x hx;have R:E.length=z.params.size:=by have:=Ii _ _ _ _ hA;simpa using this
 refine(Z W base args E p V hA K Xg).mono λe W'⟨he,hb⟩=>?_;have e1:=J E R;refine⟨_,he,E,[],p,[],p,[],I,?_,?_,?_,hb.frame _,λh=>by cases h⟩;·rw[List.append_nil,e1,U];exact trodAll_cons_mk (shut_bool ae true) trodAll_mk0
 .rw[List.append_nil,e1];exact Tl hl hb _ _ _ _ hr hA Xg
 .rw[List.append_nil,e1,c];rfl
theorem O{p:Prop}(h:p):Hi p:=h
def Gy(F:TypeId->Option (List (Option IntKind)))(P:Program):List Field->Nat->Option (List (Option IntKind))
 |[],_=>some []
 |f::fs,off=>if f.offset=off then(F f.type).bind λc=>if P.cellsOf f.type=c.length then(Gy F P fs (off+c.length)).map (c++ ·)else none else none
def O9(P:Program):Nat->TypeId->Option (List (Option IntKind))
 |0,_=>none
 |n+1,t=>match P.underlying t with
  |some (.int k)=>some [some k]
  |some .bool=>some [none]
  |some (.struct fs)=>(Gy (O9 P n) P fs.toList 0).bind λc=>if P.cellsOf t=c.length then some c else none
  |_=>none
def O2:List (Option IntKind)->List Value->Prop
 |[],[]=>True
 |some k::ks,.int k' n::vs=>k'=k/\(Lit.int k n).wf=true/\O2 ks vs
 |none::ks,.bool _::vs=>O2 ks vs
 |_,_=>False
theorem O2.append:∀{a:List (Option IntKind)}{x:List Value}{b:List (Option IntKind)}{y:List Value},O2 a x->O2 b y->O2 (a++b) (x++y)
 |[],[],_,_,_,h=>h
 |some k::a,.int k' n::x,_,_,h,h'=>⟨h.1,h.2.1,O2.append h.2.2 h'⟩
 |none::a,.bool _::x,_,_,h,h'=>O2.append (a:=a) (x:=x) h h'
theorem O2.length:∀{a:List (Option IntKind)}{x:List Value},O2 a x->x.length=a.length
 |[],[],_=>rfl
 |some k::a,.int k' n::x,h=>by simp[O2.length h.2.2]
 |none::a,.bool _::x,h=>by have h':O2 a x:=h;simp[O2.length h']
theorem O2.int1{k:IntKind}{c:List (Option IntKind)}{x:List Value}(h:O2 (some k::c) x):∃n y,x=.int k n::y/\(Lit.int k n).wf=true/\O2 c y:=by
 match x,h with
 | .int k' n::y,h=>obtain⟨rfl,d,q⟩:=h;exact⟨n,y,rfl,d,q⟩
theorem O2.bool1{c:List (Option IntKind)}{x:List Value}(h:O2 (none::c) x):∃b y,x=.bool b::y/\O2 c y:=by
 match x,h with
 | .bool b::y,h=>exact⟨b,y,rfl,h⟩
theorem O2.nil0{x:List Value}(h:O2 [] x):x=[]:=by
 match x,h with
 |[],_=>rfl
section
variable{H:Type}{enc:TypeId×Value->H}{P:Program}{w:World}{base:Nat}{spare:Nat->Bool}{held:Bool}
theorem Fw{F:TypeId->Option (List (Option IntKind))}{n:Nat}{cs:List Value}
  (B:∀t d cs x,F t=some d->DataW.trod enc P w base spare held n t cs=some x->O2 d cs):
  ∀(k:List Field)(c:Nat)(d:List (Option IntKind)),Gy F P k c=some d->
   (∀f∈k,∃x,DataW.trod enc P w base spare held n f.type ((cs.drop f.offset).take (P.cellsOf f.type))=some x)->
   cs.length=c+d.length->O2 d (cs.drop c)
 |[],c,d,h,_,hl=>by simp only[Gy,Option.some.injEq]at h;subst h;rw[List.drop_of_length_le (by simp at hl;omega)];trivial
 |f::k,c,d,h,hx,hl=>by
  simp only[Gy]at h;split at h;case isFalse=>cases h
  case isTrue ho=>
  obtain⟨K,q,h⟩:=Option.bind_eq_some_iff.1 h;split at h;case isFalse=>cases h
  case isTrue hc=>
  obtain⟨R,u,rfl⟩:=Option.map_eq_some_iff.1 h;obtain⟨x,E⟩:=hx f (by simp);have z:=B _ _ _ _ q E;rw[ho,hc]at z;have I:=Fw B k (c+K.length) R u (λg J=>hx g (by simp[J])) (by simp at hl;omega);have:=z.append I;rw[<-List.drop_drop,List.take_append_drop]at this;exact this
theorem Ni:∀(n:Nat){c:Nat}{t:TypeId}{u:List (Option IntKind)}{cs:List Value}{x:DataW H×List MemPlace},O9 P n t=some u->
  DataW.trod enc P w base spare held c t cs=some x->O2 u cs
 |0,_,_,_,_,_,h,_=>by simp[O9]at h
 |n+1,c,t,u,cs,x,h,hx=>by
  simp only[O9]at h;split at h;·rename_i k q;obtain⟨v,rfl,_,hw⟩:=DataW.trod_int q hx;simp only[Option.some.injEq]at h;subst h;exact⟨rfl,hw,trivial⟩
  .rename_i q;obtain⟨b,rfl,_⟩:=DataW.trod_bool q hx;simp only[Option.some.injEq]at h;subst h;trivial
  .rename_i z q;obtain⟨kr,E,h⟩:=Option.bind_eq_some_iff.1 h;split at h;case isFalse=>cases h
   case isTrue hc=>
   simp only[Option.some.injEq]at h;subst h;obtain⟨R,m,rfl,_,K,J,Z⟩:=DataW.trod_struct q hx;have:=Fw (cs:=cs) (F:=O9 P n) (n:=m) (enc:=enc) (P:=P) (w:=w) (base:=base) (spare:=spare) (held:=held)
    (λt u cs x U V=>Ni n U V) z.toList 0 kr E (λf B=>by
     obtain⟨i,hi,rfl⟩:=List.mem_iff_getElem.1 B;have d:i<z.size:=by simpa using hi
     have e:=Z i (z[i]) (by simp[d]);have I:i<R.length:=by rw[J];exact d
     rw[List.getElem?_eq_getElem I]at e;exact⟨R[i],by simpa using e⟩) (by omega)
   simpa using this
  .cases h
theorem Q1u{r:Reach}{q:Nat}{t:TypeId}{u:Array Field}{n:Nat}{k:List (Option IntKind)}{v:Value}{d:DataW H}{p:List MemPlace}
  (E:P.underlying t=some (.struct u))(B:O9 P n t=some k)(J:Value.okWide P w r q t v)(h:DataW.Trod enc P w base spare held t v d p):
  ∃cs:List Value,v=.agg cs.toArray/\O2 k cs:=by
 obtain⟨cs,rfl,I⟩:=okWide_struct E J;obtain⟨c,z⟩:=h;exact⟨cs.toList,by simp,by simpa[Value.cells]using Ni n B z⟩
def Qnx(w:World)(sz:Nat)(v:Value)(c:List (List Value)):Prop:=
 ∃a cap,v=.slice a c.length cap/\c.length<=cap/\(a=none->cap=0)/\
  ∀i,i<c.length->∃g o,a=some ⟨g,o,none⟩/\∀j u,(c.getD i [])[j]? =some u->w.cell? ⟨g,o+i*sz+j,none⟩=some u
theorem Qa1{t e:TypeId}{n:Nat}{I:List (Option IntKind)}{r:Reach}{b0:Nat}{v:Value}{d:DataW H}{p:List MemPlace}
  (ht:P.underlying t=some (.slice e))(hk:O9 P n e=some I)(hc:P.cellsOf e=I.length)(h0:0<I.length)
  (hv:Value.okWide P w r b0 t v) (h:DataW.Trod enc P w base spare held t v d p):
  ∃xs:List (List Value),Qnx w I.length v xs/\(∀x∈xs,O2 I x)/\xs.length<=maxLen:=by
 obtain⟨a0,J,cap,rfl⟩:=okWide_slice ht hv;obtain⟨ag,hf⟩:=h;rcases Go.Deep.open_slice ht hf with⟨c,_⟩|⟨a,ai,af,m,k,D,Pl,c,_,hl,hm,ab,_,hi⟩;·simp[Value.cells]at c;obtain⟨rfl,rfl,rfl⟩:=c;exact⟨[],⟨none,0,rfl,Zv _,λ_=>rfl,λi hi=>absurd hi (by simp)⟩,by simp,by simp⟩
 .simp[Value.cells]at c;obtain⟨rfl,rfl,rfl⟩:=c;obtain⟨f,B⟩:=Go.Deep.choose_lt (α:=List Value) (n:=J) (p:=λi z=>w.cells? base (a.add (i*P.cellsOf e)) (P.cellsOf e)=some z/\O2 I z) (λi K=>by
   obtain⟨z,U,V⟩:=hi i (by rw[ab];split<;>omega);exact⟨z,U,Ni n hk V⟩)
  refine⟨(List.range J).map f,⟨some a,cap,by simp,by simpa using hl,by simp,λi K=>?_⟩,?_,by simp;omega⟩
  .have q:i<J:=by simpa using K
   obtain⟨U,V⟩:=B i q;obtain⟨_,ah,Z⟩:=World.cells?_some U;obtain⟨b,ac,R⟩:=a;have E:R=none:=by obtain⟨q1,q2⟩:=B 0 (by omega);obtain⟨_,aj,ae⟩:=World.cells?_some q1;have:=ae 0 (by omega);rw[List.getElem?_eq_getElem (by omega)]at this;have h3:=World.cell?_spot this;simpa[Addr.add]using h3
   subst E;refine⟨b,ac,rfl,λj u hu=>?_⟩;have hj:j<I.length:=by have:=(Z1.1 hu).1;have ak:=V.length;simp[List.getD,q]at this;omega
   have:=Z j (by omega);rw[Go.Deep.add_add]at this;simp[List.getD,q]at hu;rw[hu]at this;rw[<-this,hc];simp only[Addr.add];split;·rename_i hz;congr 2;omega
   .simp[Nat.add_assoc]
  .intro x hx;obtain⟨i,aa,rfl⟩:=Z3.1 hx;exact(B i (by simpa using aa)).2
end
theorem Qnx.below{w w'}{B sz:Nat}{v:Value}{d:List (List Value)}(h:Qnx w sz v d)(q:Below B w w')(U:w.heap.size<=B):Qnx w' sz v d:=by
 obtain⟨a,cap,rfl,z,J,R⟩:=h;refine⟨a,cap,rfl,z,J,λi E=>?_⟩;obtain⟨g,o,rfl,I⟩:=R i E;refine⟨g,o,rfl,λj u K=>?_⟩;have c:=I j u K;have V:g<w.heap.size:=by
  unfold World.cell? at c;split at c;·rename_i k;exact(Z2.1 k).1
  .cases c
 rw[q.cell (by show g<B;omega)];exact c
theorem Ms{T:Type}(cells:T->List Value)(d:T->Prop):∀(c:List (List Value)),(∀x∈c,∃p,x=cells p/\d p)->∃l:List T,c=l.map cells/\∀p∈l,d p
 |[],_=>⟨[],rfl,by simp⟩
 |x::c,h=>by obtain⟨p,rfl,q⟩:=h x (by simp);obtain⟨l,rfl,k⟩:=Ms cells d c (λy u=>h y (by simp[u]));exact⟨p::l,rfl,by simpa using⟨q,k⟩⟩
def Kb{T:Type}(cells:T->List Value)(sz:Nat)(w:World)(a:Option Addr)(l:List T):Prop:=
 ∀(i:Nat)(h:i<l.length),∃g o,a=some ⟨g,o,none⟩/\∀j u,(cells l[i])[j]? =some u->w.cell? ⟨g,o+i*sz+j,none⟩=some u
theorem Qnx.row{T:Type}{cells:T->List Value}{w}{sz:Nat}{v:Value}{l:List T}(h:Qnx w sz v (l.map cells)):
  ∃a cap,v=.slice a l.length cap/\l.length<=cap/\(a=none->cap=0)/\Kb cells sz w a l:=by
 obtain⟨a,cap,rfl,d,k,q⟩:=h;refine⟨a,cap,by simp,by simpa using d,k,λi c=>?_⟩;have:=q i (by simpa using c);simpa[List.getD,c]using this
theorem Qeu{w:World}{p:Addr}{u:Value}(c:w.cell? p=some u):p.block<w.heap.size:=by
 unfold World.cell? at c;split at c;·rename_i d;exact(Z2.1 d).1
 .cases c
theorem Kb.below{T:Type}{cells:T->List Value}{sz:Nat}{w w'}{a:Option Addr}{l:List T}(h:Kb cells sz w a l)(k:Below w.heap.size w w'):Kb cells sz w' a l:=by intro i q;obtain⟨g,o,rfl,c⟩:=h i q;refine⟨g,o,rfl,λj u d=>?_⟩;rw[k.cell (Qeu (c j u d))];exact c j u d
end
section
variable{P:Program}{ops:Array Oper}{C:World->Prop}{Q:Exit->Act->World->Prop}
def Xs(ops:Array Oper):Nat->Nat->Nat->Bool
 |0,_,_=>false
 |f+1,t,h=>match ops[t]? with
  |some o=>o.after.any λe=>Region.binds .any e&&(e.on==h||Xs ops f e.on h)
  |none=>false
def Xj(ops:Array Oper)(c:Array Bool):Prop:=
 ∀j d,ops[j]? =some d->c.getD j false=true->∀e∈d.after,Region.binds .any e=true->c.getD e.on false=true
theorem Yw{c:Array Bool}(B:Xj ops c):∀(f t h:Nat),
  (∀o,ops[t]? =some o->∀e∈o.after,Region.binds .any e=true->c.getD e.on false=true)->Xs ops f t h=true->c.getD h false=true
 |0,_,_,_,hw=>by simp[Xs]at hw
 |f+1,t,h,ht,hw=>by
  simp only[Xs]at hw;split at hw
  .rename_i o K;obtain⟨e,J,d⟩:=Array.any_eq_true'.1 hw;simp only[Zw,Bool.or_eq_true,beq_iff_eq]at d;have z:=ht o K e J d.1;rcases d.2 with rfl|I;·exact z
   .exact Yw B f e.on h (λR u E q k=>B e.on R u z E q k) I
  .cases hw
theorem Xj.set{c:Array Bool}{i:Nat}(J:Xj ops c)(K:i∈Region.ready .any ops c):Xj ops (c.setIfInBounds i true):=by
 obtain⟨_,R,q,d⟩:=mem_ready.1 K;intro j I B E e z u;by_cases k:i=j;·subst k;have:I=R:=Zs (B.symm.trans q);subst this;exact getD_set_true (d e z u)
 .rw[getD_set_ne false k]at E;exact getD_set_true (J j I B E e z u)
def W9(o:Oper):Bool:=match o with
 |{dst:=some _,op:=.move _,guard:=none,..}=>true
 |_=>false
theorem Fz{o:Oper}(h:W9 o=true):∃d x,o.dst=some d/\o.op=.move x/\o.guard=none:=by
 unfold W9 at h;split at h;·exact⟨_,_,rfl,rfl,rfl⟩
 .cases h
end
theorem Qbe{P:Program}{f:FuncId}{c:Array Value}{w:World}{n:Nat}{v:Value}
  (h:Calls P f c (w.drewN n) λe w'=>e=.returned v/\w.drewN n=w'):Calls P f c (w.drewN n) λe d=>e=.returned v/\∃m,d=w.drewN m:=
 h.mono λ_ _⟨k,q⟩=>⟨k,n,q.symm⟩
def Qh(w:World)(b:Nat)(cs:Array Value)(t:TypeId):Prop:=w.heap[b]? =some (.cells cs t (0,0))
theorem Qh.lt{w}{b:Nat}{cs:Array Value}{t:TypeId}(h:Qh w b cs t):b<w.heap.size:=(Z2.1 h).1
theorem Qh.cell{w}{b:Nat}{cs:Array Value}{t:TypeId}(h:Qh w b cs t)(i:Nat):w.cell? ⟨b,i,none⟩=cs[i]? :=by unfold Qh at h;simp[World.cell?,h]
theorem Qh.at{w}{b:Nat}{cs:Array Value}{t:TypeId}(h:Qh w b cs t)(j:Nat){v:Value}(c:cs[j]? =some v):w.cell? ⟨b,j,none⟩=some v:=by rw[h.cell];exact c
theorem Qh.frozen{w}{b:Nat}{cs:Array Value}{t:TypeId}(h:Qh w b cs t)(i:Nat):w.frozen? ⟨b,i,none⟩=false:=by unfold Qh at h;simp[World.frozen?,h]
theorem Qh.set{w}{b:Nat}{cs:Array Value}{t:TypeId}(h:Qh w b cs t)(i:Nat)(v:Value):Qh (w.setCell ⟨b,i,none⟩ v) b (cs.setIfInBounds i v) t:=by unfold Qh at*;simp[World.setCell,Array.getElem?_modify,h]
theorem Qh.set'{w}{b:Nat}{cs cs':Array Value}{t:TypeId}(h:Qh w b cs t)(i:Nat)(v:Value)(e:cs.setIfInBounds i v=cs'):Qh (w.setCell ⟨b,i,none⟩ v) b cs' t:=e▸h.set i v
theorem Qh.other{w}{b:Nat}{cs:Array Value}{t:TypeId}(h:Qh w b cs t){a:Addr}(v:Value)(c:a.block≠b):Qh (w.setCell a v) b cs t:=by unfold Qh at*;rw[Below.heap_setCell _ _ _ _ (Ne.symm c)];exact h
theorem Qh.alloc{w}{b:Nat}{cs:Array Value}{t:TypeId}(h:Qh w b cs t)(o:Obj):Qh (w.alloc o) b cs t:=by have:=h.lt;unfold Qh at*;rw[Below.heap_alloc _ _ _ this];exact h
theorem Qh.new(w:World)(cs:Array Value)(t:TypeId):Qh (w.alloc (.cells cs t)) w.heap.size cs t:=by unfold Qh;show(w.heap.push _)[w.heap.size]? =_;simp
theorem Qh.new'{w:World}{n:Nat}(cs:Array Value)(t:TypeId)(c:n=w.heap.size):Qh (w.alloc (.cells cs t)) n cs t:=c▸Qh.new w cs t
theorem Qh.drewN{w}{b:Nat}{cs:Array Value}{t:TypeId}(h:Qh w b cs t)(n:Nat):Qh (w.drewN n) b cs t:=h
theorem Qh.drew{w}{b:Nat}{cs:Array Value}{t:TypeId}(h:Qh w b cs t):Qh w.drew b cs t:=h
structure Qc(S:Nat->Prop)(w w':World):Prop where
 os:w'.os=w.os
 tape:w'.tape=w.tape
 output:w'.output=w.output
 size:w.heap.size<=w'.heap.size
 block:∀k,k<w.heap.size->¬S k->w'.heap[k]? =w.heap[k]?
section
variable{S S':Nat->Prop}{w w1 w2:World}
theorem Zg(S:Nat->Prop)(w):Qc S w w:=⟨rfl,rfl,rfl,Zv _,λ_ _ _=>rfl⟩
theorem Qc.trans(h:Qc S w w1)(h':Qc S' w1 w2)(u:∀k,S' k->S k\/w.heap.size<=k):Qc S w w2:=
 ⟨h'.os.trans h.os,h'.tape.trans h.tape,h'.output.trans h.output,Zp h.size h'.size,λk q d=>
  (h'.block k (Nat.lt_of_lt_of_le q h.size) (λc=>(u k c).elim d (λh=>by omega))).trans (h.block k q d)⟩
theorem Qc.mono(h:Qc S w w1)(u:∀k,S k->S' k\/w.heap.size<=k):Qc S' w w1:=
 ⟨h.os,h.tape,h.output,h.size,λk d q=>h.block k d (λc=>(u k c).elim q (λh=>by omega))⟩
theorem Qc.aA(h:Qc S w w1)(h':Qc S w1 w2):Qc S w w2:=h.trans h' λk c=>.inl c
theorem Qc.drewN(h:Qc S w w1)(n:Nat):Qc S w (w1.drewN n):=⟨h.os,h.tape,h.output,h.size,h.block⟩
theorem Qc.drew(h:Qc S w w1):Qc S w w1.drew:=⟨h.os,h.tape,h.output,h.size,h.block⟩
theorem Qc.alloc(h:Qc S w w1)(o:Obj):Qc S w (w1.alloc o):=
 ⟨h.os,h.tape,h.output,Zp h.size (by simp),λk c d=>(Below.heap_alloc _ _ _ (Nat.lt_of_lt_of_le c h.size)).trans (h.block k c d)⟩
theorem Qc.setCell(h:Qc S w w1){a:Addr}(v:Value)(ha:S a.block\/w.heap.size<=a.block):Qc S w (w1.setCell a v):=
 ⟨h.os,h.tape,h.output,by simpa[World.setCell]using h.size,λk d c=>(Below.heap_setCell _ _ _ _ (λe=>by
  subst e;exact ha.elim c (λh=>by omega))).trans (h.block k d c)⟩
theorem Qc.ofBelow(h:Below w.heap.size w w1):Qc S w w1:=⟨h.os,h.tape,h.output,h.size,λk c _=>h.block k c⟩
theorem Qc.toBelow(h:Qc S w w1){B:Nat}(q:B<=w.heap.size)(d:∀k,S k->B<=k):Below B w w1:=
 ⟨h.os,h.tape,h.output,h.size,λk u=>h.block k (by omega) (λc=>by have:=d k c;omega)⟩
theorem Qc.grown{d:Option Nat}(h:Qc S w w1)(c:w1.grownBy w2 d)(z:∀k,d=some k->S k\/w.heap.size<=k):Qc S w w2:=
 ⟨c.os.trans h.os,c.tape.trans h.tape,c.output.trans h.output,Zp h.size c.size,λk u q=>
  (c.block k (Nat.lt_of_lt_of_le u h.size) (λe=>(z k e.symm).elim q (λh=>by omega))).trans (h.block k u q)⟩
theorem Qc.blk(h:Qc S w w1){b:Nat}{cs:Array Value}{t:TypeId}(c:Qh w b cs t)(d:¬S b):Qh w1 b cs t:=
 (h.block b c.lt d).trans c
theorem Qc.heap(h:Qc S w w1){b:Nat}{o:Obj}(c:w.heap[b]? =some o)(d:¬S b):w1.heap[b]? =some o:=
 (h.block b (Z2.1 c).1 d).trans c
theorem Qc.cell(h:Qc S w w1){a:Addr}(ha:a.block<w.heap.size)(c:¬S a.block):w1.cell? a=w.cell? a:=
 World.cell?_of_block (w:=w) (h.block a.block ha c)
end
abbrev Qb:Nat->Prop:=λ_=>False
theorem Qc.below{w w1}(h:Qc Qb w w1):Below w.heap.size w w1:=h.toBelow (Zv _) λ_ h=>h.elim
def Jm{T:Type}(cells:T->List Value)(l:List T):List Value:=l.flatMap cells
section
variable{T:Type}{cells:T->List Value}{sz:Nat}
theorem Yh(c:∀x,(cells x).length=sz):∀l:List T,(Jm cells l).length=l.length*sz
 |[]=>by simp[Jm]
 |x::l=>by have:=Yh c l;simp only[Jm,List.flatMap_cons,List.length_append,Zm,c]at*;rw[this,Nat.add_mul];omega
theorem V8(x:T)(l:List T):Jm cells (x::l)=cells x++Jm cells l:=rfl
theorem Ge(a b:List T):Jm cells (a++b)=Jm cells a++Jm cells b:=by simp[Jm]
theorem Eb(c:∀x,(cells x).length=sz):∀(l:List T)(i j:Nat)(d:i<l.length),j<sz->(Jm cells l)[i*sz+j]? =(cells l[i])[j]?
 |x::l,0,j,_,hj=>by rw[V8,List.getElem?_append_left (by rw[c];omega)];simp
 |x::l,i+1,j,d,hj=>by rw[V8,List.getElem?_append_right (by rw[c,Nat.add_mul];omega),c,show(i+1)*sz+j-sz=i*sz+j by rw[Nat.add_mul];omega];simpa using Eb c l i j (by simpa using d) hj
theorem Wn(c:∀x,(cells x).length=sz)(l:List T)(n:Nat):(Jm cells l).take (n*sz)=Jm cells (l.take n):=by
 induction l generalizing n with
 |nil=>simp[Jm]
 |cons x l d=>
  cases n with
  |zero=>simp[Jm]
  |succ n=>
   rw[V8,List.take_succ_cons,V8,List.take_append,c,show(n+1)*sz-sz=n*sz by rw[Nat.add_mul];omega,d,
    List.take_of_length_le (by rw[c,Nat.add_mul];omega)]
theorem Qc6(c:∀x,(cells x).length=sz):∀(l:List T)(i:Nat)(x:T),i<l.length->Jm cells (l.set i x)=(Jm cells l).take (i*sz)++cells x++(Jm cells l).drop ((i+1)*sz)
 |y::l,0,x,_=>by simp[V8,c]
 |y::l,i+1,x,hi=>by
  have z:=Qc6 c l i x (by simpa using hi);have d:(i+1)*sz=sz+i*sz:=by rw[Nat.add_mul];omega
  have k:(i+1+1)*sz=sz+(i+1)*sz:=by rw[Nat.add_mul (i+1)];omega
  have q:(cells y++Jm cells l).take (sz+i*sz)=cells y++(Jm cells l).take (i*sz):=by rw[List.take_append,c,Nat.add_sub_cancel_left,List.take_of_length_le (by rw[c];omega)]
  have u:(cells y++Jm cells l).drop (sz+(i+1)*sz)=(Jm cells l).drop ((i+1)*sz):=by rw[List.drop_append,c,Nat.add_sub_cancel_left,List.drop_of_length_le (by rw[c];omega),List.nil_append]
  rw[Zb,V8,V8,z,k,u,d,q];simp[List.append_assoc]
end
def RowBlk{T:Type}(cells:T->List Value)(w:World)(r:Nat)(l:List T)(t:TypeId):Prop:=Qh w r (Jm cells l).toArray t
theorem RowBlk.cellAt{T:Type}{cells:T->List Value}{sz:Nat}(c:∀x,(cells x).length=sz){w}{r:Nat}{l:List T}{t:TypeId}(h:RowBlk cells w r l t)(i:Nat)(k:i<l.length)(j:Nat)(u:Value)(d:(cells l[i])[j]? =some u):
  w.cell? ⟨r,i*sz+j,none⟩=some u:=by
 have q:j<sz:=by have:=(Z1.1 d).1;rw[c]at this;exact this
 rw[Qh.cell h];simp only[Zf];rw[Eb c l i j k q];exact d
theorem RowBlk.row{T:Type}{cells:T->List Value}{sz:Nat}(c:∀x,(cells x).length=sz){w}{r:Nat}{l:List T}{t:TypeId}(h:RowBlk cells w r l t):Kb cells sz w (some ⟨r,0,none⟩) l:=by intro i d;refine⟨r,0,rfl,λj u k=>?_⟩;rw[Nat.zero_add];exact h.cellAt c i d j u k
def setW(w:World)(r:Nat):Nat->List Value->World
 |_,[]=>w
 |k,v::vs=>setW (w.setCell ⟨r,k,none⟩ v) r (k+1) vs
def setL:List Value->Nat->List Value->List Value
 |l,_,[]=>l
 |l,k,v::vs=>setL (l.set k v) (k+1) vs
theorem Qnr:∀(vs l:List Value)(k:Nat),k+vs.length<=l.length->setL l k vs=l.take k++vs++l.drop (k+vs.length)
 |[],l,k,_=>by simp[setL]
 |v::vs,l,k,h=>by
  simp only[Zm]at h;have q:k<l.length:=by omega
  rw[setL,Qnr vs (l.set k v) (k+1) (by rw[List.length_set];omega)];have c:(l.set k v).take (k+1)=l.take k++[v]:=by rw[List.take_succ_eq_append_getElem (by simpa using q)];simp[List.take_set_of_le]
  have d:(l.set k v).drop (k+1+vs.length)=l.drop (k+(vs.length+1)):=by rw[List.drop_set_of_lt (by omega)];congr 1;omega
  rw[c,d];simp
theorem Qh.setW{r:Nat}{t:TypeId}:∀(vs:List Value){w}{cs:List Value}(k:Nat),Qh w r cs.toArray t->Qh (setW w r k vs) r (setL cs k vs).toArray t
 |[],_,_,_,h=>h
 |v::vs,w,cs,k,h=>Qh.setW vs (k+1) (h.set' k v (by simp))
theorem RowBlk.store{T:Type}{cells:T->List Value}{sz:Nat}(c:∀x,(cells x).length=sz){w}{r:Nat}{l:List T}{t:TypeId}(h:RowBlk cells w r l t)(i:Nat)(k:i<l.length)(x:T):
  RowBlk cells (setW w r (i*sz) (cells x)) r (l.set i x) t:=by
 have d:=Qh.setW (cells x) (i*sz) h;have q:(i+1)*sz<=l.length*sz:=Nat.mul_le_mul_right _ k;rw[Nat.add_mul]at q;rw[Qnr _ _ _ (by rw[c,Yh c];omega),c,show i*sz+sz=(i+1)*sz by rw[Nat.add_mul];omega,<-Qc6 c l i x k]at d;exact d
theorem Kb.drop{T:Type}{cells:T->List Value}{sz:Nat}{w}{g o:Nat}{l:List T}(h:Kb cells sz w (some ⟨g,o,none⟩) l)(k:Nat):Kb cells sz w (some ⟨g,o+k*sz,none⟩) (l.drop k):=by
 intro i z;have c:k+i<l.length:=by simp at z;omega
 obtain⟨E,I,d,B⟩:=h (k+i) c;simp only[Option.some.injEq,Addr.mk.injEq]at d;obtain⟨rfl,rfl,_⟩:=d;refine⟨g,o+k*sz,rfl,λj u q=>?_⟩;rw[List.getElem_drop]at q;have:=B j u q;rw[Nat.add_mul]at this;rw[show o+k*sz+i*sz+j=o+(k*sz+i*sz)+j by omega];exact this
theorem Kb.take{T:Type}{cells:T->List Value}{sz:Nat}{w}{a:Option Addr}{l:List T}(h:Kb cells sz w a l)(k:Nat):Kb cells sz w a (l.take k):=by
 intro i q;have c:i<l.length:=by simp at q;omega
 obtain⟨g,o,rfl,z⟩:=h i c;refine⟨g,o,rfl,λj u d=>z j u ?_⟩;rw[List.getElem_take]at d;exact d
theorem Kb.aB{T:Type}{cells:T->List Value}{sz:Nat}{w w1}{a:Option Addr}{l:List T}{S:Nat->Prop}(h:Kb cells sz w a l)(q:Qc S w w1)(k:∀ad,a=some ad->¬S ad.block):Kb cells sz w1 a l:=by intro i z;obtain⟨g,o,rfl,c⟩:=h i z;refine⟨g,o,rfl,λj u d=>?_⟩;rw[q.cell (Qeu (c j u d)) (k ⟨g,o,none⟩ rfl)];exact c j u d
theorem Zh{S:Nat->Prop}{w v:World}(h:Qc S w v)(o:Obj):Qc S w (v.alloc o):=h.alloc o
theorem Zi{S:Nat->Prop}{w v:World}(h:Qc S w v)(n:Nat):Qc S w (v.drewN n):=h.drewN n
theorem Zj{S:Nat->Prop}{w v:World}(h:Qc S w v):Qc S w v.drew:=h.drew
theorem Zk{S:Nat->Prop}{w v:World}{a:Addr}(h:Qc S w v)(x:Value)(b:S a.block \/ w.heap.size <= a.block):Qc S w (v.setCell a x):=h.setCell x b
theorem Z0{S:Nat->Prop}{w v:World}(h:Qc S w v:=by (repeat' (first|(with_reducible first|exact Zg _ _|assumption|refine Zh ?_ _|refine Zi ?_ _|refine Zj ?_|refine Zk ?_ _ ?_|(apply Or.inl;rfl))|(apply Or.inl;simp;done)|(apply Or.inr;simp;first|done|omega)))):Qc S w v:=h
theorem Fj(n:Int)(c:0<=n)(d:n<2 ^ 64):IntKind.u64.wrap n=n:=by
 have:IntKind.u64.wrap n=n%18446744073709551616:=by simp[IntKind.wrap,IntKind.bits,IntKind.signed]
 rw[this];omega
theorem Sg(x:Int)(c:0<=x)(d:x<18446744073709551616):bits .and .u64 x 4294967295=x%4294967296:=
 bits_mask .u64 64 (by decide) Fj 32 (by decide) x c d
theorem Qr8(x y:Int)(q:0<=x)(c:x<4294967296)(d:0<=y)(k:y<4294967296):bits .or .u64 (x*4294967296) y=x*4294967296+y:=
 bits_join .u64 64 (by decide) Fj 32 _ y (by omega) (by omega) (by omega) d k (by omega)
theorem Qnf{w wr W:World}{s:Nat}{d q u J:Array Value}{z B E K:TypeId}{X:Prop}(U:s=w.heap.size)(H:Qc Qb w wr/\Qh wr s d z/\Qh wr (s+1) q B/\Qh wr (s+1+1) u E/\Qh wr (s+1+1+1) J K)
  (c:Qc (λk=>k=s+1+1+1) wr W) (I:X):Qc Qb w W/\Qh W s d z/\Qh W (s+1) q B/\Qh W (s+1+1) u E/\X:=
 ⟨H.1.trans c (λk R=>.inr (by omega)),c.blk H.2.1 (by omega),c.blk H.2.2.1 (by omega),c.blk H.2.2.2.1 (by omega),I⟩
theorem Qjk(a b a0 a1 b0 b1 B Z aa ab q0 r0 n1 q1 r1 n2 q2 r2 n3 q3 r3:Int)(w)
    (S0 : Hi (bits .and .u64 a 4294967295 = a0 /\ a / 4294967296 = a1 /\ bits .and .u64 b 4294967295 = b0 /\ b / 4294967296 = b1))
    (S1 : Hi (a0 * b0 = B /\ 0 <= B /\ B <= 18446744065119617025 /\ bits .and .u64 B 4294967295 = q0 /\ B / 4294967296 = r0))
    (S2 : Hi (a0 * b1 = Z /\ 0 <= Z /\ Z <= 18446744065119617025 /\ 0 <= r0 /\ r0 <= 4294967295 /\ Z + r0 = n1 /\ bits .and .u64 n1 4294967295 = q1 /\ n1 / 4294967296 = r1))
    (S3 : Hi (a1 * b0 = aa /\ 0 <= aa /\ aa <= 18446744065119617025 /\ 0 <= q1 /\ q1 <= 4294967295 /\ aa + q1 = n2 /\ bits .and .u64 n2 4294967295 = q2 /\ n2 / 4294967296 = r2))
    (S4 : Hi (a1 * b1 = ab /\ 0 <= ab /\ ab <= 18446744065119617025 /\ 0 <= r1 /\ r1 <= 4294967295 /\ 0 <= r2 /\ r2 <= 4294967295 /\ ab + r1 + r2 = n3 /\ bits .and .u64 n3 4294967295 = q3 /\ n3 / 4294967296 = r3))
    (S5 : Hi (0 <= r3 /\ r3 <= 4294967295 /\ 0 <= q3 /\ q3 <= 4294967295 /\ 0 <= q2 /\ q2 <= 4294967295 /\ 0 <= q0 /\ q0 <= 4294967295)) :
    ZW 276 #[ZU a,ZU b] w (.agg #[ZU (r3*4294967296+q3),ZU (q2*4294967296+q0)]) λw'=>Qc Qb w w':=by
  apply WH func276
  have s0:=S0.o
  have E:=s0
  go_wp2
  clear E
  go_loopw [22] (λi wr=>Qc Qb w wr/\Qh wr w.heap.size #[ZU 0,ZU 0] 334/\Qh wr (w.heap.size+1) #[ZU a0,ZU a1] 360/\Qh wr (w.heap.size+1+1) #[ZU b0,ZU b1] 360/\
      ((i = ZI 0 /\ Qh wr (w.heap.size + 1 + 1 + 1) #[ZU 0, ZU 0, ZU 0, ZU 0] 361) \/ (i = ZI 1 /\ Qh wr (w.heap.size + 1 + 1 + 1) #[ZU q0, ZU q1, ZU r1, ZU 0] 361) \/
       (i = ZI 2 /\ Qh wr (w.heap.size + 1 + 1 + 1) #[ZU q0, ZU q2, ZU q3, ZU r3] 361))) (λi _ => 2 - (intOf i).toNat)
  case atStart=>
    refine⟨?_,?_,?_,?_,.inl ⟨rfl,Qh.new' _ _ (by simp)⟩⟩
    · (exact Z0)
    · exact (((Qh.new _ _ _).alloc _).alloc _).alloc _
    · exact ((Qh.new' _ _ (by simp)).alloc _).alloc _
    · exact (Qh.new' _ _ (by simp)).alloc _
  case round=>
    obtain⟨hc,V,J,K,⟨rfl,c⟩|⟨rfl,c⟩|⟨rfl,c⟩⟩:=hrel
    · have ac := J.cell 0
      have ae:=J.cell 1
      have af:=K.cell 0
      have ag:=K.cell 1
      have d:=c.cell 0
      have q:=c.cell 1
      have u:=c.cell 2
      have z:=c.cell 3
      have f3:=c.frozen
      have hs:=c.lt
      simp at ac ae af ag d q u z
      have HB:=O (Zt hc (Zt V (Zt J (Zt K c))))
      clear hc V J K c
      go_wp2
      refine wp_loop_rounds 3 ?_
      rw[rounds_succ]
      have s1:=S1.o
      have E:=s1
      go_wp2
      go_quiet (fail)
      go_wp2
      clear E
      rw[rounds_succ]
      have s2:=S2.o
      have E:=s2
      go_wp2
      go_quiet (fail)
      go_wp2
      clear E
      rw[rounds_succ]
      go_wp2
      go_roundw
      case rel=>
        refine Qnf rfl HB.o ?_ (.inr (.inl ⟨rfl,?_⟩))
        · (exact Z0)
        · exact ((((HB.o.2.2.2.2.drewN _).set 0 _).drewN _).set 1 _).set 2 _
      case measure=>simp[intOf]
    · have ac := J.cell 0
      have ae:=J.cell 1
      have af:=K.cell 0
      have ag:=K.cell 1
      have d:=c.cell 0
      have q:=c.cell 1
      have u:=c.cell 2
      have z:=c.cell 3
      have f3:=c.frozen
      have hs:=c.lt
      simp at ac ae af ag d q u z
      have HB:=O (Zt hc (Zt V (Zt J (Zt K c))))
      clear hc V J K c
      go_wp2
      refine wp_loop_rounds 3 ?_
      rw[rounds_succ]
      have s1:=S3.o
      have E:=s1
      go_wp2
      go_quiet (fail)
      go_wp2
      clear E
      rw[rounds_succ]
      have s2:=S4.o
      have E:=s2
      go_wp2
      go_quiet (fail)
      go_wp2
      clear E
      rw[rounds_succ]
      go_wp2
      go_roundw
      case rel=>
        refine Qnf rfl HB.o ?_ (.inr (.inr ⟨rfl,?_⟩))
        · (exact Z0)
        · exact ((((HB.o.2.2.2.2.drewN _).set 1 _).drewN _).set 2 _).set 3 _
      case measure=>simp[intOf]
    · have d := c.cell 0
      have q:=c.cell 1
      have u:=c.cell 2
      have z:=c.cell 3
      have ah:=V.cell 0
      have ai:=V.cell 1
      have f0:=V.frozen
      have hs:=c.lt
      simp at d q u z ah ai
      have HB:=O (Zt hc (Zt V (Zt J (Zt K c))))
      clear hc V J K c
      have s5:=S5.o
      obtain⟨E,R,I,U,x5,x6,x7,x8⟩:=s5
      have o1:=Qr8 r3 q3 E (by omega) I (by omega)
      have o2:=Qr8 q2 q0 x5 (by omega) x7 (by omega)
      go_wp2
      refine bodyPost_ret (v:=.agg #[ZU (r3*4294967296+q3),ZU (q2*4294967296+q0)]) (by simp[results,Tryz.results276,go_sem,ah,ai]) rfl ⟨rfl,?_⟩
      refine(HB.o.1).trans (S':=λk=>k=w.heap.size) ?_ (λk hk=>.inr (by omega))
      (exact Z0)
theorem Dw(a b:Nat)(w)(ha:a<18446744073709551616)(hb:b<18446744073709551616):
  ZW 276 #[ZU a,ZU b] w (.agg #[ZU ((a*b/18446744073709551616:Nat):Int),ZU ((a*b%18446744073709551616:Nat):Int)]) λw'=>Qc Qb w w':=by
 obtain⟨q,ab⟩:∃x:Int,x=(a:Int)%4294967296:=⟨_,rfl⟩;obtain⟨c,ac⟩:∃x:Int,x=(a:Int)/4294967296:=⟨_,rfl⟩;obtain⟨u,af⟩:∃x:Int,x=(b:Int)%4294967296:=⟨_,rfl⟩;obtain⟨d,ag⟩:∃x:Int,x=(b:Int)/4294967296:=⟨_,rfl⟩;have pr:∀x y:Int,0<=x->x<=4294967295->0<=y->y<=4294967295->0<=x*y/\x*y<=18446744065119617025:=λx y h1 h2 h3 h4=>
  ⟨Int.mul_nonneg h1 h3,Int.le_trans (Int.mul_le_mul h2 h4 h3 (by omega)) (by decide)⟩
 obtain⟨k,z⟩:∃x,q*u=x:=⟨_,rfl⟩;obtain⟨V,B⟩:∃x,q*d=x:=⟨_,rfl⟩;obtain⟨Z,E⟩:∃x,c*u=x:=⟨_,rfl⟩;obtain⟨aa,I⟩:∃x,c*d=x:=⟨_,rfl⟩;have J:=pr q u (by omega) (by omega) (by omega) (by omega);have K:=pr q d (by omega) (by omega) (by omega) (by omega);have R:=pr c u (by omega) (by omega) (by omega) (by omega);have U:=pr c d (by omega) (by omega) (by omega) (by omega);have ae:(a:Int)*(b:Int)=aa*18446744073709551616+(Z+V)*4294967296+k:=by
  have e1:(a:Int)=c*4294967296+q:=by omega
  have e2:(b:Int)=d*4294967296+u:=by omega
  rw[e1,e2,<-z,<-B,<-E,<-I];simp only[Int.add_mul,Int.mul_add];have r1:c*4294967296*(d*4294967296)=c*d*18446744073709551616:=by rw[Int.mul_assoc,Int.mul_left_comm 4294967296,<-Int.mul_assoc c d];rfl
  have r2:c*4294967296*u=c*u*4294967296:=by rw[Int.mul_assoc,Int.mul_comm 4294967296,<-Int.mul_assoc]
  have r3:q*(d*4294967296)=q*d*4294967296:=by rw[Int.mul_assoc]
  rw[r1,r2,r3];omega
 rw[z]at J;rw[B]at K;rw[E]at R;rw[I]at U;have A1:=Sg a (by omega) (by omega);have B1:=Sg b (by omega) (by omega);clear pr;obtain⟨q0,am⟩:∃x:Int,x=k%4294967296:=⟨_,rfl⟩;obtain⟨r0,aq⟩:∃x:Int,x=k/4294967296:=⟨_,rfl⟩;obtain⟨n1,aj⟩:∃x:Int,V+r0=x:=⟨_,rfl⟩;obtain⟨q1,an⟩:∃x:Int,x=n1%4294967296:=⟨_,rfl⟩;obtain⟨r1,ar⟩:∃x:Int,x=n1/4294967296:=⟨_,rfl⟩;obtain⟨n2,ak⟩:∃x:Int,Z+q1=x:=⟨_,rfl⟩;obtain⟨q2,ao⟩:∃x:Int,x=n2%4294967296:=⟨_,rfl⟩;obtain⟨r2,au⟩:∃x:Int,x=n2/4294967296:=⟨_,rfl⟩;obtain⟨n3,al⟩:∃x:Int,aa+r1+r2=x:=⟨_,rfl⟩;obtain⟨q3,ap⟩:∃x:Int,x=n3%4294967296:=⟨_,rfl⟩;obtain⟨r3,av⟩:∃x:Int,x=n3/4294967296:=⟨_,rfl⟩;have X0:=Sg k (by omega) (by omega);have X1:=Sg n1 (by omega) (by omega);have X2:=Sg n2 (by omega) (by omega);have X3:=Sg n3 (by omega) (by omega);have key:(a:Int)*(b:Int)=(r3*4294967296+q3)*18446744073709551616+(q2*4294967296+q0):=by rw[ae];omega
 have ah:((a*b/18446744073709551616:Nat):Int)=r3*4294967296+q3:=by
  have:((a*b:Nat):Int)=(a:Int)*(b:Int):=by simp
  omega
 have ai:((a*b%18446744073709551616:Nat):Int)=q2*4294967296+q0:=by
  have:((a*b:Nat):Int)=(a:Int)*(b:Int):=by simp
  omega
 rw[ah,ai];exact Qjk a b q c u d k V Z aa q0 r0 n1 q1 r1 n2 q2 r2 n3 q3 r3 w
  (O ⟨A1.trans ab.symm,ac.symm,B1.trans af.symm,ag.symm⟩)
  (O ⟨z,J.1,J.2,X0.trans am.symm,aq.symm⟩)
  (O ⟨B,K.1,K.2,by omega,by omega,aj,X1.trans an.symm,ar.symm⟩)
  (O ⟨E,R.1,R.2,by omega,by omega,ak,X2.trans ao.symm,au.symm⟩)
  (O ⟨I,U.1,U.2,by omega,by omega,by omega,by omega,al,X3.trans ap.symm,av.symm⟩)
  (O ⟨by omega,by omega,by omega,by omega,by omega,by omega,by omega,by omega⟩)
def Qek(n:Nat):Value:=.agg #[ZU ((n/18446744073709551616:Nat):Int),ZU ((n%18446744073709551616:Nat):Int)]
theorem Qm3(a b:Nat)(w):
  ZW 277 #[ZU a,ZU b] w (ZI (if a<b then-1 else if b<a then 1 else 0)) λw'=>w=w':=by
 by_cases c:a<b;·rw[if_pos c];apply WH func277;exact WE
 .rw[if_neg c];by_cases d:b<a;·rw[if_pos d];apply WH func277;exact WE
  .rw[if_neg d];apply WH func277;exact WE
theorem Qmx(k u q z:Nat)(r:Int)(w)(d:(if k<q then(-1:Int)else if q<k then 1 else if u<z then-1 else if z<u then 1 else 0)=r):
  ZW 263 #[.agg #[ZU k,ZU u],.agg #[ZU q,ZU z]] w (ZI r) λw'=>Qc Qb w w':=by
 have c:=O (λw=>Qm3 k q w);have B:=O (λw=>Qm3 u z w);by_cases E:k<q;·rw[if_pos E]at d c;subst d;apply WH func263;go_wp2_with fail;apply Zz (c.o _);rintro w1 rfl;go_wp2;go_ret;refine⟨rfl,?_⟩;(exact Z0)
 .rw[if_neg E]at d c;by_cases I:q<k;·rw[if_pos I]at d c;subst d;apply WH func263;go_wp2_with fail;apply Zz (c.o _);rintro w1 rfl;go_wp2;go_ret;refine⟨rfl,?_⟩;(exact Z0)
  .rw[if_neg I]at d c;rw[d]at B;apply WH func263;go_wp2_with fail;apply Zz (c.o _);rintro w1 rfl;go_wp2_with fail;apply Zz (B.o _);rintro w1 rfl;go_wp2;go_ret;refine⟨rfl,?_⟩;(exact Z0)
def Io(m n:Nat):Int:=if m<n then-1 else if n<m then 1 else 0
theorem Qj3(m n:Nat):(if m/18446744073709551616<n/18446744073709551616 then(-1:Int)else if n/18446744073709551616<m/18446744073709551616 then 1 else if m%18446744073709551616<n%18446744073709551616 then-1 else if n%18446744073709551616<m%18446744073709551616 then 1 else 0)=Io m n:=by
 unfold Io;repeat' split
 all_goals omega
theorem Qb5(m n:Nat)(w):
  ZW 263 #[.agg #[ZU ((m/18446744073709551616:Nat):Int),ZU ((m%18446744073709551616:Nat):Int)],.agg #[ZU ((n/18446744073709551616:Nat):Int),ZU ((n%18446744073709551616:Nat):Int)]] w (ZI (Io m n)) λw'=>Qc Qb w w':=
 Qmx _ _ _ _ _ w (Qj3 m n)
def Ca:Nat:=4611686018427387904
theorem Na:Ca=4611686018427387904:=rfl
def Qa6(a b:Nat):Nat:=min (a+b) Ca
def upN(a c:Nat):Nat:=min ((a+c-1)/c) Ca
theorem Tg(n:Nat)(w):ZW 341 #[ZU n,.bool true] w (ZU 4611686018427387904) λw'=>Qc Qb w w':=by apply WH func341;go_wp2;go_ret;exact⟨rfl,Zg _ _⟩
theorem Pd(n:Nat)(w):ZW 341 #[ZU n,.bool false] w (ZU (min n Ca:Nat)) λw'=>Qc Qb w w':=by
 by_cases h:4611686018427387904<n
 .have e:min n Ca=4611686018427387904:=by rw[Na];omega
  have h':(4611686018427387904:Int)<(n:Int):=by omega
  rw[e];clear e h;apply WH func341;go_wp2;go_ret;exact⟨rfl,Zg _ _⟩
 .have e:min n Ca=n:=by rw[Na];omega
  have h':¬(4611686018427387904:Int)<(n:Int):=by omega
  rw[e];clear e h;apply WH func341;go_wp2;go_ret;exact⟨rfl,Zg _ _⟩
theorem Mm(a b:Nat)(ha:a<18446744073709551616)(u:b<18446744073709551616)(w):ZW 337 #[ZU a,ZU b] w (ZU (Qa6 a b:Int)) λw'=>Qc Qb w w':=by
 by_cases h:a+b<18446744073709551616
 .have q:IntKind.u64.wrap ((a:Int)+(b:Int))=((a+b:Nat):Int):=by rw[IntWalk.u64_in _ (by omega)];omega
  have Xg:decide (a+b<a)=false:=by simp
  have c:=O (Pd (a+b) w);have d:Hi (Qa6 a b=min (a+b) Ca):=O rfl;rw[d.o];generalize a+b=n at q Xg c|-;generalize min n Ca=r at c|-;clear d h ha u;apply WH func337;go_wp2_with fail;apply Zy c;intro w1 k;go_wp2;go_ret;exact⟨rfl,k⟩
 .have q:IntKind.u64.wrap ((a:Int)+(b:Int))=((a+b-18446744073709551616:Nat):Int):=by rw[IntKind.wrap_u64];omega
  have Xg:decide (a+b-18446744073709551616<a)=true:=by simp;omega
  have c:=O (Tg (a+b-18446744073709551616) w);have d:Qa6 a b=4611686018427387904:=by unfold Qa6;rw[Na];omega
  rw[d];generalize a+b-18446744073709551616=n at q Xg c;clear d h ha u;apply WH func337;go_wp2_with fail;apply Zy c;intro w1 k;go_wp2;go_ret;exact⟨rfl,k⟩
theorem Qpw(n:Nat)(w):ZW 342 #[ZU n] w (ZU (min n 1:Nat)) λw'=>Qc Qb w w':=by
 match n with
 |0=> apply WH func342;go_wp2;go_ret;exact⟨rfl,Zg _ _⟩
 |1=> apply WH func342;go_wp2;go_ret;exact⟨rfl,Zg _ _⟩
 |m+2=>
  have e:min (m+2) 1=1:=by omega
  rw[e];generalize c:m+2=k;have d:¬(k:Int)<1:=by omega
  have q:(1:Int)<(k:Int):=by omega
  have u:¬(k:Int)<=1:=by omega
  clear e c;apply WH func342;go_wp2;go_ret;exact⟨rfl,Zg _ _⟩
theorem Qjy(l c:Nat)(V:l<18446744073709551616)(U:c<18446744073709551616)(R:0<c)(w):ZW 345 #[ZU 0,ZU l,ZU c] w (.tuple #[ZU ((l/c:Nat):Int),ZU ((l%c:Nat):Int)]) λw'=>Qc Qb w w':=by
 have I:((c:Int)==0)=false:=by simp;omega
 have J:decide ((c:Int)<=0)=false:=by simp;omega
 have K:¬(c:Int)=0:=by omega
 have k:Int.tdiv (l:Int) (c:Int)=((l/c:Nat):Int):=by rw[Int.tdiv_eq_ediv_of_nonneg (by omega)];rfl
 have u:Int.tmod (l:Int) (c:Int)=((l%c:Nat):Int):=by rw[Int.tmod_eq_emod_of_nonneg (by omega)];rfl
 have z:(l:Int)/(c:Int)=((l/c:Nat):Int):=rfl;have B:(l:Int)%(c:Int)=((l%c:Nat):Int):=rfl;have d:l/c<=l:=Nat.div_le_self _ _;generalize l/c=q at k z d|-;have E:IntKind.u64.wrap (q:Int)=(q:Int):=IntWalk.u64_in _ (by omega);generalize l%c=r at u B|-;clear d;apply WH func345;go_wp2;go_quiet (fail);go_wp2;go_ret2;refine ⟨rfl,?_⟩;(exact Z0)
theorem Qs2(l c:Nat)(I:l<18446744073709551616)(E:c<18446744073709551616)(B:0<c)(w):ZW 344 #[.agg #[ZU 0,ZU l],ZU c] w (.tuple #[ZU ((l/c:Nat):Int),ZU ((l%c:Nat):Int),ZI 0]) λw'=>Qc Qb w w':=by
 have d:=O (Qjy l c I E B);have u:=O ((Zg Qb w).alloc (.cells #[ZU 0,ZU l] 334));have J:((c:Int)==0)=false:=by simp;omega
 have K:decide ((c:Int)<=0)=false:=by simp;omega
 generalize l/c=q at d|-;generalize l%c=r at d|-;go_enter func344,ntmps344;go_wp2_with fail;refine Zz (d.o _) ?_;intro w1 k;have z:=O (u.o.aA k);clear k;go_wp2;refine bodyPost_ret (v:=.tuple #[ZU q,ZU r,ZI 0]) (by simp[results,Tryz.results344,go_sem]) rfl ⟨rfl,z.o⟩
theorem Qqp(n:Nat)(h l:Int)(w):ZW 344 #[.agg #[ZU h,ZU l],ZU 0] w (.tuple #[ZU 0,ZU 0,ZI 2]) λw'=>Qc Qb w w':=by go_enter func344,ntmps344;go_wp2;refine bodyPost_ret (v:=.tuple #[ZU 0,ZU 0,ZI 2]) (by simp[results,Tryz.results344,go_sem]) rfl ⟨rfl,?_⟩;(exact Z0)
theorem Qsy(a c:Nat)(h:0<c):min (a/c+min (a%c) 1) Ca=upN a c:=by
 unfold upN;congr 1;have k:=Nat.div_add_mod a c;have q:=Nat.mod_lt a h;by_cases d:a%c=0
 .rw[d];have e:a+c-1=c-1+c*(a/c):=by omega
  rw[e,Nat.add_mul_div_left _ _ h,Nat.div_eq_of_lt (show c-1<c by omega)];simp
 .have e:a+c-1=(a%c-1)+c*(a/c+1):=by rw[Nat.mul_add];omega
  rw[e,Nat.add_mul_div_left _ _ h,Nat.div_eq_of_lt (show a%c-1<c by omega)];have:min (a%c) 1=1:=by omega
  omega
theorem Qir(a c:Nat)(ha:a<18446744073709551616)(V:c<18446744073709551616)(I:0<c)(w):ZW 339 #[ZU a,ZU 1,ZU c] w (.tuple #[ZU (upN a c:Int),ZI 0]) λw'=>Qc Qb w w':=by
 have J:=O (λw=>Dw a 1 w ha (by omega));rw[Nat.mul_one,Nat.div_eq_of_lt ha,Nat.mod_eq_of_lt ha]at J;have z:=O (Qs2 a c ha V I);have B:=O (Qpw (a%c));have d:=O (Mm (a/c) (min (a%c) 1) (by have:=Nat.div_le_self a c;omega) (by omega));rw[show Qa6 (a/c) (min (a%c) 1)=upN a c from Qsy a c I]at d;generalize min (a%c) 1=m at B d;generalize a/c=q at z d;generalize a%c=r at z B;generalize upN a c=u at d|-;clear ha V I;have HO:Hi (∀w,ZW 343 #[.agg #[.func (.func 342) #[] #[]],ZU a,ZU 1,ZU c] w (.tuple #[ZU u,ZI 0]) λw'=>Qc Qb w w'):=O (by
  intro w;have Z:=O (Qh.new w #[.func (.func 342) #[] #[]] 396);have C0:=O ((Zg Qb w).alloc (.cells #[.func (.func 342) #[] #[]] 396));apply WH func343;go_wp2_with fail;apply Zz (J.o _);intro w1 k;have C1:=O (C0.o.aA k);have B1:=O (k.blk Z.o (λh=>h));clear k;go_wp2_with fail;apply Zz (z.o _);intro w2 E;have C2:=O (C1.o.aA E);have K:=(E.blk B1.o (λh=>h)).cell 0;simp at K;clear E;go_wp2_with fail;apply Z9 (B.o _) (λ_ R=>C2.o.aA R);intro w3 C3;clear K;go_wp2_with fail;apply Z9 (d.o _) (λ_ U=>C3.o.aA U);intro w4 C4;go_wp2;exact bodyPost_ret (v:=.tuple #[ZU u,ZI 0]) (by simp[results,Tryz.results343,go_sem]) rfl ⟨rfl,C4.o⟩)
 apply WH func339;go_wp2_with fail;apply Zz (HO.o _);intro w1 k;go_wp2;exact bodyPost_ret (v:=.tuple #[ZU u,ZI 0]) (by simp[results,Tryz.results339,go_sem]) rfl ⟨rfl,k⟩
theorem Qcs(x y c s d:Int)(B:0<=x)(E:0<=y)(k:0<=c)(q:c<=1)(z:(x+y+c)%18446744073709551616=s)(u:(x+y+c)/18446744073709551616=d)(w):
  (callFunc 292 #[ZU x,ZU y,ZU c]).run prog w=.ok (.value (.tuple #[ZU s,ZU d])) w:=by
 rw[run_callFunc_extern func292 (by kernel_rfl) (by kernel_rfl) (by kernel_rfl) (e:=add64Entry) (by kernel_rfl),run_add64 x y c B E k q,z,u];rfl
theorem Qjl(c q k u s d h:Int)(w)(z:0<=c)(B:0<=q)(E:0<=k)(I:0<=u)(J:0<=d)(K:d<=1)
  (Z:(q+u+0)%18446744073709551616=s)(U:(q+u+0)/18446744073709551616=d)(V:(c+k+d)%18446744073709551616=h)(R:(c+k+d)/18446744073709551616=0):
  ZW 287 #[.agg #[ZU c,ZU q],.agg #[ZU k,ZU u]] w (.tuple #[.agg #[ZU h,ZU s],ZI 0]) λw'=>Qc Qb w w':=by
 have A1:=O (λw=>Qcs q u 0 s d B I (by omega) (by omega) Z U w);have A2:=O (λw=>Qcs c k d h 0 z E J K V R w);clear z B E I J K Z U V R;go_enter func287,ntmps287;go_wp2_with (first|simp only[A1.o]|simp only[A2.o]);refine bodyPost_ret (v:=.tuple #[.agg #[ZU h,ZU s],ZI 0]) (by simp[results,Tryz.results287,go_sem]) rfl ⟨rfl,?_⟩;(exact Z0)
theorem Fg(m n:Nat)(w)(h:m+n<340282366920938463463374607431768211456):
  Cl 287 #[.agg #[ZU ((m/18446744073709551616:Nat):Int),ZU ((m%18446744073709551616:Nat):Int)],.agg #[ZU ((n/18446744073709551616:Nat):Int),ZU ((n%18446744073709551616:Nat):Int)]] w
   λe w'=>e=.returned (.tuple #[.agg #[ZU (((m+n)/18446744073709551616:Nat):Int),ZU (((m+n)%18446744073709551616:Nat):Int)],ZI 0])/\Qc Qb w w':=
 Qjl _ _ _ _ _ ((((m%18446744073709551616)+(n%18446744073709551616))/18446744073709551616:Nat):Int) _ w (by omega) (by omega) (by omega) (by omega) (by omega) (by omega) (by omega) (by omega) (by omega) (by omega)
section
theorem Qez:prog.eqGuardType prog.depth 334=false:=by kernel_rfl
theorem Qmm:prog.stoodInHeld 334=false:=by kernel_rfl
theorem wrap64(n:Int)(c:0<=n)(d:n<18446744073709551616):IntKind.u64.wrap n=n:=by
 have:IntKind.u64.wrap n=n%18446744073709551616:=by simp[IntKind.wrap,IntKind.bits,IntKind.signed]
 rw[this];omega
attribute [local go_sem] Qez Qmm
end
structure Jy where
 f:Nat
 l:Nat
 r:Nat
def Jy.cells(c:Jy):List Value:=[ZU c.f,ZU c.l,ZU c.r]
theorem Jy.aF(c:Jy):c.cells.length=3:=rfl
def Jy.zero:Jy:=⟨0,0,0⟩
structure Yk where
 id:Int
 par:Int
 leaf:Bool
 real:Jy
 share:Jy
 aN:Jy
 pk:Int
 bt:Int
abbrev Z4(b:Bool)(s:Yk):Array Value:=#[.int .i64 s.id,.int .i64 s.par,.bool b,.int .u64 s.real.f,.int .u64 s.real.l,.int .u64 s.real.r,.int .u64 s.share.f,.int .u64 s.share.l,.int .u64 s.share.r,.int .u64 s.aN.f,.int .u64 s.aN.l,.int .u64 s.aN.r,.int .i64 s.pk,.int .i64 s.bt]
abbrev Z5:Array Value:=#[.int .i64 0,.int .i64 0,.bool false,.int .u64 0,.int .u64 0,.int .u64 0,.int .u64 0,.int .u64 0,.int .u64 0,.int .u64 0,.int .u64 0,.int .u64 0,.int .i64 0,.int .i64 0]
abbrev Z6:Array Value:=#[.int .i64 0,.int .i64 0,.bool false,.int .u64 0,.int .u64 0,.int .u64 0,.int .u64 0,.int .u64 0,.int .u64 0,.int .u64 0,.int .u64 0,.int .u64 0,.int .i64 0,.int .i64 0,.int .i64 0]
section
structure Jy.May(c:Jy):Prop where
 hf:c.f<=1048576
 hr:c.r<=1048576
 hl:c.l<=1099511627776
 h0:c.l=0->c.f=0
 h1:c.l≠0->c.f≠c.r
instance(c:Jy):Decidable c.May:=
 if h:c.f<=1048576/\c.r<=1048576/\c.l<=1099511627776/\(c.l=0->c.f=0)/\(c.l≠0->c.f≠c.r)then .isTrue ⟨h.1,h.2.1,h.2.2.1,h.2.2.2.1,h.2.2.2.2⟩else .isFalse λ⟨a,b,c,d,e⟩=>h ⟨a,b,c,d,e⟩
theorem Qcg:prog.eqGuardType prog.depth 27=false:=by kernel_rfl
theorem Qi9:prog.stoodInHeld 27=false:=by kernel_rfl
attribute [local go_sem] Qcg Qi9
theorem Ea{c:Jy}(h:¬c.May):decide c.May=false:=by simpa using h
theorem Px{c:Jy}(h:c.May):decide c.May=true:=by simpa using h
theorem K8(c:Jy)(w):
  ZW 227 #[.agg #[ZU c.f,ZU c.l,ZU c.r]] w (.bool (decide c.May)) λw'=>Qc Qb w w':=by
 obtain⟨f,l,r⟩:=c;dsimp only;by_cases k:f<=1048576
 .have E:decide ((1048576:Int)<(f:Int))=false:=by simp;omega
  by_cases q:r<=1048576
  .have I:decide ((1048576:Int)<(r:Int))=false:=by simp;omega
   by_cases u:l<=1099511627776
   .have J:decide ((1099511627776:Int)<(l:Int))=false:=by simp;omega
    by_cases z:l=0
    .subst z;by_cases d:f=0;·subst d;rw[Px (c:=⟨0,0,r⟩) ⟨k,q,u,λ_=>rfl,λh=>(h rfl).elim⟩];apply WH func227;go_wp2;go_ret;refine⟨rfl,?_⟩;(exact Z0)
     .have B:((f:Int)==0)=false:=by simp;omega
      rw[Ea (c:=⟨f,0,r⟩) (λh=>d (h.h0 rfl))];apply WH func227;go_wp2;go_ret;refine⟨rfl,?_⟩;(exact Z0)
    .have K:((l:Int)==0)=false:=by simp;omega
     by_cases d:f=r
     .subst d;have B:((f:Int) !=(f:Int))=false:=by simp
      rw[Ea (c:=⟨f,l,f⟩) (λh=>h.h1 z rfl)];apply WH func227;go_wp2;go_ret;refine⟨rfl,?_⟩;(exact Z0)
     .have B:((f:Int) !=(r:Int))=true:=by simp;omega
      rw[Px (c:=⟨f,l,r⟩) ⟨k,q,u,λh=>(z h).elim,λ_=>d⟩];apply WH func227;go_wp2;go_ret;refine⟨rfl,?_⟩;(exact Z0)
   .have J:decide ((1099511627776:Int)<(l:Int))=true:=by simp;omega
    rw[Ea (c:=⟨f,l,r⟩) (λh=>u h.hl)];apply WH func227;go_wp2;go_ret;refine⟨rfl,?_⟩;(exact Z0)
  .have I:decide ((1048576:Int)<(r:Int))=true:=by simp;omega
   rw[Ea (c:=⟨f,l,r⟩) (λh=>q h.hr)];apply WH func227;go_wp2;go_ret;refine⟨rfl,?_⟩;(exact Z0)
 .have E:decide ((1048576:Int)<(f:Int))=true:=by simp;omega
  rw[Ea (c:=⟨f,l,r⟩) (λh=>k h.hf)];apply WH func227;go_wp2;go_ret;refine⟨rfl,?_⟩;(exact Z0)
def Jy.none(c:Jy):Bool:=c.f==0&&(c.l==0&&c.r==0)
theorem Kz(c:Jy)(w):
  ZW 170 #[.agg #[ZU c.f,ZU c.l,ZU c.r]] w (.bool c.none) λw'=>Qc Qb w w':=by
 obtain⟨f,l,r⟩:=c;have u:Jy.none ⟨f,l,r⟩=((f:Int)==0&&((l:Int)==0&&(r:Int)==0)):=by
  unfold Jy.none;have g:∀n:Nat,((n:Int)==0)=(n==0):=λn=>by
   cases n with
   |zero=>rfl
   |succ n=>simp;omega
  rw[g,g,g]
 rw[u];dsimp only;by_cases z:f=0
 .subst z;by_cases B:l=0
  .subst B;by_cases E:r=0;·subst E;apply WH func170;go_wp2;go_ret;refine⟨rfl,?_⟩;(exact Z0)
   .have q:((r:Int)==0)=false:=by simp;omega
    rw[q];apply WH func170;go_wp2;go_ret;refine⟨rfl,?_⟩;(exact Z0)
  .have k:((l:Int)==0)=false:=by simp;omega
   rw[k];apply WH func170;go_wp2;go_ret;refine⟨rfl,?_⟩;(exact Z0)
 .have d:((f:Int)==0)=false:=by simp;omega
  rw[d];apply WH func170;go_wp2;go_ret;refine⟨rfl,?_⟩;(exact Z0)
end
def Jy.at(c:Jy)(t:Nat):Nat:=c.f*min t c.l+c.r*(t-min t c.l)
theorem Jy.at_le(c:Jy)(h:c.May)(t:Nat)(u:t<18446744073709551616):c.f*min t c.l<=1152921504606846976/\c.r*(t-min t c.l)<19342813113834066795298816:=by have d:=h.hf;have k:=h.hr;have q:=h.hl;refine⟨Zp (Nat.mul_le_mul d (Zp (Nat.min_le_right _ _) q)) (by decide),?_⟩;exact Nat.lt_of_le_of_lt (Nat.mul_le_mul k (show t-min t c.l<=18446744073709551615 by omega)) (by decide)
theorem Qc.same{w w'}(c:Qc Qb w w'){ad:Addr}{u:Value}(h:w.cell? ad=some u):w'.cell? ad=some u:=(c.cell (Qeu h) (λh=>h)).trans h
def Jy.leAt(a b:Jy)(t:Nat):Bool:=decide (a.at t<=b.at t)
theorem Quy(m n:Nat):decide ((0:Int)<Io m n)=!decide (m<=n):=by
 unfold Io;split;·simp;omega
 .split;·simp;omega
  .simp;omega
abbrev Xw:Nat:=4611686018427387904
abbrev Qq:Nat:=9223372036854775808
def Tw(a b:Nat):Nat:=(a+(b-1))/b
theorem D9{a b n:Nat}(c:0<b):Tw a b<=n↔a<=b*n:=by unfold Tw;rw[Nat.div_le_iff_le_mul_add_pred c];omega
def Jy.reach(c:Jy)(y:Nat):Option Nat:=
 if y=0 then some 0 else if y<=c.f*c.l then some (Tw y c.f)else if c.r=0 then Option.none else some (c.l+Tw (y-c.f*c.l) c.r)
theorem Jy.reach_le(c:Jy)(y t:Nat):(∃n,c.reach y=some n/\n<=t)↔y<=c.at t:=by
 have k:c.at t=c.f*min t c.l+c.r*(t-min t c.l):=rfl;unfold Jy.reach;by_cases E:y=0;·simp[E]
 .rw[if_neg E];by_cases q:y<=c.f*c.l
  .rw[if_pos q];have I:0<c.f:=Nat.pos_of_ne_zero λh=>by rw[h]at q;simp at q;exact E q
   simp only[Option.some.injEq,exists_eq_left'];rw[D9 I];rw[k];by_cases B:t<=c.l;·rw[Nat.min_eq_left B,Nat.sub_self,Nat.mul_zero,Nat.add_zero]
   .have d:c.l<=t:=by omega
    rw[Nat.min_eq_right d];have:=Nat.mul_le_mul_left c.f d;constructor;·intro _;omega
    .intro _;omega
  .rw[if_neg q];by_cases z:c.r=0;·rw[if_pos z];simp only[reduceCtorEq,false_and,exists_false,false_iff];rw[k,z,Nat.zero_mul,Nat.add_zero];have:=Nat.mul_le_mul_left c.f (Nat.min_le_right t c.l);omega
   .rw[if_neg z];have u:0<c.r:=Nat.pos_of_ne_zero z;simp only[Option.some.injEq,exists_eq_left'];rw[k];by_cases B:t<=c.l
    .rw[Nat.min_eq_left B,Nat.sub_self,Nat.mul_zero,Nat.add_zero];have J:=Nat.mul_le_mul_left c.f B;have K:0<Tw (y-c.f*c.l) c.r:=by
      rcases Nat.eq_zero_or_pos (Tw (y-c.f*c.l) c.r)with h|h;·have:=(D9 u (a:=y-c.f*c.l) (n:=0)).1 (by omega);omega
      .exact h
     omega
    .have d:c.l<=t:=by omega
     rw[Nat.min_eq_right d];have:=D9 u (a:=y-c.f*c.l) (n:=t-c.l);omega
abbrev Uw:=List (Nat×Nat)
def Ji(l:Uw):Nat:=match l.getLast? with
 |none=>0
 |some k=>k.1
def Dg(l:Uw)(x y:Nat):Uw:=l++[(max (min x Qq) (Ji l),min y Xw)]
theorem Of(l:Uw)(x y:Nat):Ji (Dg l x y)=max (min x Qq) (Ji l):=by simp[Ji,Dg]
structure Uj(l:Uw):Prop where
 rise:∀k∈l,k.1<=Ji l
 last:Ji l<=Qq
 cap:∀k∈l,k.2<=Xw
theorem Uj.nil:Uj []:=⟨nofun,Nat.zero_le _,nofun⟩
theorem Uj.start{l:Uw}(h:Uj l)(x y:Nat):Uj (Dg l x y):=by
 refine⟨λk c=>?_,?_,λk c=>?_⟩
 .rw[Of];rcases Zl.1 c with c|c;·exact Zp (h.rise k c) (Nat.le_max_right _ _)
  .obtain rfl:k=_:=by simpa using c
   exact Zv _
 .rw[Of];have:=h.last;omega
 .rcases Zl.1 c with c|c;·exact h.cap k c
  .obtain rfl:k=_:=by simpa using c
   exact Nat.min_le_right _ _
def Xb(f:Nat×Nat->Nat):Uw->Nat
 |[]=>0
 |[k]=>f k
 |k::l=>min (f k) (Xb f l)
theorem U4{f:Nat×Nat->Nat}{y:Nat}:∀{l:Uw},l≠[]->(y<=Xb f l↔∀k∈l,y<=f k)
 |[k],_=>by simp[Xb]
 |k::j::l,_=>by
  have c:=U4 (f:=f) (y:=y) (l:=j::l) nofun;rw[Xb,Nat.le_min,c];·simp
  .exact nofun
def Hg(c:Jy)(t:Nat)(k:Nat×Nat):Nat:=k.2+c.at (t-k.1)
def rAt(c:Jy)(l:Uw)(t:Nat):Nat:=if l=[]then 0 else min Xw (Xb (Hg c (max t (Ji l))) l)
def Rr(c:Jy)(y:Nat)(k:Nat×Nat):Nat:=match c.reach (y-k.2)with
 |none=>Qq
 |some n=>k.1+n
def Kn(c:Jy)(l:Uw)(y:Nat):Nat:=
 if l=[]then(if y=0 then 0 else Qq)else if Xw<y then Qq else min Qq (l.foldl (λn k=>max n (Rr c y k)) (Ji l))
theorem Uf{f:Nat×Nat->Nat}{t:Nat}:∀(l:Uw)(n:Nat),l.foldl (λn k=>max n (f k)) n<=t↔n<=t/\∀k∈l,f k<=t
 |[],n=>by simp
 |k::l,n=>by rw[List.foldl_cons,Uf l];simp only[Zu,forall_eq_or_imp,Nat.max_le,and_assoc]
theorem Nt{c:Jy}{y t:Nat}{k:Nat×Nat}(q:t<Qq)(d:k.1<=t):Rr c y k<=t↔y<=Hg c t k:=by
 unfold Rr Hg;have:=c.reach_le (y-k.2) (t-k.1);cases h:c.reach (y-k.2)with
 |none=>
  rw[h]at this;simp only[reduceCtorEq,false_and,exists_false,false_iff]at this;constructor;·intro h';dsimp only at h';omega
  .intro h';omega
 |some n=> rw[h]at this;simp only[Option.some.injEq,exists_eq_left']at this;dsimp only;omega
theorem Qd9{c:Jy}{l:Uw}{y t:Nat}(h:Uj l)(u:l≠[])(z:t<Qq)(q:Ji l<=t):Kn c l y<=t↔y<=rAt c l t:=by
 unfold Kn rAt;rw[if_neg u,if_neg u,Nat.max_eq_left q,Nat.le_min,U4 u];by_cases B:Xw<y
 .rw[if_pos B];constructor;·intro h';omega
  .intro h';omega
 .rw[if_neg B];have:min Qq (l.foldl (λn k=>max n (Rr c y k)) (Ji l))<=t↔l.foldl (λn k=>max n (Rr c y k)) (Ji l)<=t:=by omega
  rw[this,Uf];constructor;·intro⟨_,h'⟩;exact⟨by omega,λk d=>(Nt z (Zp (h.rise k d) q)).1 (h' k d)⟩
  .intro⟨_,h'⟩;exact⟨q,λk d=>(Nt z (Zp (h.rise k d) q)).2 (h' k d)⟩
theorem Pb(c:Jy)(l:Uw)(y:Nat):Kn c l y<=Qq:=by
 unfold Kn;split;·split<;>simp[Qq]
 .split;·exact Zv _
  .exact Nat.min_le_left _ _
theorem Qip{c:Jy}{l:Uw}{y:Nat}(h:Uj l):Ji l<=Kn c l y:=by
 unfold Kn;have d:=h.last;split;·rename_i k;subst k;exact Nat.zero_le _
 .split;·exact d
  .rw[Nat.le_min];exact⟨d,((Uf l (Ji l)).1 (Zv _)).1⟩
theorem Vb(f:Nat×Nat->Nat)(k j:Nat×Nat)(l:Uw):Xb f (k::j::l)=min (f k) (Xb f (j::l)):=rfl
theorem F4{f:Nat×Nat->Nat}(d:Nat):∀{l:Uw},l≠[]->Xb (λk=>f k+d) l=Xb f l+d
 |[k],_=>rfl
 |k::j::l,_=>by have c:=F4 (f:=f) d (l:=j::l) nofun;rw[Vb,c,Vb];omega
theorem Nn{f:Nat×Nat->Nat}(k:Nat×Nat):∀{l:Uw},l≠[]->Xb f (l++[k])=min (Xb f l) (f k)
 |[j],_=>rfl
 |j::i::l,_=>by have c:=Nn (f:=f) k (l:=i::l) nofun;rw[List.cons_append]at c;rw[List.cons_append,List.cons_append,Vb,c,Vb];omega
theorem Lt{f g:Nat×Nat->Nat}:∀{l:Uw},(∀k∈l,f k=g k)->Xb f l=Xb g l
 |[],_=>rfl
 |[k],h=>h k (by simp)
 |k::j::l,h=>by rw[Vb,Vb,h k (by simp),Lt (l:=j::l) (λi c=>h i (by simp[c]))]
theorem F6{f g:Nat×Nat->Nat}:∀{l:Uw},l≠[]->Xb (λk=>min (f k) (g k)) l=min (Xb f l) (Xb g l)
 |[k],_=>rfl
 |k::j::l,_=>by have c:=F6 (f:=f) (g:=g) (l:=j::l) nofun;rw[Vb,c,Vb,Vb];omega
def Vk(s o:Nat)(l:Uw):Nat:=min Xw (Xb (λk=>k.2+o+s*(Ji l-k.1)) l)
def Hb(h s n:Nat):Nat:=min Xw (h+min Xw (s*n))
theorem Qlw(l:Uw)(k:Nat×Nat):Ji (l++[k])=k.1:=by simp[Ji]
theorem Qai{s o t:Nat}{l:Uw}(h:Uj l)(d:l≠[])(q:Ji l<=t):Xb (λk=>k.2+o+s*(t-k.1)) l=Xb (λk=>k.2+o+s*(Ji l-k.1)) l+s*(t-Ji l):=by
 rw[<-F4 _ d];refine Lt λk c=>?_;have:=h.rise k c;have e:t-k.1=(Ji l-k.1)+(t-Ji l):=by omega
 rw[e,Nat.mul_add];omega
theorem F9{s o x y:Nat}{l:Uw}(h:Uj l)(c:l≠[])(d:Ji l<=x):
  Vk s o (l++[(x,y)])=min (Hb (Vk s o l) s (x-Ji l)) (min Xw (y+o)):=by
 unfold Vk Hb;rw[Qlw,Nn _ c,Qai h c d];simp only[Nat.sub_self,Nat.mul_zero,Nat.add_zero];omega
theorem Qdm(s o x y:Nat):Vk s o [(x,y)]=min Xw (y+o):=by simp[Vk,Xb,Ji]
theorem Qdk{s o t:Nat}{l:Uw}(h:Uj l)(c:l≠[])(d:Ji l<=t):Hb (Vk s o l) s (t-Ji l)=min Xw (Xb (λk=>k.2+o+s*(t-k.1)) l):=by unfold Vk Hb;rw[Qai h c d];omega
theorem Jy.at_bent{c:Jy}(h:c.r<c.f)(t:Nat):c.at t=min (c.f*t) ((c.f-c.r)*c.l+c.r*t):=by
 have q:c.at t=c.f*min t c.l+c.r*(t-min t c.l):=rfl;obtain⟨d,z⟩:∃d,c.f=c.r+d:=⟨c.f-c.r,by omega⟩;rw[q,z,Nat.add_sub_cancel_left];by_cases u:t<=c.l;·rw[Nat.min_eq_left u,Nat.sub_self,Nat.mul_zero,Nat.add_zero];have:=Nat.mul_le_mul_left d u;rw[Nat.add_mul];omega
 .have k:c.l<=t:=by omega
  rw[Nat.min_eq_right k];have:=Nat.mul_le_mul_left d k;have e:c.r*t=c.r*c.l+c.r*(t-c.l):=by rw[<-Nat.mul_add];congr 1;omega
  rw[Nat.add_mul,Nat.add_mul];omega
theorem Qte{c:Jy}{l:Uw}{t:Nat}(u:c.r<c.f)(h:Uj l)(d:l≠[])(q:Ji l<=t):
  rAt c l t=min (Hb (Vk c.f 0 l) c.f (t-Ji l)) (Hb (Vk c.r ((c.f-c.r)*c.l) l) c.r (t-Ji l)):=by
 rw[Qdk h d q,Qdk h d q];unfold rAt;rw[if_neg d,Nat.max_eq_left q];have e:Xb (Hg c t) l=min (Xb (λk=>k.2+0+c.f*(t-k.1)) l) (Xb (λk=>k.2+(c.f-c.r)*c.l+c.r*(t-k.1)) l):=by rw[<-F6 d];refine Lt λk z=>?_;unfold Hg;rw[Jy.at_bent u];omega
 rw[e];omega
def Y5(h s y:Nat):Nat:=if y<=h then 0 else if s=0\/Xw<y then Qq else Tw (y-h) s
theorem Ia{h s y n:Nat}(c:n<Qq):Y5 h s y<=n↔y<=h\/y<=Hb h s n:=by unfold Y5 Hb;grind [D9]
theorem Qd8{c:Jy}{l:Uw}{y R:Nat}(h:Uj l)(q:l≠[])(d:Ji l<=R)(B:R<=Qq)(k:∀t,Ji l<=t->t<Qq->(R<=t↔y<=rAt c l t)):R=Kn c l y:=by
 have E:=Pb c l y;have u:=Qip (c:=c) (y:=y) h;refine Nat.le_antisymm ?_ ?_
 .by_cases z:Kn c l y=Qq;·omega
  .exact(k _ u (by omega)).2 ((Qd9 h q (by omega) u).1 (Zv _))
 .by_cases z:R=Qq;·omega
  .exact(Qd9 h q (by omega) d).2 ((k R d (by omega)).1 (Zv _))
def O6(x n:Nat):Nat:=if Qq-x<=n then Qq else x+n
theorem Qj0{c:Jy}{l:Uw}{y:Nat}(E:c.r<c.f)(h:Uj l)(k:l≠[]):
  O6 (Ji l) (max (Y5 (Vk c.f 0 l) c.f y) (Y5 (Vk c.r ((c.f-c.r)*c.l) l) c.r y))=Kn c l y:=by
 have d:=h.last;refine Qd8 h k ?_ ?_ λt B K=>?_;·unfold O6;split<;>omega
 .unfold O6;split<;>omega
 .rw[Qte E h k B,Nat.le_min];have I:Vk c.f 0 l<=Hb (Vk c.f 0 l) c.f (t-Ji l):=by unfold Hb Vk;omega
  have J:Vk c.r ((c.f-c.r)*c.l) l<=Hb (Vk c.r ((c.f-c.r)*c.l) l) c.r (t-Ji l):=by unfold Hb Vk;omega
  have q:=Ia (h:=Vk c.f 0 l) (s:=c.f) (y:=y) (n:=t-Ji l) (by omega);have u:=Ia (h:=Vk c.r ((c.f-c.r)*c.l) l) (s:=c.r) (y:=y) (n:=t-Ji l) (by omega);have z:O6 (Ji l) (max (Y5 (Vk c.f 0 l) c.f y) (Y5 (Vk c.r ((c.f-c.r)*c.l) l) c.r y))<=t↔Y5 (Vk c.f 0 l) c.f y<=t-Ji l/\Y5 (Vk c.r ((c.f-c.r)*c.l) l) c.r y<=t-Ji l:=by generalize Y5 (Vk c.f 0 l) c.f y=a;generalize Y5 (Vk c.r ((c.f-c.r)*c.l) l) c.r y=b;unfold O6;split<;>omega
  rw[z,q,u];omega
def Ug(c:Jy)(t:Nat)(k:Nat×Nat):Nat:=k.2+c.r*(t-k.1)
theorem Jy.at_sag{c:Jy}(h:c.f<=c.r)(t:Nat):c.at t+(c.r-c.f)*min t c.l=c.r*t:=by have k:c.at t=c.f*min t c.l+c.r*(t-min t c.l):=rfl;obtain⟨d,u⟩:∃d,c.r=c.f+d:=⟨c.r-c.f,by omega⟩;rw[k,u,Nat.add_sub_cancel_left];have z:=Nat.min_le_left t c.l;generalize min t c.l=m at z;obtain⟨q,rfl⟩:∃q,t=m+q:=⟨t-m,by omega⟩;rw[Nat.add_sub_cancel_left,Nat.mul_add,Nat.add_mul,Nat.add_mul];omega
def Dom(c:Jy)(x:Nat)(j k:Nat×Nat):Prop:=∀t,x<=t->Hg c t j<=Hg c t k/\Ug c t j<=Ug c t k
theorem Dom.refl(c:Jy)(x:Nat)(k:Nat×Nat):Dom c x k k:=λt _=>⟨Zv _,Zv _⟩
theorem Dom.trans{c:Jy}{x:Nat}{i j k:Nat×Nat}(h:Dom c x i j)(h':Dom c x j k):Dom c x i k:=λt d=>⟨Zp (h t d).1 (h' t d).1,Zp (h t d).2 (h' t d).2⟩
theorem Dom.later{c:Jy}{x d:Nat}{j k:Nat×Nat}(h:Dom c x j k)(u:x<=d):Dom c d j k:=λt q=>h t (Zp u q)
theorem Em{c:Jy}(h:c.f<=c.r)(t:Nat)(k:Nat×Nat):Hg c t k+(c.r-c.f)*min (t-k.1) c.l=Ug c t k:=by grind [Hg,Ug,Jy.at_sag]
theorem Qti{c:Jy}(h:c.f<=c.r){x:Nat}{j k:Nat×Nat}(d:j.1<=k.1)(Z:k.1<=x)(V:Hg c x k<=Hg c x j):Dom c x k j:=by
 intro t ht;have E:=Em h x j;have I:=Em h x k;have J:=Em h t j;have K:=Em h t k;have l1:Ug c t j=Ug c x j+c.r*(t-x):=by
  unfold Ug;have:t-j.1=(x-j.1)+(t-x):=by omega
  rw[this,Nat.mul_add];omega
 have l2:Ug c t k=Ug c x k+c.r*(t-x):=by
  unfold Ug;have:t-k.1=(x-k.1)+(t-x):=by omega
  rw[this,Nat.mul_add];omega
 have R:(c.r-c.f)*min (t-j.1) c.l+(c.r-c.f)*min (x-k.1) c.l<=(c.r-c.f)*min (x-j.1) c.l+(c.r-c.f)*min (t-k.1) c.l:=by rw[<-Nat.mul_add,<-Nat.mul_add];refine Nat.mul_le_mul_left _ ?_;omega
 have U:(c.r-c.f)*min (x-k.1) c.l<=(c.r-c.f)*min (x-j.1) c.l:=Nat.mul_le_mul_left _ (by omega);generalize(c.r-c.f)*min (t-j.1) c.l=q at*;generalize(c.r-c.f)*min (x-k.1) c.l=u at*;generalize(c.r-c.f)*min (x-j.1) c.l=z at*;generalize(c.r-c.f)*min (t-k.1) c.l=B at*;omega
theorem Qq9{c:Jy}(h:c.f<=c.r){x:Nat}{j k:Nat×Nat}(d:j.1<=k.1)(E:k.1<=x)(B:Ug c x j<=Ug c x k):Dom c x j k:=by
 intro t I;have q:=Em h t j;have u:=Em h t k;have J:Ug c t j=Ug c x j+c.r*(t-x):=by
  unfold Ug;have:t-j.1=(x-j.1)+(t-x):=by omega
  rw[this,Nat.mul_add];omega
 have K:Ug c t k=Ug c x k+c.r*(t-x):=by
  unfold Ug;have:t-k.1=(x-k.1)+(t-x):=by omega
  rw[this,Nat.mul_add];omega
 have z:(c.r-c.f)*min (t-k.1) c.l<=(c.r-c.f)*min (t-j.1) c.l:=Nat.mul_le_mul_left _ (by omega);omega
def U8(c:Jy)(x:Nat)(k:Nat×Nat):Nat->Uw->Uw
 |0,out=>out
 |n+1,out=>match out.getLast? with
  |none=>out
  |some j=>if Hg c x k<=Hg c x j then U8 c x k n out.dropLast else out
def Ux(c:Jy)(x:Nat)(d:Uw)(k:Nat×Nat):Uw:=
 let o:=U8 c x k d.length d
 match o.getLast? with
 |none=>o++[k]
 |some j=>if Ug c x j<=Ug c x k then o else o++[k]
def Qbj(c:Jy)(x:Nat)(l:Uw):Uw:=l.foldl (Ux c x) []
def Ys(c:Jy)(x:Nat)(d l:Uw):Prop:=d.Sublist l/\∀k∈l,∃j∈d,Dom c x j k
theorem getLast?_mem{l:Uw}{k:Nat×Nat}(h:l.getLast? =some k):l=l.dropLast++[k]:=by obtain⟨c,rfl⟩:=List.getLast?_eq_some_iff.1 h;simp
theorem Tj{c:Jy}(z:c.f<=c.r){x:Nat}{k:Nat×Nat}(B:k.1<=x):∀(n:Nat)(d:Uw),(∀j∈d,j.1<=k.1)->
  (U8 c x k n d).Sublist d/\∀j∈d,(∃i∈U8 c x k n d,Dom c x i j)\/Dom c x k j
 |0,d,_=>⟨List.Sublist.refl _,λj u=>.inl ⟨j,u,Dom.refl c x j⟩⟩
 |n+1,d,h=>by
  rw[U8];cases R:d.getLast? with
  |none=>exact⟨List.Sublist.refl _,λj u=>.inl ⟨j,u,Dom.refl c x j⟩⟩
  |some j=>
   dsimp only;have e:=getLast?_mem R;split
   .rename_i K;have E:d.dropLast.Sublist d:=List.dropLast_sublist d;obtain⟨I,J⟩:=Tj z B n d.dropLast (λi q=>h i (E.subset q));refine⟨I.trans E,λi q=>?_⟩;rw[e]at q;rcases Zl.1 q with q|q;·exact J i q
    .obtain rfl:i=j:=by simpa using q
     exact .inr (Qti z (h i (by rw[e];simp)) B K)
   .exact⟨List.Sublist.refl _,λj u=>.inl ⟨j,u,Dom.refl c x j⟩⟩
theorem Qbk{c:Jy}(Z:c.f<=c.r){x:Nat}{k:Nat×Nat}(hk:k.1<=x){u l:Uw}(I:Ys c x u l)(hl:∀j∈l,j.1<=k.1):Ys c x (Ux c x u k) (l++[k]):=by
 obtain⟨R,V⟩:=Tj Z hk u.length u (λj E=>hl j (I.1.subset E));unfold Ux;dsimp only;have J:Ys c x (U8 c x k u.length u++[k]) (l++[k]):=by
  refine⟨(R.trans I.1).append (List.Sublist.refl _),λi z=>?_⟩;rcases Zl.1 z with z|z
  .obtain⟨j,E,d⟩:=I.2 i z;rcases V j E with⟨q,U,B⟩|B;·exact⟨q,by simp[U],B.trans d⟩
   .exact⟨k,by simp,B.trans d⟩
  .obtain rfl:i=k:=by simpa using z
   exact⟨i,by simp,Dom.refl c x i⟩
 cases hg:(U8 c x k u.length u).getLast? with
 |none=>exact J
 |some j=>
  dsimp only;split
  .rename_i hh;have E:j∈U8 c x k u.length u:=List.mem_of_getLast? hg;have K:Dom c x j k:=Qq9 Z (hl j (I.1.subset (R.subset E))) hk hh;refine⟨(R.trans I.1).trans (List.sublist_append_left _ _),λi z=>?_⟩;rcases Zl.1 z with z|z
   .obtain⟨q,U,d⟩:=I.2 i z;rcases V q U with⟨p,hp,B⟩|B;·exact⟨p,hp,B.trans d⟩
    .exact⟨j,E,K.trans (B.trans d)⟩
   .obtain rfl:i=k:=by simpa using z
    exact⟨j,E,K⟩
  .exact J
abbrev Ew(l:Uw):Prop:=l.Pairwise λj k=>j.1<=k.1
theorem Ti{c:Jy}(q:c.f<=c.r){x:Nat}:∀(b a d:Uw),Ew (a++b)->(∀k∈b,k.1<=x)->Ys c x d a->Ys c x (b.foldl (Ux c x) d) (a++b)
 |[],a,d,_,_,h=>by simpa using h
 |k::b,a,d,hr,hx,h=>by rw[List.foldl_cons];have u:Ys c x (Ux c x d k) (a++[k]):=Qbk q (hx k (by simp)) h λj B=>(List.pairwise_append.1 hr).2.2 j B k (by simp);have:=Ti q b (a++[k]) (Ux c x d k) (by simpa using hr) (λi z=>hx i (by simp[z])) u;simpa using this
theorem Ys.trans{c:Jy}{x:Nat}{a b d:Uw}(h:Ys c x a b)(h':Ys c x b d):Ys c x a d:=
 ⟨h.1.trans h'.1,λk E=>by obtain⟨j,B,q⟩:=h'.2 k E;obtain⟨i,z,u⟩:=h.2 j B;exact⟨i,z,u.trans q⟩⟩
theorem Ys.later{c:Jy}{x q:Nat}{a b:Uw}(h:Ys c x a b)(B:x<=q):Ys c q a b:=⟨h.1,λk z=>by obtain⟨j,u,d⟩:=h.2 k z;exact⟨j,u,d.later B⟩⟩
theorem Ys.snoc{c:Jy}{x:Nat}{a b:Uw}(h:Ys c x a b)(k:Nat×Nat):Ys c x (a++[k]) (b++[k]):=by
 refine⟨h.1.append (List.Sublist.refl _),λi q=>?_⟩;rcases Zl.1 q with q|q;·obtain⟨j,u,d⟩:=h.2 i q;exact⟨j,by simp[u],d⟩
 .obtain rfl:i=k:=by simpa using q
  exact⟨i,by simp,Dom.refl c x i⟩
theorem Qp6{c:Jy}(R:c.f<=c.r){K l:Uw}(z:Ys c (Ji l) K l)(V:Ew l)(E:∀k∈l,k.1<=Ji l)(x y:Nat):
  Ys c (Ji (Dg l x y)) (Qbj c (Ji (Dg l x y)) (K++[(max (min x Qq) (Ji l),min y Xw)])) (Dg l x y):=by
 rw[Of];show Ys c _ _ (l++[(max (min x Qq) (Ji l),min y Xw)]);have B:Ji l<=max (min x Qq) (Ji l):=Nat.le_max_right _ _;generalize max (min x Qq) (Ji l)=u at B;have I:Ys c u (K++[(u,min y Xw)]) (l++[(u,min y Xw)]):=(z.later B).snoc _;have q:Ew (K++[(u,min y Xw)]):=by
  refine List.pairwise_append.2 ⟨V.sublist z.1,by simp,λj U k d=>?_⟩;obtain rfl:k=_:=by simpa using d
  exact Zp (E j (z.1.subset U)) B
 have J:=Ti R (x:=u) (K++[(u,min y Xw)]) [] [] (by simpa using q) (λk d=>by
  rcases Zl.1 d with d|d;·exact Zp (E k (z.1.subset d)) B
  .obtain rfl:k=_:=by simpa using d
   exact Zv _) ⟨List.Sublist.refl _,λk d=>by cases d⟩
 exact Ys.trans (by simpa[Qbj]using J) I
theorem La{f:Nat×Nat->Nat}{a b:Uw}(z:a.Sublist b)(c:b≠[])(h:∀k∈b,∃j∈a,f j<=f k):a≠[]/\Xb f a=Xb f b:=by
 have ha:a≠[]:=by
  rintro rfl;cases b with
  |nil=>exact c rfl
  |cons k b=>obtain⟨j,d,_⟩:=h k (by simp);cases d
 refine⟨ha,Nat.le_antisymm ?_ ?_⟩;·refine(U4 c).2 λk q=>?_;obtain⟨j,d,u⟩:=h k q;exact Zp ((U4 ha).1 (Zv _) j d) u
 .exact(U4 ha).2 λk q=>(U4 c).1 (Zv _) k (z.subset q)
theorem Qmf{c:Jy}{x t:Nat}{a b:Uw}(q:Ys c x a b)(u:b≠[])(E:x<=t):Xb (Hg c t) a=Xb (Hg c t) b:=
 (La q.1 u λk B=>by obtain⟨j,z,d⟩:=q.2 k B;exact⟨j,z,(d t E).1⟩).2
theorem Qi0{c:Jy}{x t:Nat}{a b:Uw}(q:Ys c x a b)(u:b≠[])(E:x<=t):Xb (Ug c t) a=Xb (Ug c t) b:=
 (La q.1 u λk B=>by obtain⟨j,z,d⟩:=q.2 k B;exact⟨j,z,(d t E).2⟩).2
def Eg(c:Jy)(x:Nat)(K:Uw)(y:Nat):Nat:=if Xw<y then Qq else min Qq (K.foldl (λn k=>max n (Rr c y k)) x)
theorem Qkr{c d:Jy}{K l:Uw}{y:Nat}(h:Uj l)(B:l≠[])(E:K.Sublist l)(R:∀t,Ji l<=t->Xb (Hg d t) K=Xb (Hg d t) l)(J:K≠[]):Eg d (Ji l) K y=Kn d l y:=by
 refine Qd8 h B ?_ ?_ λt q z=>?_
 .unfold Eg;have:=h.last;split;·exact this
  .rw[Nat.le_min];exact⟨this,((Uf K (Ji l)).1 (Zv _)).1⟩
 .unfold Eg;split;·exact Zv _
  .exact Nat.min_le_left _ _
 .have e:rAt d l t=min Xw (Xb (Hg d t) K):=by unfold rAt;rw[if_neg B,Nat.max_eq_left q,R t q]
  rw[e,Nat.le_min,U4 J];unfold Eg;by_cases I:Xw<y
  .rw[if_pos I];constructor;·intro h';omega
   .intro h';omega
  .rw[if_neg I];have:min Qq (K.foldl (λn k=>max n (Rr d y k)) (Ji l))<=t↔K.foldl (λn k=>max n (Rr d y k)) (Ji l)<=t:=by omega
   rw[this,Uf];constructor;·intro⟨_,h'⟩;exact⟨by omega,λk u=>(Nt z (Zp (h.rise k (E.subset u)) q)).1 (h' k u)⟩
   .intro⟨_,h'⟩;exact⟨q,λk u=>(Nt z (Zp (h.rise k (E.subset u)) q)).2 (h' k u)⟩
structure Xh where
 c:Jy
 l:Uw
def Xh.new(c:Jy):Xh:=⟨c,[]⟩
def Xh.start(r:Xh)(x y:Nat):Xh:=⟨r.c,Dg r.l x y⟩
def Xh.at(r:Xh)(t:Nat):Nat:=rAt r.c r.l t
def Xh.reach(r:Xh)(y:Nat):Nat:=Kn r.c r.l y
def Xh.elig(r:Xh)(y:Nat):Nat:=if r.c.r<r.c.f then Kn r.c r.l y else Kn ⟨0,0,r.c.r⟩ r.l y
def Xq(w:World)(b:Nat)(l:List (Int×Value)):Prop:=
 ∃d c,w.heap[b]? =some (.map d c)/\d.toList.map (λe=>(e.key,e.val))=l.map (λp=>(Value.int .i64 p.1,p.2))/\
  (l.map (·.1)).Nodup/\(d.toList.map (·.born)).Nodup/\∀e∈d.toList,e.born<c
def Oe(k:Int):List (Int×Value)->Nat->Option (Nat×Value)
 |[],_=>none
 |p::l,i=>if k=p.1 then some (i,p.2)else Oe k l (i+1)
theorem Fv(k:Int):∀(c:List MapEntry)(l:List (Int×Value))(i:Nat),c.map (λe=>(e.key,e.val))=l.map (λp=>(Value.int .i64 p.1,p.2))->
  Instr.findNow (.int .i64) (.int .i64 k) c i=some (Oe k l i)
 |[],[],_,_=>rfl
 |[],_::_,_,h=>by cases h
 |_::_,[],_,h=>by cases h
 |e::c,p::l,i,h=>by
  simp only[List.map_cons,List.cons.injEq,Prod.mk.injEq]at h;obtain⟨⟨q,u⟩,z⟩:=h;have B:=Fv k c l (i+1) z;simp only[Instr.findNow,q,Instr.sameNow,if_true,Oe];by_cases d:k=p.1;·simp[d,u]
  .have:(k==p.1)=false:=by simpa using d
   rw[this,if_neg d];exact B
def look(k:Int)(l:List (Int×Value)):Option Value:=(Oe k l 0).map (·.2)
section
variable{P:Program}{t kt e:TypeId}{w:World}{b:Nat}{l:List (Int×Value)}
theorem Qmp{d:TypeDesc}(h:P.underlying t=some d):(underlying t).run P w=.ok d w:=by simp[underlying,h]
theorem Qkf{d:Array MapEntry}{c:Nat}(h:w.heap[b]? =some (.map d c)):(getObj b).run P w=.ok (.map d c) w:=by simp[getObj,Sem.run,h]
theorem Qsm{d:Array MapEntry}{c:Nat}(o:Obj)(h:w.heap[b]? =some (.map d c)):(setObj b o).run P w=.ok () {w with heap:=w.heap.setIfInBounds b o}:=by simp[setObj,Sem.run,h]
theorem Dt(d:P.underlying kt=some (.int .i64))(k:Int)(c:List MapEntry)(h:c.map (λe=>(e.key,e.val))=l.map (λp=>(Value.int .i64 p.1,p.2))):
  (Instr.findKey kt (.int .i64 k) c).run P w=.ok (Oe k l 0) w:=by
 unfold Instr.findKey;simp[underlying,d,Fv k c l 0 h]
theorem Ox(c:P.underlying kt=some (.int .i64))(b:Bool)(k:Int):(Instr.checkKey b 10000 kt (.int .i64 k)).run P w=.ok () w:=by unfold Instr.checkKey;simp[underlying,c]
theorem Dj(h:Xq w b l)(I:P.underlying t=some (.map kt e))(d:P.underlying kt=some (.int .i64)){z:Value}(J:(zeroValue e).run P w=.ok z w)(k:Int):
  (Instr.lookup t (.map (some b)) (.int .i64 k) true).run P w=.ok (.tuple #[(look k l).getD z,.bool (look k l).isSome]) w:=by
 obtain⟨u,c,B,E,_⟩:=h;unfold Instr.lookup;simp only[Sem.run_bind,Sem.run_pure,Qmp I,Result.andThen_ok,Qkf B,Ox d,Dt d k u.toList E,look];cases K:Oe k l 0 with
 |none=>simp[J]
 |some q=>simp
theorem Du(h:Xq w b l)(I:P.underlying t=some (.map kt e))(d:P.underlying kt=some (.int .i64)){z:Value}(J:(zeroValue e).run P w=.ok z w)(k:Int):
  (Instr.lookup t (.map (some b)) (.int .i64 k) false).run P w=.ok ((look k l).getD z) w:=by
 obtain⟨u,c,B,E,_⟩:=h;unfold Instr.lookup;simp only[Sem.run_bind,Sem.run_pure,Qmp I,Result.andThen_ok,Qkf B,Ox d,Dt d k u.toList E,look];cases K:Oe k l 0 with
 |none=>simp[J]
 |some q=>simp
def Oi(k:Int)(v:Value):List (Int×Value)->List (Int×Value)
 |[]=>[(k,v)]
 |p::l=>if k=p.1 then(k,v)::l else p::Oi k v l
theorem U6{k:Int}:∀{l:List (Int×Value)}{i n:Nat}{v:Value},Oe k l i=some (n,v)->∃j,n=i+j/\j<l.length/\l[j]? =some (k,v)
 |p::l,i,n,v,h=>by
  simp only[Oe]at h;split at h;·rename_i d;obtain⟨rfl,rfl⟩:=Prod.mk.injEq .. ▸Zs h;exact⟨0,rfl,by simp,by simp[d]⟩
  .obtain⟨j,rfl,c,q⟩:=U6 h;exact⟨j+1,by omega,by simpa using c,by simpa using q⟩
theorem Pa{k:Int}:∀{l:List (Int×Value)}{i:Nat},Oe k l i=none->∀p∈l,p.1≠k
 |p::l,i,h,q,c=>by
  simp only[Oe]at h;split at h;·cases h
  .rename_i d;rcases Zu.1 c with rfl|c;·exact λe=>d e.symm
   .exact Pa h q c
theorem Gw{k:Int}{v:Value}:∀{l:List (Int×Value)},(∀p∈l,p.1≠k)->Oi k v l=l++[(k,v)]
 |[],_=>rfl
 |p::l,h=>by have c:k≠p.1:=λe=>h p (by simp) e.symm;rw[Oi,if_neg c,Gw λq d=>h q (by simp[d])];rfl
theorem Fa{k:Int}{v:Value}:∀{l:List (Int×Value)},(∃p∈l,p.1=k)->(Oi k v l).map (·.1)=l.map (·.1)
 |p::l,h=>by
  rw[Oi];split;·rename_i d;simp[d]
  .rename_i d;simp only[List.map_cons,List.cons.injEq,true_and];refine Fa ?_;obtain⟨q,u,c⟩:=h;rcases Zu.1 u with rfl|u;·exact absurd c.symm d
   .exact⟨q,u,c⟩
theorem Ry{k:Int}{v u:Value}:∀{l:List (Int×Value)}{i j:Nat},Oe k l i=some (i+j,u)->Oi k v l=l.modify j λp=>(p.1,v)
 |p::l,i,j,h=>by
  simp only[Oe]at h;rw[Oi];split at h
  .rename_i c;have q:j=0:=by have:=(Prod.mk.injEq .. ▸Zs h:i=i+j/\_).1;omega
   subst q;rw[if_pos c,c];rfl
  .rename_i c;rw[if_neg c];obtain⟨B,z,_⟩:=U6 h;obtain⟨d,rfl⟩:∃d,j=d+1:=⟨j-1,by omega⟩;rw[Ry (i:=i+1) (j:=d) (by rw[h];congr 2;omega)];rfl
theorem X6(h:Xq w b l)(ht:P.underlying t=some (.map kt e))(hk:P.underlying kt=some (.int .i64))(k:Int)(v:Value):
  ∃w',(Instr.mapUpdate t (.map (some b)) (.int .i64 k) v).run P w=.ok () w'/\Xq w' b (Oi k v l)/\Qc (λj=>j=b) w w':=by
 obtain⟨z,d,h1,R,h3,h4,h5⟩:=h;have hb:b<w.heap.size:=(Z2.1 h1).1;unfold Instr.mapUpdate;simp only[Sem.run_bind,Qmp ht,Result.andThen_ok,Qkf h1,Ox hk,Dt hk k z.toList R];have K:∀o,Qc (λj=>j=b) w {w with heap:=w.heap.setIfInBounds b o}:=by intro o;refine⟨rfl,rfl,rfl,by simp,λj hj hS=>?_⟩;rw[Array.getElem?_setIfInBounds_ne (λe=>hS e.symm)]
 cases hp:Oe k l 0 with
 |none=>
  have J:=Pa hp;simp only[Qsm _ h1];refine⟨_,rfl,⟨z.push {key:=.int .i64 k,val:=v,born:=d},d+1,?_,?_,?_,?_,?_⟩,K _⟩;·simp[hb]
  .rw[Gw J];simp[R]
  .rw[Gw J];simp only[List.map_append,List.map_cons,List.map_nil];refine List.nodup_append.2 ⟨h3,by simp,λa ha c hc=>?_⟩;obtain rfl:c=k:=by simpa using hc
   obtain⟨p,hp,rfl⟩:=Z3.1 ha;exact J p hp
  .simp only[Array.toList_push,List.map_append,List.map_cons,List.map_nil];refine List.nodup_append.2 ⟨h4,by simp,λa ha c hc=>?_⟩;obtain rfl:c=d:=by simpa using hc
   obtain⟨x,B,rfl⟩:=Z3.1 ha;have:=h5 x B;omega
  .intro x B;simp only[Array.toList_push,Zl,List.mem_singleton]at B;rcases B with B|rfl;·have:=h5 x B;omega
   .simp
 |some q=>
  obtain⟨n,u⟩:=q;obtain⟨j,hj,Z,I⟩:=U6 hp;obtain rfl:n=j:=by omega
  have ab:z.toList.length=l.length:=by simpa using congrArg List.length R
  have J:n<z.size:=by rw[<-ab]at Z;simpa using Z
  have aa:z[n].key=.int .i64 k:=by have:=congrArg (λx=>x[n]?) R;simp only[List.getElem?_map,I]at this;rw[Array.getElem?_toList,Array.getElem?_eq_getElem J]at this;simpa using(congrArg Prod.fst (Zs this))
  have ac:((Instr.keyThatStays (((z[n]?).map (·.key)).getD (.int .i64 k)) (.int .i64 k)).run P w)=.ok (.int .i64 k) w:=by rw[Array.getElem?_eq_getElem J];simp[aa,Instr.keyThatStays,Instr.sameBits]
  simp only[Sem.run_bind,ac,Result.andThen_ok,Qsm _ h1];refine⟨_,rfl,⟨z.modify n λe=>{e with key:=.int .i64 k,val:=v},d,?_,?_,?_,?_,?_⟩,K _⟩;·simp[hb]
  .rw[Ry (i:=0) (j:=n) (u:=u) (by rw[hp];simp)];refine List.ext_getElem? λi=>?_;have U:=congrArg (λx=>x[i]?) R;simp only[List.getElem?_map,Array.getElem?_toList]at U;simp only[List.getElem?_map,Array.getElem?_toList,Array.getElem?_modify,List.getElem?_modify];by_cases V:n=i;·subst V;simp only[if_true,I,Array.getElem?_eq_getElem J];simp
   .simp only[V,if_false];simpa using U
  .rw[Fa ⟨(k,u),List.mem_of_getElem? I,rfl⟩];exact h3
  .have:(z.modify n λe=>{e with key:=.int .i64 k,val:=v}).toList.map (·.born)=z.toList.map (·.born):=by
    refine List.ext_getElem? λi=>?_;simp only[List.getElem?_map,Array.getElem?_toList,Array.getElem?_modify];split;·cases z[i]? <;>rfl
    .rfl
   rw[this];exact h4
  .intro x B;obtain⟨i,E⟩:=List.mem_iff_getElem?.1 B;simp only[Array.getElem?_toList,Array.getElem?_modify]at E;split at E
   .cases hy:z[i]? with
    |none=>rw[hy]at E;cases E
    |some y=> rw[hy]at E;obtain rfl:=Zs E;exact h5 y (List.mem_of_getElem? (by rw[Array.getElem?_toList];exact hy))
   .exact h5 x (List.mem_of_getElem? (by rw[Array.getElem?_toList];exact E))
theorem Xq.new(w:World):Xq (w.alloc (.map #[] 0)) w.heap.size []:=⟨#[],0,by show(w.heap.push _)[w.heap.size]? =_;simp,rfl,by simp,by simp,by simp⟩
theorem Xq.aB{S:Nat->Prop}{w'}(h:Xq w b l)(z:Qc S w w')(u:¬S b):Xq w' b l:=by obtain⟨d,c,k,q⟩:=h;exact⟨d,c,z.heap k u,q⟩
theorem Xq.lt(h:Xq w b l):b<w.heap.size:=by obtain⟨k,c,d,q⟩:=h;exact(Z2.1 d).1
theorem Xq.nodup(h:Xq w b l):(l.map (·.1)).Nodup:=by obtain⟨k,c,q,u,d,_⟩:=h;exact d
theorem Qua(h:Xq w b l)(z:P.underlying t=some (.map kt e))(ty:TypeId):(Builtin.len_ #[t] ty #[.map (some b)]).run P w=.ok (.int .i64 l.length) w:=by
 obtain⟨d,c,k,q,_⟩:=h;have u:d.size=l.length:=by simpa using congrArg List.length q
 unfold Builtin.len_;simp[Qmp z,Qkf k,u,goInt]
def Vu(k:Int)(l:List (Int×Value)):List (Int×Value):=l.filter λp=>!decide (p.1=k)
theorem Co{A B:Type}(f:A->B):∀(l:List A)(j:Nat),(l.eraseIdx j).map f=(l.map f).eraseIdx j
 |[],_=>rfl
 |_::_,0=>rfl
 |a::l,j+1=>by simp[Co f l j]
theorem A0{k:Int}{v:Value}:∀{l:List (Int×Value)}{j:Nat},(l.map (·.1)).Nodup->l[j]? =some (k,v)->l.eraseIdx j=Vu k l
 |p::l,0,hn,h=>by
  obtain rfl:p=(k,v):=by simpa using h
  obtain⟨c,_⟩:=List.nodup_cons.1 hn;simp only[List.eraseIdx_cons_zero,Vu,List.filter_cons,decide_true,Bool.not_true,Bool.false_eq_true,if_false];refine(List.filter_eq_self.2 λq B=>?_).symm;simp only[Bool.not_eq_true',decide_eq_false_iff_not];exact λe=>c (Z3.2 ⟨q,B,e⟩)
 |p::l,j+1,hn,h=>by
  obtain⟨c,u⟩:=List.nodup_cons.1 hn;have d:l[j]? =some (k,v):=by simpa using h
  have z:p.1≠k:=λe=>c (Z3.2 ⟨(k,v),List.mem_of_getElem? d,e.symm⟩);rw[List.eraseIdx_cons_succ,A0 u d];simp[Vu,z]
theorem Qc1{k:Int}{l:List (Int×Value)}(h:∀p∈l,p.1≠k):Vu k l=l:=by refine List.filter_eq_self.2 λq c=>?_;simp only[Bool.not_eq_true',decide_eq_false_iff_not];exact h q c
theorem Di(h:Xq w b l)(ht:P.underlying t=some (.map kt e))(Z:P.underlying kt=some (.int .i64))(t2 ty:TypeId)(k:Int):
  ∃w',(Builtin.delete_ #[t,t2] ty #[.map (some b),.int .i64 k]).run P w=.ok (.tuple #[]) w'/\Xq w' b (Vu k l)/\Qc (λj=>j=b) w w':=by
 obtain⟨B,c,E,I,J,R,U⟩:=h;have V:b<w.heap.size:=(Z2.1 E).1;have z:∀o,Qc (λj=>j=b) w {w with heap:=w.heap.setIfInBounds b o}:=by intro o;refine⟨rfl,rfl,rfl,by simp,λj hj hS=>?_⟩;rw[Array.getElem?_setIfInBounds_ne (λe=>hS e.symm)]
 unfold Builtin.delete_;simp only[Zf,Ze,Zd,Sem.run_bind,Qmp ht,Result.andThen_ok,Qkf E,Ox Z,Dt Z k B.toList I];cases hp:Oe k l 0 with
 |none=> simp only[Sem.run_bind,Qsm _ E,Result.andThen_ok,Sem.run_pure];refine⟨_,rfl,⟨B,c,by simp[V],?_⟩,z _⟩;rw[Qc1 (Pa hp)];exact⟨I,J,R,U⟩
 |some q=>
  obtain⟨n,u⟩:=q;obtain⟨j,hj,aa,K⟩:=U6 hp;obtain rfl:n=j:=by omega
  simp only[Sem.run_bind,Qsm _ E,Result.andThen_ok,Sem.run_pure];have d:(B.eraseIdxIfInBounds n).toList.Sublist B.toList:=by rw[Array.toList_eraseIdxIfInBounds];exact List.eraseIdx_sublist _ _
  refine⟨_,rfl,⟨B.eraseIdxIfInBounds n,c,by simp[V],?_,?_,?_,?_⟩,z _⟩;·rw[<-A0 J K,Array.toList_eraseIdxIfInBounds,Co,I,Co]
  .exact J.sublist (List.filter_sublist.map _)
  .exact R.sublist (d.map _)
  .exact λx hx=>U x (d.subset hx)
def Kj(w:World)(b r:Nat)(l left:List (Int×Value)):Prop:=
 ∃k c d,w.heap[b]? =some (.map k c)/\k.toList.map (λe=>(e.key,e.val))=l.map (λp=>(Value.int .i64 p.1,p.2))/\
  (l.map (·.1)).Nodup/\(k.toList.map (·.born)).Nodup/\(∀e∈k.toList,e.born<c)/\w.heap[r]? =some (.mapIter (some b) c d c)/\r≠b/\
  (leftOf k d).toList.map (λe=>(e.key,e.val))=left.map (λp=>(Value.int .i64 p.1,p.2))/\left.Sublist l
theorem Kj.map{r:Nat}{left:List (Int×Value)}(h:Kj w b r l left):Xq w b l:=by obtain⟨k,c,d,q,u,z,B,E,_⟩:=h;exact⟨k,c,q,u,z,B,E⟩
theorem Kj.aB{S:Nat->Prop}{w'}{r:Nat}{left:List (Int×Value)}(h:Kj w b r l left)(k:Qc S w w')(R:¬S b)(U:¬S r):Kj w' b r l left:=by obtain⟨q,c,d,u,z,B,E,I,J,K⟩:=h;exact⟨q,c,d,k.heap u R,z,B,E,I,k.heap J U,K⟩
theorem Kj.sub{r:Nat}{left:List (Int×Value)}(h:Kj w b r l left):left.Sublist l:=by obtain⟨q,c,d,u,z,B,E,I,J,K,R,k⟩:=h;exact k
theorem Er(h:Xq w b l)(I:P.underlying t=some (.map kt e)):∃o,(Instr.range t (.map (some b))).run P w=.ok (.pointer (some ⟨w.heap.size,0,none⟩)) (w.alloc o)/\Kj (w.alloc o) b w.heap.size l l:=by
 have E:=h.lt;obtain⟨d,c,k,q,u,z,B⟩:=h;refine⟨.mapIter (some b) c #[] c,?_,d,c,#[],?_,q,u,z,B,?_,by omega,?_,List.Sublist.refl _⟩;·unfold Instr.range;simp[Qmp I,Qkf k]
 .rw[Below.heap_alloc _ _ _ E];exact k
 .show(w.heap.push _)[w.heap.size]? =_;simp
 .have:leftOf d #[]=d:=by simp[leftOf]
  rw[this];exact q
theorem Qq6{d:List MapEntry}(h:(d.map (·.born)).Nodup){x y:MapEntry}(B:x∈d)(E:y∈d)(e:x.born=y.born):x=y:=by
 induction d with
 |nil=>cases B
 |cons a d J=>
  obtain⟨z,I⟩:=List.nodup_cons.1 h;rcases Zu.1 B with u|k
  .rcases Zu.1 E with q|c;·rw[u,q]
   .exact(z (Z3.2 ⟨y,c,by rw[<-e,u]⟩)).elim
  .rcases Zu.1 E with q|c;·exact(z (Z3.2 ⟨x,k,by rw[e,q]⟩)).elim
   .exact J I k c
theorem Qdi{x:MapEntry}{p:Int×Value}:∀{c:List MapEntry}{left:List (Int×Value)},c.map (λe=>(e.key,e.val))=left.map (λp=>(Value.int .i64 p.1,p.2))->(left.map (·.1)).Nodup->(c.map (·.born)).Nodup->
  x∈c->p∈left->Value.int .i64 p.1=x.key->(c.filter (λy=>!decide (y.born=x.born))).map (λe=>(e.key,e.val))=(Vu p.1 left).map (λp=>(Value.int .i64 p.1,p.2))
 |[],[],_,_,_,d,_,_=>by cases d
 |[],_::_,h,_,_,_,_,_=>by cases h
 |_::_,[],h,_,_,_,_,_=>by cases h
 |y::c,q::left,h,hn,hb,d,U,B=>by
  simp only[List.map_cons,List.cons.injEq,Prod.mk.injEq]at h;obtain⟨⟨h1,h2⟩,K⟩:=h;obtain⟨n1,n2⟩:=List.nodup_cons.1 hn;obtain⟨Z,b2⟩:=List.nodup_cons.1 hb;by_cases u:y.born=x.born
  .have J:y=x:=by
    rcases Zu.1 d with e|d;·exact e.symm
    .exact absurd (Z3.2 ⟨x,d,u.symm⟩) Z
   subst J;have E:q.1=p.1:=by rw[h1]at B;injection B with _ B;exact B.symm
   have f1:(c.filter λz=>!decide (z.born=y.born))=c:=List.filter_eq_self.2 λz k=>by simp only[Bool.not_eq_true',decide_eq_false_iff_not];exact λe=>Z (Z3.2 ⟨z,k,e⟩)
   have f2:Vu p.1 left=left:=Qc1 λz k e=>n1 (Z3.2 ⟨z,k,e.trans E.symm⟩);simp only[List.filter_cons,decide_true,Bool.not_true,Bool.false_eq_true,if_false,f1];rw[K];have:Vu p.1 (q::left)=Vu p.1 left:=by simp[Vu,E]
   rw[this,f2]
  .have I:x∈c:=by
    rcases Zu.1 d with e|d;·exact absurd (by rw[e]) u
    .exact d
   have E:q.1≠p.1:=by
    intro e;obtain⟨i,hi⟩:=List.mem_iff_getElem?.1 I;have:=congrArg (λl=>l[i]?) K;simp only[List.getElem?_map,hi,Zn]at this;cases R:left[i]? with
    |none=>rw[R]at this;cases this
    |some z=> rw[R]at this;have k:x.key=Value.int .i64 z.1:=(Prod.mk.injEq .. ▸Zs this).1;rw[<-B]at k;injection k with _ k;exact n1 (Z3.2 ⟨z,List.mem_of_getElem? R,k.symm.trans e.symm⟩)
   have V:p∈left:=by
    rcases Zu.1 U with e|U;·exact absurd (by rw[e]) E
    .exact U
   have ih:=Qdi K n2 b2 I V B;have g1:((y::c).filter λz=>!decide (z.born=x.born))=y::c.filter λz=>!decide (z.born=x.born):=by simp[u]
   have g2:Vu p.1 (q::left)=q::Vu p.1 left:=by simp[Vu,E]
   rw[g1,g2,List.map_cons,List.map_cons,ih,h1,h2]
theorem Rx{r:Nat}{left:List (Int×Value)}(h:Kj w b r l left)(ty:TypeId):
  (left=[]/\(Instr.next (.pointer (some ⟨r,0,none⟩)) false ty).run P w=.ok (.tuple #[.bool false]) w)\/
  ∃p∈left,∃w',(Instr.next (.pointer (some ⟨r,0,none⟩)) false ty).run P w=.ok (.tuple #[.bool true,.int .i64 p.1,p.2]) w'/\Kj w' b r l (Vu p.1 left)/\Qc (λj=>j=r) w w'/\
   (Instr.entry (.pointer (some ⟨r,0,none⟩))).run P w'=.ok (.tuple #[.int .i64 p.1,p.2]) w':=by
 obtain⟨k,c,d,h1,h2,h3,U,h5,h6,h7,V,h9⟩:=h;rcases run_next_at (P:=P) w ty r b c c d k c h6 h1 h5 (Zv _)with⟨h0,Z⟩|⟨x,K,w1,z,Z⟩
 .left;refine⟨?_,Z⟩;have:(leftOf k d).toList=[]:=List.length_eq_zero_iff.1 (by simpa using h0);rw[this]at V;cases left with
  |nil=>rfl
  |cons a l=>cases V
 .right;have q:=List.mem_map_of_mem (f:=λe:MapEntry=>(e.key,e.val)) K;rw[V]at q;obtain⟨p,hp,E⟩:=Z3.1 q;simp only[Prod.mk.injEq]at E;obtain⟨e1,e2⟩:=E;have ac:r<w.heap.size:=(Z2.1 h6).1;rw[<-e1,<-e2]at Z;have J:r<w1.heap.size:=by rcases z with rfl|rfl<;>exact ac
  have aa:w1.heap[b]? =some (.map k c):=by rcases z with rfl|rfl<;>exact h1
  have R:x∈k.toList:=by unfold leftOf at K;simp at K;simpa using K.1
  have B:(ChangeMaps.setBlock w1 r (.mapIter (some b) c (d.push x.born) c)).heap[b]? =some (.map k c):=by show(w1.heap.setIfInBounds r _)[b]? =_;rw[Array.getElem?_setIfInBounds_ne h7];exact aa
  have I:(ChangeMaps.setBlock w1 r (.mapIter (some b) c (d.push x.born) c)).heap[r]? =some (.mapIter (some b) c (d.push x.born) c):=by show(w1.heap.setIfInBounds r _)[r]? =_;simp[J]
  have ab:(left.map (·.1)).Nodup:=h3.sublist (h9.map _);refine⟨p,hp,_,Z,⟨k,c,d.push x.born,B,h2,h3,U,h5,I,h7,?_,List.filter_sublist.trans h9⟩,?_,?_⟩
  .have af:∀y∈k.toList,(y.born=x.born↔y=x):=by intro y hy;refine⟨λe=>?_,λe=>by rw[e]⟩;exact Qq6 U hy R e
   have u:(leftOf k (d.push x.born)).toList=(leftOf k d).toList.filter (λy=>!decide (y.born=x.born)):=by
    unfold leftOf;simp only[Array.toList_filter,List.filter_filter];refine List.filter_congr λy _=>?_;simp only[Array.contains_push];by_cases hc:y.born=x.born;·simp[hc]
    .simp[hc]
   rw[u];have ae:(leftOf k d).toList.Sublist k.toList:=by unfold leftOf;simp only[Array.toList_filter];exact List.filter_sublist
   exact Qdi V ab (U.sublist (ae.map _)) K hp e1
  .rcases z with rfl|rfl;·exact⟨rfl,rfl,rfl,by simp[ChangeMaps.setBlock],λj hj hS=>by show(w1.heap.setIfInBounds r _)[j]? =_;rw[Array.getElem?_setIfInBounds_ne (λe=>hS e.symm)]⟩
   .exact⟨rfl,rfl,rfl,by show w.heap.size<=(w.heap.setIfInBounds r _).size;simp,λj hj hS=>by show(w.heap.setIfInBounds r _)[j]? =_;rw[Array.getElem?_setIfInBounds_ne (λe=>hS e.symm)]⟩
  .rw[e1,e2];exact run_entry_at _ r b c d k c x I B R U
end
abbrev Fp:=Nat->Prop
def Qn(F:Fp)(w w':World):Fp:=λk=>F k\/(w.heap.size<=k/\k<w'.heap.size)
def Bd(F:Fp)(w:World):Prop:=∀k,F k->k<w.heap.size
def Jl(F G:Fp):Prop:=∀k,F k->¬G k
section
variable{F G S:Fp}{w w1 w2:World}
theorem Bd.later(h:Bd F w)(c:Qc S w w1):Bd F w1:=λk d=>Nat.lt_of_lt_of_le (h k d) c.size
theorem Bd.ext(h:Bd F w)(d:Qc S w w1):Bd (Qn F w w1) w1:=λk c=>c.elim (λc=>Nat.lt_of_lt_of_le (h k c) d.size) (λc=>c.2)
theorem Bd.sub(h:Bd F w)(d:∀k,G k->F k):Bd G w:=λk c=>h k (d k c)
theorem Bd.not(h:Bd F w){k:Nat}(d:w.heap.size<=k):¬F k:=λc=>by have:=h k c;omega
theorem Jl.symm(h:Jl F G):Jl G F:=λk d c=>h k c d
theorem Jl.sub{c d:Fp}(h:Jl F G)(q:∀k,c k->F k)(u:∀k,d k->G k):Jl c d:=λk a b=>h k (q k a) (u k b)
theorem Jl.subL{c:Fp}(h:Jl F G)(d:∀k,c k->F k):Jl c G:=λk a b=>h k (d k a) b
theorem Jl.subR{c:Fp}(h:Jl F G)(d:∀k,c k->G k):Jl F c:=λk a b=>h k a (d k b)
theorem Jl.none(F:Fp):Jl F Qb:=λ_ _ h=>h
theorem Jl.extL(h:Jl F G)(q:Bd G w):Jl (Qn F w w1) G:=λk c d=>c.elim (λc=>h k c d) (λc=>by have:=q k d;omega)
theorem Jl.extR(h:Jl G F)(c:Bd G w):Jl G (Qn F w w1):=(Jl.extL h.symm c).symm
theorem Qn.of{k:Nat}(h:F k):Qn F w w1 k:=.inl h
theorem Qn.mono(d:∀k,G k->F k):∀k,Qn G w w1 k->Qn F w w1 k:=λk c=>c.elim (λh=>.inl (d k h)) .inr
theorem Qn.not{k:Nat}(h:¬F k)(c:k<w.heap.size):¬Qn F w w1 k:=λe=>e.elim h (λe=>by omega)
theorem Qn.trans(d:w.heap.size<=w1.heap.size)(q:w1.heap.size<=w2.heap.size):∀k,Qn (Qn F w w1) w1 w2 k->Qn F w w2 k:=by
 intro k c;rcases c with(c|c)|c;·exact .inl c
 .exact .inr ⟨c.1,by omega⟩
 .exact .inr ⟨by omega,c.2⟩
theorem Qn.later(d:w1.heap.size<=w2.heap.size):∀k,Qn F w w1 k->Qn F w w2 k:=λk c=>c.elim .inl (λh=>.inr ⟨h.1,by omega⟩)
theorem Qc.sub(h:Qc G w w1)(d:∀k,G k->F k):Qc F w w1:=h.mono λk c=>.inl (d k c)
theorem Qc.none(h:Qc Qb w w1):Qc F w w1:=h.mono λk c=>c.elim
theorem Qc.ext(h:Qc F w w1)(h':Qc (Qn F w w1) w1 w2):Qc F w w2:=h.trans h' λk c=>c.elim .inl (λh=>.inr h.1)
theorem Qc.far(h:Qc S w w1){b:Nat}(d:b<w.heap.size)(c:¬S b):w1.heap[b]? =w.heap[b]? :=h.block b d c
end
structure Hf{X:Type}(Is:World->Fp->Nat->X->Prop):Prop where
 bd:∀{w F b x},Is w F b x->Bd F w
 own:∀{w F b x},Is w F b x->F b
 aB:∀{w w' F S b x},Is w F b x->Qc S w w'->Jl F S->Is w' F b x
 more:∀{w F F' b x},Is w F b x->(∀k,F k->F' k)->Bd F' w->Is w F' b x
theorem Hf.lt{X:Type}{Is:World->Fp->Nat->X->Prop}(c:Hf Is){w}{F:Fp}{b:Nat}{x:X}(h:Is w F b x):b<w.heap.size:=c.bd h b (c.own h)
section
variable{X:Type}{key:X->Int}{Is:World->Fp->Nat->X->Prop}{w w':World}{F:Fp}{m:Nat}{ad:Int->Nat}{l:List X}
abbrev ptr(b:Nat):Value:=.pointer (some ⟨b,0,none⟩)
def Xy(key:X->Int)(ad:Int->Nat)(l:List X):List (Int×Value):=l.map λx=>(key x,ptr (ad (key x)))
structure Yn(key:X->Int)(Is:World->Fp->Nat->X->Prop)(w:World)(F:Fp)(m:Nat)(ad:Int->Nat)(l:List X):Prop where
 map:Xq w m (Xy key ad l)
 bd:Bd F w
 at_:F m
 ex:∃G:Int->Fp,(∀x∈l,Is w (G (key x)) (ad (key x)) x)/\(∀i k,G i k->F k/\k≠m)/\(∀i j k,G i k->G j k->i=j)
def Lg(key:X->Int)(c:X)(l:List X):List X:=l.map λy=>if key y=key c then c else y
theorem Qcy(c:X)(l:List X):Xy key ad (Lg key c l)=Xy key ad l:=by
 simp only[Xy,Lg,List.map_map];refine List.map_congr_left λy _=>?_;simp only[Function.comp];split;·rename_i h;rw[h]
 .rfl
theorem Qj4(l:List X):(Xy key ad l).map (·.1)=l.map key:=by simp[Xy]
theorem Yn.nodup(h:Yn key Is w F m ad l):(l.map key).Nodup:=by have:=h.map.nodup;rwa[Qj4]at this
theorem Qd7{k:Int}{v:Value}:∀{l:List (Int×Value)}{i:Nat},(l.map (·.1)).Nodup->(k,v)∈l->∃n,Oe k l i=some (n,v)
 |p::l,i,hn,c=>by
  simp only[List.map_cons,List.nodup_cons]at hn;rw[Oe];rcases Zu.1 c with rfl|c;·simp
  .have:k≠p.1:=by rintro rfl;exact hn.1 (Z3.2 ⟨_,c,rfl⟩)
   rw[if_neg this];exact Qd7 hn.2 c
theorem Eh{k:Int}{v:Value}{l:List (Int×Value)}(d:(l.map (·.1)).Nodup)(c:(k,v)∈l):look k l=some v:=by obtain⟨n,h⟩:=Qd7 (i:=0) d c;simp[look,h]
theorem Sp{k:Int}{l:List (Int×Value)}(h:∀p∈l,p.1≠k):look k l=none:=by
 cases d:Oe k l 0 with
 |none=>simp[look,d]
 |some q=> obtain⟨n,v⟩:=q;obtain⟨j,_,u,c⟩:=U6 d;exact absurd rfl (h _ (List.mem_of_getElem? c))
def Hn(key:X->Int)(i:Int)(l:List X):Option X:=l.find? λx=>decide (key x=i)
theorem Y3{i:Int}{x:X}(h:Hn key i l=some x):x∈l/\key x=i:=⟨List.mem_of_find?_eq_some h,by simpa using List.find?_some h⟩
theorem Lz{i:Int}(h:Hn key i l=none):∀x∈l,key x≠i:=by simpa[Hn]using h
theorem Ls{i:Int}{x:X}(d:(l.map key).Nodup)(c:x∈l)(k:key x=i):Hn key i l=some x:=by
 induction l with
 |nil=>cases c
 |cons y l q=>
  simp only[List.map_cons,List.nodup_cons]at d;unfold Hn;rw[List.find?_cons];rcases Zu.1 c with rfl|c;·simp[k]
  .have:key y≠i:=by rintro rfl;exact d.1 (Z3.2 ⟨_,c,k⟩)
   simp only[this,decide_false];exact q d.2 c
theorem Yn.look(h:Yn key Is w F m ad l)(i:Int):look i (Xy key ad l)=(Hn key i l).map λ_=>ptr (ad i):=by
 cases ha:Hn key i l with
 |some x=> obtain⟨c,rfl⟩:=Y3 ha;rw[Eh h.map.nodup (v:=ptr (ad (key x))) (Z3.2 ⟨x,c,rfl⟩)];rfl
 |none=>
  rw[Sp];·rfl
  .intro p d;obtain⟨x,c,rfl⟩:=Z3.1 d;exact Lz ha x c
theorem Yn.aB(B:Hf Is){S:Fp}(h:Yn key Is w F m ad l)(c:Qc S w w')(q:Jl F S):Yn key Is w' F m ad l:=by obtain⟨G,u,d,z⟩:=h.ex;exact⟨h.map.aB c (q m h.at_),h.bd.later c,h.at_,G,λx I=>B.aB (u x I) c (q.subL λk E=>(d _ k E).1),d,z⟩
theorem Yn.more{F':Fp}(h:Yn key Is w F m ad l)(q:∀k,F k->F' k)(B:Bd F' w):Yn key Is w F' m ad l:=by obtain⟨G,u,c,z⟩:=h.ex;exact⟨h.map,B,q m h.at_,G,u,λi k d=>⟨q k (c i k d).1,(c i k d).2⟩,z⟩
theorem Qao{x c y:X}(d:(l.map key).Nodup)(k:y∈Lg key c l):y=c\/(y∈l/\key y≠key c):=by grind [Lg]
theorem Yn.focus(V:Hf Is)(h:Yn key Is w F m ad l){x:X}(Z:x∈l):
  ∃G:Fp,Is w G (ad (key x)) x/\(∀k,G k->F k/\k≠m)/\
   ∀w' E,key E=key x->Is w' (Qn G w w') (ad (key x)) E->Qc G w w'->Yn key Is w' (Qn F w w') m ad (Lg key E l):=by
 obtain⟨G,U,d,B⟩:=h.ex;have hm:=h.map.lt;refine⟨G (key x),U x Z,d _,λw' E J K I=>⟨?_,h.bd.ext I,.inl h.at_,λi=>if i=key x then Qn (G (key x)) w w' else G i,?_,?_,?_⟩⟩;·rw[Qcy];exact h.map.aB I λc=>(d _ _ c).2 rfl
 .intro y R;rcases Qao (x:=x) h.nodup R with rfl|⟨R,q⟩
  .try dsimp only
   rw[J,if_pos rfl];exact K
  .try dsimp only
   rw[if_neg (by rw[<-J];exact q)];exact V.aB (U y R) I λk a b=>q ((B _ _ k a b).trans J.symm)
 .intro i k c;try dsimp only at c
  split at c
  .rcases c with c|c;·exact⟨.inl (d _ k c).1,(d _ k c).2⟩
   .exact⟨.inr c,by omega⟩
  .exact⟨.inl (d i k c).1,(d i k c).2⟩
 .intro i j k a b;try dsimp only at a b
  split at a<;>split at b;·rename_i u z;rw[u,z]
  .rename_i u z;rcases a with a|a;·rw[u];exact B _ _ k a b
   .have:=h.bd k (d j k b).1;omega
  .rename_i u z;rcases b with b|b;·rw[z];exact B _ _ k a b
   .have:=h.bd k (d i k a).1;omega
  .exact B _ _ k a b
theorem Yn.put(B:Hf Is)(h:Yn key Is w F m ad l){x:X}{N:Fp}{b:Nat}(J:Is w N b x)(z:Jl N F)(hn:Hn key (key x) l=none)
  (I:Xq w' m (Oi (key x) (ptr b) (Xy key ad l))) (E:Qc (λj=>j=m) w w'):
  Yn key Is w' (λk=>F k\/N k) m (λi=>if i=key x then b else ad i) (l++[x]):=by
 obtain⟨G,U,u,V⟩:=h.ex;have d:=Lz hn;refine⟨?_,?_,.inl h.at_,λi=>if i=key x then N else G i,?_,?_,?_⟩
 .rw[Gw (λp hp=>by obtain⟨y,c,rfl⟩:=Z3.1 hp;exact d y c)]at I;have:Xy key (λi=>if i=key x then b else ad i) (l++[x])=Xy key ad l++[(key x,ptr b)]:=by simp only[Xy,List.map_append,List.map_cons,List.map_nil,if_true];congr 1;refine List.map_congr_left λy c=>?_;rw[if_neg (d y c)]
  rw[this];exact I
 .exact λk Z=>Nat.lt_of_lt_of_le (Z.elim (h.bd k) (B.bd J k)) E.size
 .intro y c;rcases Zl.1 c with c|c
  .try dsimp only
   rw[if_neg (d y c),if_neg (d y c)];exact B.aB (U y c) E λk a e=>(u _ k a).2 e
  .obtain rfl:y=x:=by simpa using c
   try dsimp only
   rw[if_pos rfl,if_pos rfl];exact B.aB J E λk a e=>z k a (by subst e;exact h.at_)
 .intro i k q;try dsimp only at q
  split at q;·exact⟨.inr q,λe=>z k q (by subst e;exact h.at_)⟩
  .exact⟨.inl (u i k q).1,(u i k q).2⟩
 .intro i j k a b;try dsimp only at a b
  split at a<;>split at b;·rename_i K R;rw[K,R]
  .exact(z k a (u j k b).1).elim
  .exact(z k b (u i k a).1).elim
  .exact V _ _ k a b
def Kp(key:X->Int)(i:Int)(l:List X):List X:=l.filter λx=>!decide (key x=i)
theorem Yn.del(z:Hf Is)(h:Yn key Is w F m ad l)(i:Int)(B:Xq w' m (Vu i (Xy key ad l)))(d:Qc (λj=>j=m) w w'):Yn key Is w' F m ad (Kp key i l):=by
 obtain⟨G,q,c,u⟩:=h.ex;refine⟨?_,h.bd.later d,h.at_,G,?_,c,u⟩
 .have:Xy key ad (Kp key i l)=Vu i (Xy key ad l):=by simp only[Xy,Kp,Vu,List.filter_map];rfl
  rw[this];exact B
 .intro y E;exact z.aB (q y (List.mem_filter.1 E).1) d λk a e=>(c _ k a).2 e
theorem Yn.new(k:Xq w m [])(d:Bd F w)(c:F m):Yn key Is w F m ad ([]:List X):=⟨k,d,c,λ_ _=>False,nofun,nofun,nofun⟩
end
section
variable{w:World}{b:Nat}{t:TypeId}{v0 v1 v2 v3 v4 v5 v6 v7 v8 v9 v10 v11 v12 v13:Value}
theorem Jf(h:Qh w b #[v0] t):w.cell? ⟨b,0,none⟩=some v0:=by rw[h.cell];rfl
theorem Q4(h:Qh w b #[v0,v1] t):w.cell? ⟨b,0,none⟩=some v0/\w.cell? ⟨b,1,none⟩=some v1:=by simp only[h.cell];exact⟨rfl,rfl⟩
theorem L6(h:Qh w b #[v0,v1,v2] t):w.cell? ⟨b,0,none⟩=some v0/\w.cell? ⟨b,1,none⟩=some v1/\w.cell? ⟨b,2,none⟩=some v2:=by simp only[h.cell];exact⟨rfl,rfl,rfl⟩
theorem X9(h:Qh w b #[v0,v1,v2,v3] t):w.cell? ⟨b,0,none⟩=some v0/\w.cell? ⟨b,1,none⟩=some v1/\w.cell? ⟨b,2,none⟩=some v2/\w.cell? ⟨b,3,none⟩=some v3:=by simp only[h.cell];exact⟨rfl,rfl,rfl,rfl⟩
theorem Ym(h:Qh w b #[v0,v1,v2,v3,v4] t):w.cell? ⟨b,0,none⟩=some v0/\w.cell? ⟨b,1,none⟩=some v1/\w.cell? ⟨b,2,none⟩=some v2/\w.cell? ⟨b,3,none⟩=some v3/\w.cell? ⟨b,4,none⟩=some v4:=by simp only[h.cell];exact⟨rfl,rfl,rfl,rfl,rfl⟩
theorem Lf(h:Qh w b #[v0,v1,v2,v3,v4,v5] t):w.cell? ⟨b,0,none⟩=some v0/\w.cell? ⟨b,1,none⟩=some v1/\w.cell? ⟨b,2,none⟩=some v2/\w.cell? ⟨b,3,none⟩=some v3/\w.cell? ⟨b,4,none⟩=some v4/\w.cell? ⟨b,5,none⟩=some v5:=by simp only[h.cell];exact⟨rfl,rfl,rfl,rfl,rfl,rfl⟩
theorem Ja(h:Qh w b #[v0,v1,v2,v3,v4,v5,v6,v7] t):w.cell? ⟨b,0,none⟩=some v0/\w.cell? ⟨b,1,none⟩=some v1/\w.cell? ⟨b,2,none⟩=some v2/\w.cell? ⟨b,3,none⟩=some v3/\w.cell? ⟨b,4,none⟩=some v4/\w.cell? ⟨b,5,none⟩=some v5/\w.cell? ⟨b,6,none⟩=some v6/\w.cell? ⟨b,7,none⟩=some v7:=by simp only[h.cell];exact⟨rfl,rfl,rfl,rfl,rfl,rfl,rfl,rfl⟩
theorem Av(h:Qh w b #[v0,v1,v2,v3,v4,v5,v6,v7,v8] t):w.cell? ⟨b,0,none⟩=some v0/\w.cell? ⟨b,1,none⟩=some v1/\w.cell? ⟨b,2,none⟩=some v2/\w.cell? ⟨b,3,none⟩=some v3/\w.cell? ⟨b,4,none⟩=some v4/\w.cell? ⟨b,5,none⟩=some v5/\w.cell? ⟨b,6,none⟩=some v6/\w.cell? ⟨b,7,none⟩=some v7/\w.cell? ⟨b,8,none⟩=some v8:=by simp only[h.cell];exact⟨rfl,rfl,rfl,rfl,rfl,rfl,rfl,rfl,rfl⟩
end
section
variable{P:Program}{ops:Array Oper}{Q:Exit->Act->World->Prop}{C:World->Prop}
def Ld(P:Program)(ops:Array Oper)(Q:Exit->Act->World->Prop)(C:World->Prop)(c:Nat->Bool):Nat->Array Bool->Act->World->Prop
 |0,listed,a,w=>Region.ready .any ops listed=[]/\Q .normal a w
 |f+1,listed,a,w=>(Region.ready .any ops listed=[]->Q .normal a w)/\
  ∀i∈Region.ready .any ops listed,wpOp P ops Q i (λd w'=>(c i=false->C w')/\Ld P ops Q C c f (listed.setIfInBounds i true) d w') a w
theorem Pj{late:Nat->Bool}:∀(f:Nat)(c:Array Bool)(a:Act)(w),Ld P ops Q C late f c a w->wpAny P .any ops Q f c a w
 |0,_,_,_,h=>h
 |f+1,_,_,_,h=>⟨h.1,λi k=>wpOp_mono (λd w' h'=>Pj f _ d w' h'.2) (h.2 i k)⟩
theorem Pi{u:Nat->Bool}{i F:Nat}{oi:Oper}{v:Value}(hi:ops[i]? =some oi)(U:∀(j:Nat)(o:Oper)cs b,ops[j]? =some o->o.op≠ .select cs b)
  (hQ:∀c a w,Q (.panic c) (a.put oi.dst v) w->Q (.panic c) a w) (aa:∀j I,ops[j]? =some I->u j=true->Xs ops F j i=true):
  ∀(f:Nat)(d:Array Bool)(a:Act)(w),Xj ops d->
   (∀j I,ops[j]? =some I->j≠i->d.getD j true=false->(∀e∈I.after,Region.binds .any e=true->e.on≠i)->oi.apart ops I=true)->
   i∈Region.ready .any ops d->YieldsIf P ops C oi v a->C w->
   Ld P ops Q C u f (d.setIfInBounds i true) (a.put oi.dst v) w->Ld P ops Q C u (f+1) d a w:=by
 intro f;induction f with
 |zero=>
  intro d a w Z _ hr hy hC H;refine⟨λh=>(by rw[h]at hr;cases hr),λj hj=>?_⟩;by_cases q:j=i;·subst q;exact hy.wpOp hi hC ⟨λ_=>hC,H⟩
  .have:=ready_mono hj q;rw[H.1]at this;cases this
 |succ f ih=>
  intro d a w Z z hr hy hC H;have E:=(mem_ready.1 hr).1;refine⟨λh=>(by rw[h]at hr;cases hr),λj hj=>?_⟩;by_cases q:j=i;·subst q;exact hy.wpOp hi hC ⟨λ_=>hC,H⟩
  .have V:=H.2 j (ready_mono hj q);obtain⟨R,I,B,K⟩:=mem_ready.1 hj;have ag:u j=false:=by
    cases hl:u j with
    |false=>rfl
    |true=>
     have V:=Yw Z F j i (λo ho e he hb=>by
      have:o=I:=Zs (ho.symm.trans B);subst this;exact K e he hb) (aa j I B hl)
     rw[getD_both E]at V;cases V
   have ac:∀e∈I.after,Region.binds .any e=true->e.on≠i:=λe he hb ae=>by have V:=K e he hb;rw[ae,getD_both E]at V;cases V
   have h2:=wpOp_putIf (S:=C) B (z j I B q R ac) (λcs b=>U i oi cs b hi) (λcs b=>U j I cs b B) hQ hy V;have J:∀k ok,ops[k]? =some ok->k≠i->(d.setIfInBounds j true).getD k true=false->
     (∀e∈ok.after,Region.binds .any e=true->e.on≠i)->oi.apart ops ok=true:=λk ok hk af E ah=>by
    refine z k ok hk af ?_ ah;by_cases ab:j=k;·subst ab;exact R
    .rw[getD_set_ne true ab]at E;exact E
   refine wpOp_mono (λa' w' h3=>⟨h3.2.1,ih (d.setIfInBounds j true) a' w' (Z.set hj) J (ready_mono hr (Ne.symm q)) h3.1 (h3.2.1 ag) ?_⟩) h2;rw[Array.setIfInBounds_comm _ _ q];exact h3.2.2
def Qp(P:Program)(o:Oper)(a:Act)(C:World->Prop)(c:Act->Prop):Prop:=
 ∃v,(∀w,C w->(execOp a.eval o).run P w=.ok (.value v) w)/\c (a.put o.dst v)
def Yt(P:Program)(ops:Array Oper)(C:World->Prop)(R:Act->Prop):List Oper->Act->Prop
 |[],a=>R a
 |o::rest,a=>if Region.wanted o (yielded ops a.tmps)then Qp P o a C (Yt P ops C R rest)else Yt P ops C R rest (a.put o.dst undef)
theorem Qg{R:Act->Prop}{a:Act}(h:R a):Yt P ops C R [] a:=h
theorem Ql{R:Act->Prop}{a:Act}{o:Oper}{rest:List Oper}
  (h:∀K:Act->Prop,(∀a,Yt P ops C R rest a->K a)->if Region.wanted o (yielded ops a.tmps)then Qp P o a C K else K (a.put o.dst undef)):Yt P ops C R (o::rest) a:=
 h _ (λ_ h=>h)
def Jd(P:Program)(ops:Array Oper)(Q:Exit->Act->World->Prop)(C:World->Prop)(late:List Oper):List Oper->Act->World->Prop
 |[],a,w=>wpList P ops Q late a w
 |o::rest,a,w=>wpList P ops (Exit.then (λc w'=>C w'/\Jd P ops Q C late rest c w') Q) [o] a w
def Qvo(ops:Array Oper):Nat->Nat->Array Bool->Bool
 |0,_,listed=>(Region.ready .any ops listed).isEmpty
 |g+1,k,listed=>decide (Region.ready .any ops listed=[k])&&Qvo ops g (k+1) (listed.setIfInBounds k true)
theorem Ko{i:Nat}{o:Oper}{K:Act->World->Prop}{a:Act}{w}(k:ops[i]? =some o)(h:wpList P ops (Exit.then K Q) [o] a w):wpOp P ops Q i K a w:=by
 unfold wpOp;simp only[k];simp only[wpList]at h;split
 .rename_i c;simp only[c,if_true]at h;rcases h with h|⟨q,d,w1,u⟩
  .refine .inl ?_;unfold Oper.wp at*;generalize(execOp a.eval o).run P w=r at*;cases r with
   |ok n w'=> cases n<;>simp only[Oper.upon]at h|-<;>exact h
   |halt x w'=>cases x<;>simp only[Oper.upon]at h|-<;>exact h
  .exact .inr ⟨q,d,w1,u⟩
 .rename_i c;simp only[c]at h;exact h
def Qnb(ops:Array Oper)(g:Nat):Nat->Nat->Array Bool->Bool
 |0,k,listed=>Qvo ops g k listed
 |f+1,k,listed=>(Region.ready .any ops listed).contains k&&Region.free .any ops listed k&&((ops[k]?).map (·.dst.isSome)).getD false&&Qnb ops g f (k+1) (listed.setIfInBounds k true)
def Qox(ops:Array Oper)(m n c:Nat):Bool:=
 (List.range ops.size).all λt=>decide (t<c)||(List.range n).all λh=>decide (h<m)||Xs ops ops.size t h
def Qcz(ops:Array Oper)(n g h:Nat):Nat->Nat->Array Bool->Bool
 |0,k,listed=>Qnb ops g h k listed&&decide (k+h=n)
 |f+1,k,listed=>(Region.ready .any ops listed).contains k&&Region.free .any ops listed k&&((ops[k]?).map W9).getD false&&Qcz ops n g h f (k+1) (listed.setIfInBounds k true)
def heldB(ops:Array Oper)(m n c:Nat):Bool:=
 Region.noSelect ops&&decide (m<=n)&&decide (n<=c)&&decide (c<=ops.size)&&Qox ops m n c&&Qcz ops n (ops.size-n) (n-m) m 0 (Array.replicate ops.size false)
end
structure Qce{T:Type}(P:Program)(cells:T->List Value)(sz:Nat)(t e:TypeId)(bytes:Nat)(z0:T):Prop where
 ht:P.underlying t=some (.slice e)
 hi:∃i z,P.info? e=some i/\i.zero=some z/\i.size=sz/\i.bytes=bytes/\z.cells=(cells z0).toArray
 pos:0<sz
 hc:∀x,(cells x).length=sz
 one:∀x,∀u∈cells x,u.oneCell'=true
theorem Ee{P:Program}{e:TypeId}{q:Array Value}{sz bytes:Nat}(h:(P.info? e).map (λi=>(i.zero.map (λz=>z.cells),i.size,i.bytes))=some (some q,sz,bytes)):
  ∃i z,P.info? e=some i/\i.zero=some z/\i.size=sz/\i.bytes=bytes/\z.cells=q:=by
 cases k:P.info? e with
 |none=>rw[k]at h;cases h
 |some i=>
  rw[k]at h;simp only[Zn,Option.some.injEq,Prod.mk.injEq]at h;obtain⟨c,u,B⟩:=h;cases d:i.zero with
  |none=>rw[d]at c;cases c
  |some z=> rw[d]at c;exact⟨i,z,rfl,d,u,B,by simpa using c⟩
def Own{T:Type}(cells:T->List Value)(sz:Nat)(e:TypeId)(w:World)(v:Value)(l:List T):Prop:=
 w.ownsRow 0 e sz v l.length (Jm cells l)
section
variable{T:Type}{P:Program}{cells:T->List Value}{sz:Nat}{t e:TypeId}{bytes:Nat}{z0:T}
theorem Qc5(c:Qce P cells sz t e bytes z0)(l:List T):∀u∈Jm cells l,u.oneCell'=true:=by intro u d;obtain⟨x,_,k⟩:=List.mem_flatMap.1 d;exact c.one x u k
theorem Own.nil(cells:T->List Value)(sz:Nat)(e:TypeId)(w):Own cells sz e w (.slice none 0 0) ([]:List T):=⟨by simp[Jm],.inl ⟨rfl,rfl⟩⟩
theorem Own.aB{w w1}{v:Value}{l:List T}{S:Nat->Prop}(h:Own cells sz e w v l)(u:Qc S w w1)(q:∀k,v.ownBlock=some k->¬S k):Own cells sz e w1 v l:=by
 obtain⟨d,h⟩:=h;refine⟨d,?_⟩;rcases h with h|⟨g,cap,c,rfl,z,B,r⟩;·exact .inl h
 .exact .inr ⟨g,cap,c,rfl,z,u.heap B (q g rfl),r⟩
theorem Own.lt{w}{v:Value}{l:List T}(h:Own cells sz e w v l):∀k,v.ownBlock=some k->k<w.heap.size:=by
 obtain⟨_,h⟩:=h;rcases h with⟨rfl,_⟩|⟨g,cap,d,rfl,u,q,r⟩;·intro k c;cases c
 .intro k c;have:g=k:=by simpa[Value.ownBlock]using c
  subst this;exact(Z2.1 q).1
theorem Own.row(q:∀x,(cells x).length=sz){w}{v:Value}{l:List T}(h:Own cells sz e w v l):∃a cap,v=.slice a l.length cap/\l.length<=cap/\(a=none->cap=0)/\Kb cells sz w a l:=by
 obtain⟨_,h⟩:=h;rcases h with⟨rfl,K⟩|⟨g,cap,E,rfl,V,I,R,z,U,c⟩;·have:l=[]:=List.eq_nil_of_length_eq_zero K;subst this;exact⟨none,0,rfl,Zv _,λ_=>rfl,λi d=>absurd d (by simp)⟩
 .refine⟨some ⟨g,0,none⟩,cap,rfl,R,by simp,λi d=>⟨g,0,rfl,λj u B=>?_⟩⟩;have J:j<sz:=by have:=(Z1.1 B).1;rw[q]at this;exact this
  have k:(Jm cells l)[i*sz+j]? =some u:=by rw[Eb q l i j d J];exact B
  have Xg:i*sz+j<l.length*sz:=by have:(i+1)*sz<=l.length*sz:=Nat.mul_le_mul_right _ d;rw[Nat.add_mul]at this;omega
  rw[<-c,List.getElem?_take,if_pos Xg]at k;simp only[World.cell?,I,Nat.zero_add];simpa using k
theorem Own.cap{w}{v:Value}{l:List T}(h:Own cells sz e w v l):l.length<=maxLen:=by
 obtain⟨_,h⟩:=h;rcases h with⟨rfl,q⟩|⟨g,cap,k,rfl,z,B,E,d,u,c⟩;·rw[q];exact Nat.zero_le _
 .omega
theorem Qix(k:∀x,(cells x).length=sz){w}{g o:Nat}{l:List T}(h:Kb cells sz w (some ⟨g,o,none⟩) l)(B:0<sz):
  ∀j u,(Jm cells l)[j]? =some u->w.cell? ((⟨g,o,none⟩:Addr).add j)=some u:=by
 intro j u E;have J:j<l.length*sz:=by have:=(Z1.1 E).1;rwa[Yh k]at this
 have z:j/sz<l.length:=by rw[Nat.div_lt_iff_lt_mul B];exact J
 have K:=Nat.mod_lt j B;have d:=Nat.div_add_mod j sz;rw[Nat.mul_comm]at d;obtain⟨R,U,q,c⟩:=h (j/sz) z;simp only[Option.some.injEq,Addr.mk.injEq]at q;obtain⟨rfl,rfl,_⟩:=q;have:=c (j%sz) u (by
  rw[<-Eb k l (j/sz) (j%sz) z K,d];exact E)
 rw[Nat.add_assoc,d]at this;rw[<-this];unfold Addr.add;split;·rename_i I;rw[I];rfl
 .rfl
variable{ops:Array Oper}{rest:List Oper}{o:Oper}{a:Act}{w:World}{Q:Exit->Act->World->Prop}
theorem Jj(E:Qce P cells sz t e bytes z0)(J:o.guard=none)(s x:Operand)
  (ho:o.op=.call {callee:=.builtin .append,args:=#[s,x],argTypes:=#[t,t]})
  (v:Value)(l:List T)(hs:a.eval s=v)(u:Own cells sz e w v l)
  (sa:Option Addr)(c:Nat)(B:List T)(hx:a.eval x=.slice sa B.length c)(ae:sa=none->c=0)(I:Kb cells sz w sa B)
  (V:l.length+B.length<=maxLen)(q:(l.length+B.length)*bytes<=140737488355328)
  (h:∀d w',Own cells sz e w' d (l++B)->Qc (λk=>v.ownBlock=some k) w w'->(d.ownBlock=v.ownBlock\/d.ownBlock=some w.heap.size)->wpList P ops Q rest (a.put o.dst d) w'):
  wpList P ops Q (o::rest) a w:=by
 obtain⟨i,z,hi,hz,ab,Z,af⟩:=E.hi;have ac:z.cells.size=sz:=by rw[af];simp[E.hc]
 have fin:∀d w',w'.ownsRow 0 e sz d (l.length+B.length) (Jm cells l++Jm cells B)->w.grownBy w' v.ownBlock->(d.ownBlock=v.ownBlock\/d.ownBlock=some w.heap.size)->wpList P ops Q rest (a.put o.dst d) w':=by intro d w' K R U;refine h d w' ?_ ((Zg _ _).grown R λk hk=>.inl hk) U;unfold Own;rw[Ge,List.length_append];exact K
 by_cases aa:B=[]
 .subst aa;cases sa with
  |none=> obtain rfl:=ae rfl;refine wpList_append_own_none J s x t ho 0 e i sz E.ht hi v l.length (Jm cells l) hs u hx ?_;exact h v w (by simpa using u) (Zg _ _) (.inl rfl)
  |some ad=> refine wpList_append_own_at _ J s x t ho 0 e i z sz bytes E.ht hi hz ab Z ac E.pos v l.length (Jm cells l) hs u ad 0 c [] hx (by simp) (by simp) (by simp) (by simpa using V) (by simpa using q) (Nat.zero_le _) ?_;intro d w' K R _ U;exact fin d w' (by simpa[Jm]using K) R U
 .obtain⟨g,ag,rfl,_⟩:=I 0 (List.length_pos_iff.2 aa);refine wpList_append_own_at _ J s x t ho 0 e i z sz bytes E.ht hi hz ab Z ac E.pos v l.length (Jm cells l) hs u ⟨g,ag,none⟩ B.length c (Jm cells B) hx
   (Yh E.hc B) (Qix E.hc I E.pos) (Qc5 E B) V q (Nat.zero_le _) ?_
  intro d w' K R _ U;exact fin d w' K R U
theorem Dy(E:Qce P cells sz t e bytes z0)(ah:o.guard=none)(d s:Operand)
  (ho:o.op=.call {callee:=.builtin .copy,args:=#[d,s],argTypes:=#[t,t]})
  (dp sp:Option Addr)(u I B V:Nat)(hd:a.eval d=.slice dp u I)(hs:a.eval s=.slice sp B V)
  (g q:Nat)(L:List T)(te:TypeId)(hg:RowBlk cells w g L te)(c:List T)(hn:c.length=Nat.min B u)
  (ag:0<c.length->dp=some ⟨g,q*sz,none⟩)(ac:Kb cells sz w sp c)(J:q+c.length<=L.length)
  (h:∀w',RowBlk cells w' g (L.take q++c++L.drop (q+c.length)) te->Qc (λk=>k=g) w w'->wpList P ops Q rest (a.put o.dst (ZI c.length)) w'):
  wpList P ops Q (o::rest) a w:=by
 obtain⟨i,z,hi,hz,ai,aj,ak⟩:=E.hi;refine wpList_plain ah λK hK=>?_;by_cases h0:c=[]
 .subst h0;have aa:Nat.min B u=0:=by simpa using hn.symm
  have hl:∀(x:Addr),(loadCells x 0).run P w=.ok #[] w:=λx=>by simpa using run_loadCells_list (P:=P) w x [] (by simp)
  have U:(Builtin.copy_ #[t,t] o.type #[.slice dp u I,.slice sp B V]).run P w=.ok (goInt 0) w:=by cases dp<;>cases sp<;>simp[Builtin.copy_,run_underlying E.ht,Builtin.lenOf,Builtin.firstCells,sizeOf,typeInfo,hi,aa,storeCells,hl]
  unfold Oper.wp;simp[execOp,ho,resolve,invoke,builtin,hd,hs,U,Result.andThen];exact hK _ _ (h w (by simpa using hg) (Zg _ _))
 .have Z:=List.length_pos_iff.2 h0;obtain⟨g2,o2,rfl,_⟩:=ac 0 Z;obtain rfl:=ag Z;have R:=run_loadCells_list (P:=P) w ⟨g2,o2,none⟩ (Jm cells c) (Qix E.hc ac E.pos);rw[Yh E.hc]at R;have af:=Yh E.hc L;have ab:(q+c.length)*sz<=L.length*sz:=Nat.mul_le_mul_right _ J;rw[Nat.add_mul]at ab;have ae:=run_storeCells_at P g (q*sz) te (Jm cells c) 0 (Jm cells L).toArray w hg (by rw[Yh E.hc];simp[af];omega) (Qc5 E c);have U:(Builtin.copy_ #[t,t] o.type #[.slice (some ⟨g,q*sz,none⟩) u I,.slice (some ⟨g2,o2,none⟩) B V]).run P w=
    .ok (goInt c.length) (w.setRow g ((Jm cells L).take (q*sz)++Jm cells c++(Jm cells L).drop (q*sz+(Jm cells c).length)).toArray):=by
   simp only[Nat.add_zero]at ae;simp[Builtin.copy_,run_underlying E.ht,Builtin.lenOf,Builtin.firstCells,sizeOf,typeInfo,hi,ai,<-hn,R,ae]
  unfold Oper.wp;simp[execOp,ho,resolve,invoke,builtin,hd,hs,U,Result.andThen];refine hK _ _ (h _ ?_ ⟨rfl,rfl,rfl,by simp[World.setRow],λk _ hk=>setRow_other w g k _ hk⟩);have e1:(Jm cells L).take (q*sz)++Jm cells c++(Jm cells L).drop (q*sz+(Jm cells c).length)=Jm cells (L.take q++c++L.drop (q+c.length)):=by
   rw[Ge,Ge,Wn E.hc,Yh E.hc,<-Nat.add_mul];congr 1;have e3:Jm cells L=Jm cells (L.take (q+c.length))++Jm cells (L.drop (q+c.length)):=by rw[<-Ge,List.take_append_drop]
   rw[e3,List.drop_append,List.drop_of_length_le (by rw[Yh E.hc,List.length_take,Nat.min_eq_left J];exact Zv _),Yh E.hc,List.length_take,Nat.min_eq_left J];simp
  rw[<-List.append_assoc,e1];exact setRow_heap w g _ _ te _ hg
theorem Qal(d:∀x,(cells x).length=sz)(z0:T)(n:Nat):madeCells (cells z0).toArray (n*sz)=(Jm cells (List.replicate n z0)).toArray:=by
 apply Array.ext;·simp[madeCells,Yh d]
 .intro i I K;have u:i<n*sz:=by simpa[madeCells]using I
  have B:0<sz:=by
   rcases Nat.eq_zero_or_pos sz with h|h;·subst h;simp at u
   .exact h
  have J:i/sz<n:=by rw[Nat.div_lt_iff_lt_mul B];exact u
  have z:=Nat.mod_lt i B;have q:=Nat.div_add_mod i sz;rw[Nat.mul_comm]at q;have k:=Eb d (List.replicate n z0) (i/sz) (i%sz) (by simpa using J) z;rw[q]at k;simp only[List.getElem_replicate]at k;have c:i%sz<(cells z0).length:=by rw[d];exact z
  rw[List.getElem?_eq_getElem c]at k;have E:=(Z1.1 k).2;simp only[madeCells,Array.getElem_map,Array.getElem_range,List.size_toArray,d,List.getElem_toArray];rw[E];simp[c]
theorem Gi(c:Qce P cells sz t e bytes z0)(n:Nat)(J:bytes*n<=281474976710656)(K:n<=9223372036854775807)(w):
  (Instr.makeSlice t (ZI n) (ZI n)).run P w=.ok (.slice (some ⟨w.heap.size,0,none⟩) n n) (w.alloc (.cells (Jm cells (List.replicate n z0)).toArray e)):=by
 obtain⟨i,z,E,I,q,k,u⟩:=c.hi;have d:(i.bytes:Int)*(n:Int)<=281474976710656:=by
  have h:((bytes*n:Nat):Int)<=281474976710656:=by omega
  rw[k];rwa[Int.natCast_mul]at h
 have B:=run_make (P:=P) w t e i z c.ht E I .i64 .i64 n n (by omega) (by omega) d (by omega);simp only[Int.toNat_natCast]at B;rw[B,u,q,Qal c.hc]
end
section
open Go.Shelf
def Le(T:Fp)(W c:World):Prop:=∀b o,T b->W.heap[b]? =some o->(o.isCells=true\/o.isWalk=true)->c.heap[b]? =some o
theorem Le.trans{T:Fp}{A B C}(h:Le T A B)(k:Le T B C):Le T A C:=λb o d q c=>k b o d (h b o d q c) c
theorem Le.put{T:Fp}{w:World}(W:World)(l:Nat)(o u:Obj)(_:w.heap.size<=l)(h:W.heap[l]? =some o)(z:o.isCells=false)(B:o.isWalk=false):Le T W (W.putObj l u):=by
 intro b q _ c k;have d:b≠l:=by rintro rfl;rw[h]at c;obtain rfl:=Zs c;rw[z,B]at k;simp at k
 exact(World.grownBy.block (grownBy_putObj' W l u) b (Z2.1 c).1 (λe=>d (Zs e))).trans c
theorem Le.chg{T S:Fp}{W W'}(h:Qc S W W')(q:∀k,T k->S k->False):Le T W W':=λb o d c _=>h.heap c (λu=>q b d u)
theorem Le.blk{T:Fp}{W W'}{b:Nat}{cs:Array Value}{t:TypeId}(h:Le T W W')(d:Qh W b cs t)(c:T b):Qh W' b cs t:=h b _ c d (.inl rfl)
theorem Yx{β:Type}(B b:Nat)(f:β->Array Value)(t:TypeId):OwnFrom B (λs W=>Qh W b (f s) t):=λs W E z c q u=>by refine(q.block b c.lt (λe=>?_)).trans c;obtain⟨_,o,d,k⟩:=u b e.symm;rw[show W.heap[b]? =some (.cells (f s) t (0,0))from c]at d;obtain rfl:=Zs d;cases k
theorem Dr{β:Type}{B:Nat}{S:Fp}{w:World}(E:w.heap.size<=B):OwnFrom B (λ(_:β)W=>Qc S w W):=λs W z u q c d=>q.grown c λk e=>.inr (by have:=(d k e).1;omega)
theorem Vg{B:Nat}{S:Fp}{W W'}(h:Qc S W W')(d:∀k,S k->k<B):KeepsFrom B W W':=⟨h.size,λk o u c _=>h.heap c (λq=>by have:=d k q;omega)⟩
theorem Ud{S:Fp}{w W}{D:Nat}(h:Qc S w W)(c:w.heap.size<=D)(d:D<W.heap.size):Qc S w (W.putObj D (.deferred none)):=h.grown (grownBy_putObj' W D _) λk e=>.inr (by cases e;exact c)
theorem Uc{W}{b D:Nat}{cs:Array Value}{t:TypeId}(h:Qh W b cs t)(c:W.heap[D]? =some (.deferred (some []))):Qh (W.putObj D (.deferred none)) b cs t:=by refine(World.grownBy.block (grownBy_putObj' W D _) b h.lt (λe=>?_)).trans h;cases e;rw[show W.heap[b]? =some (.cells cs t (0,0))from h]at c;cases c
end
def inB(n a b:Int):Bool:=decide (a<=n/\n<=b)
def Yk.named(s:Yk):Bool:=inB s.id 1 65535&&inB s.par 0 65535&&decide (s.id≠s.par)
def Yk.kind(s:Yk):Int:=if s.leaf=false then 4 else if s.real.none=false/\s.share.none=false then 3 else if s.real.none=false then 1 else if s.share.none=false then 2 else 0
theorem Ac(n a b:Int)(w):ZW 247 #[ZI n,ZI a,ZI b] w (.bool (inB n a b)) λw'=>w=w':=by
 unfold inB;by_cases c:a<=n
 .by_cases k:n<=b
  .have d:decide (a<=n/\n<=b)=true:=by simp[c,k]
   rw[d];apply WH func247;exact WE
  .have d:decide (a<=n/\n<=b)=false:=by simp[k]
   rw[d];have k:b<n:=by omega
   apply WH func247;exact WE
 .have d:decide (a<=n/\n<=b)=false:=by simp[c]
  rw[d];have c:n<a:=by omega
  apply WH func247;exact WE
theorem Qu5(a b:Int):(a != b)=decide (a≠b):=by by_cases h:a=b<;>simp[h]
theorem Qlf(s:Yk)(w):ZW 219 #[.agg (Z4 s.leaf s)] w (.bool s.named) λw'=>Qc Qb w w':=by
 have c:=O (Ac s.id 1 65535);have k:=O (Ac s.par 0 65535);have d:s.named=(inB s.id 1 65535&&inB s.par 0 65535&&(s.id != s.par)):=by rw[Qu5];rfl
 generalize inB s.id 1 65535=x at c d;generalize inB s.par 0 65535=y at k d;rw[d];clear d;cases x with
 |false=> apply WH func219;go_wp2_with fail;apply Zz (c.o _);rintro w1 rfl;go_wp2;go_ret;refine⟨rfl,?_⟩;(exact Z0)
 |true=>
  cases y with
  |false=> apply WH func219;go_wp2_with fail;apply Zz (c.o _);rintro w1 rfl;go_wp2_with fail;apply Zz (k.o _);rintro w1 rfl;go_wp2;go_ret;refine⟨rfl,?_⟩;(exact Z0)
  |true=> apply WH func219;go_wp2_with fail;apply Zz (c.o _);rintro w1 rfl;go_wp2_with fail;apply Zz (k.o _);rintro w1 rfl;go_wp2;go_ret;refine⟨by simp,?_⟩;(exact Z0)
section
open Go.ChangeShapes Go.WideShapes Go.ChangeAt
theorem Qe7:laidOutB prog=true:=by kernel_rfl
theorem Qav:Tryz.checked.prog.funcNamed Rows.enginePiecesRow.func=some 6:=by kernel_rfl
theorem Qj2:joinedFacts prog 6 f6 Rows.enginePiecesSpec Rows.enginePiecesRow=true:=by
 unfold joinedFacts;simp only[Zw];repeat' (with_reducible apply Zt)
 all_goals as_aux_lemma=>kernel_rfl
end
end Go.Proofs.YtigcnnkagkbflaaGreat
