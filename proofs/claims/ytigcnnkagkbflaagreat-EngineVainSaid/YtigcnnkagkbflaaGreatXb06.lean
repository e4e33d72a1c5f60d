/- A part of the proof: no condition. -/
import Derived.Test.YtigcnnkagkbflaaGreatXb01
namespace Go.Proofs.YtigcnnkagkbflaaGreat
set_option linter.unusedVariables false
set_option maxRecDepth 100000
set_option maxHeartbeats 4000000
open Go.RowKit
open Go.Proofs.Tryz
abbrev Ya:=World→Fp→Prop
structure Uy(P:Ya):Prop where
 bd:∀{w F},P w F→Bd F w
 aB:∀{w w' F S},P w F→Qc S w w'→Jl F S→P w' F
 more:∀{w F F'},P w F→(∀k,F k→F' k)→Bd F' w→P w F'
def sep(P Q:Ya):Ya:=fun w F=>Bd F w∧∃G H,P w G∧Q w H∧Jl G H∧(∀k,G k→F k)∧∀k,H k→F k
def Oh:List Ya→Ya
 |[]=>fun w F=>Bd F w
 |P::L=>sep P (Oh L)
def Tv(b:Nat)(cs:Array Value)(t:TypeId):Ya:=fun w F=>Qh w b cs t∧F b∧Bd F w
def Qo8(m:Nat)(L:List (Int×Value)):Ya:=fun w F=>Xq w m L∧F m∧Bd F w
def Qvn(p:Prop):Ya:=fun w F=>p∧Bd F w
theorem Ks(b:Nat)(cs:Array Value)(t:TypeId):Uy (Tv b cs t) where
 bd:=fun h=>h.2.2
 aB:=fun h c k=>⟨c.blk h.1 (k b h.2.1),h.2.1,h.2.2.later c⟩
 more:=fun h q d=>⟨h.1,q b h.2.1,d⟩
theorem Qhd(m:Nat)(L:List (Int×Value)):Uy (Qo8 m L) where
 bd:=fun h=>h.2.2
 aB:=fun h c k=>⟨h.1.aB c (k m h.2.1),h.2.1,h.2.2.later c⟩
 more:=fun h q d=>⟨h.1,q m h.2.1,d⟩
theorem Qop(p:Prop):Uy (Qvn p) where
 bd:=fun h=>h.2
 aB:=fun h d _=>⟨h.1,h.2.later d⟩
 more:=fun h _ c=>⟨h.1,c⟩
theorem Qrl{P Q:Ya}(U:Uy P)(V:Uy Q):Uy (sep P Q) where
 bd:=fun h=>h.1
 aB:=fun⟨J,G,H,q,u,z,c,d⟩E K=>⟨J.later E,G,H,U.aB q E (K.subL c),V.aB u E (K.subL d),z,c,d⟩
 more:=fun⟨J,G,H,q,u,z,c,d⟩R B=>⟨B,G,H,q,u,z,fun k I=>R k (c k I),fun k I=>R k (d k I)⟩
theorem Qrk:Uy (Oh []) where
 bd:=fun h=>h
 aB:=fun h d _=>Bd.later h d
 more:=fun _ _ c=>c
theorem Je:∀{L:List Ya},(∀P∈L,Uy P)→Uy (Oh L)
 |[],_=>Qrk
 |P::L,h=>Qrl (h P (by simp)) (Je fun Q c=>h Q (by simp[c]))
theorem Qtk{X:Type}{P:X→Ya}(h:∀x,Uy (P x)):Uy (fun w F=>∃x,P x w F) where
 bd:=fun⟨x,c⟩=>(h x).bd c
 aB:=fun⟨x,c⟩k q=>⟨x,(h x).aB c k q⟩
 more:=fun⟨x,c⟩u d=>⟨x,(h x).more c u d⟩
theorem Hf.good{X:Type}{Is:World→Fp→Nat→X→Prop}(c:Hf Is)(b:Nat)(x:X):Uy (fun w F=>Is w F b x) where
 bd:=fun h=>c.bd h
 aB:=fun h k q=>c.aB h k q
 more:=fun h u d=>c.more h u d
theorem Qwp{X:Type}{Is:World→Fp→Nat→X→Prop}(c:∀b x,Uy (fun w F=>Is w F b x))(u:∀{w F b x},Is w F b x→F b):Hf Is where
 bd:=fun{w F b x}h=>(c b x).bd h
 own:=fun h=>u h
 aB:=fun{w w' F S b x}h k q=>(c b x).aB h k q
 more:=fun{w F B b x}h z d=>(c b x).more h z d
section
variable{w w' w1 w2:World}{F:Fp}
def Qga(P:Ya)(W:Ya→Ya)(w:World)(F:Fp):Prop:=
 ∃G:Fp,P w G∧(∀k,G k→F k)∧Bd F w∧∀w' Q,Qc G w w'→Q w' (Qn G w w')→W Q w' (Qn F w w')
theorem Qsn{P Q:Ya}(K:Uy Q)(h:sep P Q w F):Qga P (fun q=>sep q Q) w F:=by obtain⟨c,G,H,I,J,u,z,B⟩:=h;refine⟨G,I,z,c,fun w' q E R=>⟨c.ext E,Qn G w w',H,R,K.aB J E u.symm,Jl.extL u (c.sub B),fun k d=>Qn.mono z k d,fun k d=>.inl (B k d)⟩⟩
theorem Qp7{P Q R:Ya}{W:Ya→Ya}(V:Uy P)(h:sep P Q w F)(Z:∀{H:Fp},Q w H→Qga R W w H):Qga R (fun d=>sep P (W d)) w F:=by obtain⟨q,G,H,J,U,z,B,E⟩:=h;obtain⟨K,k1,I,k3,k4⟩:=Z U;refine⟨K,k1,fun k c=>E k (I k c),q,fun w' d u hp=>⟨q.ext u,G,Qn H w w',V.aB J u (z.subR I),k4 w' d u hp,Jl.extR z (q.sub B),fun k c=>.inl (B k c),fun k c=>Qn.mono E k c⟩⟩
theorem Xv:∀(i:Nat){L:List Ya}{P:Ya}{F:Fp},(∀Q∈L,Uy Q)→L[i]? =some P→Oh L w F→Qga P (fun c=>Oh (L.set i c)) w F
 |0,Q::L,P,F,hg,hi,h=>by
  obtain rfl:Q=P:=by simpa using hi
  exact Qsn (Je fun R d=>hg R (by simp[d])) h
 |i+1,Q::L,P,F,hg,hi,h=>Qp7 (W:=fun c=>Oh (L.set i c)) (hg Q (by simp)) h fun k=>Xv i (fun R d=>hg R (by simp[d])) (by simpa using hi) k
theorem Qga.get{P:Ya}{W:Ya→Ya}(h:Qga P W w F):∃G:Fp,P w G∧∀k,G k→F k:=by obtain⟨G,c,d,_⟩:=h;exact⟨G,c,d⟩
theorem J6{L:List Ya}{P:Ya}(c:∀Q∈L,Uy Q)(i:Nat)(d:L[i]? =some P)(h:Oh L w F):∃G:Fp,P w G∧∀k,G k→F k:=(Xv i c d h).get
theorem Qga.cells{b:Nat}{cs cs':Array Value}{t:TypeId}{W:Ya→Ya}(h:Qga (Tv b cs t) W w F)(E:Qc (fun k=>k=b) w w')(B:Qh w' b cs' t):W (Tv b cs' t) w' (Qn F w w')∧Qc F w w':=by obtain⟨G,⟨J,d,q⟩,u,K,z⟩:=h;have c:Qc G w w':=E.sub fun k I=>I▸d;exact⟨z w' _ c ⟨B,.inl d,q.ext c⟩,c.sub u⟩
theorem Y6{P:Ya}(h:P w F)(d:Bd F w):Oh [P] w F:=⟨d,F,fun _=>False,h,fun k c=>c.elim,fun k _ c=>c,fun k c=>c,fun k c=>c.elim⟩
theorem Q7{P:Ya}{L:List Ya}{G H:Fp}(c:P w G)(d:Oh L w H)(B:Jl G H)(q:∀k,G k→F k)(u:∀k,H k→F k)(z:Bd F w):Oh (P::L) w F:=⟨z,G,H,c,d,B,q,u⟩
theorem Qr(k:Nat):Qn Qb w w1 k↔w.heap.size≤k∧k<w1.heap.size:=⟨fun h=>h.elim (fun h=>h.elim) id,.inr⟩
end
section
open Go.Shelf
section
variable{P:Program}{n:Nat}{w:World}{X:Type}
theorem Qzz{S:Fp}{A B}(h:Qc S A B){l:Nat}(o:Obj)(c:S l):Qc S A (B.putObj l o):=h.grown (grownBy_putObj' B l o) fun k e=>.inl (by cases e;exact c)
theorem Qz5{g:Operand}{ps:Array Tmp}{u:Code}{Q:Exit→Act→World→Prop}{a:Act}(h1:1≤n){gf:Nat}{lb:Array Value}(hg:a.eval g=.func (.func gf) #[] lb)
  (eg:∀args w,(callFunc gf args).run P w=.ok (.enter gf args) w) (enc:X→Array Value) (ai:∀x,(enc x).size=ps.size) (U:Fp) (hU:∀k,U k→k<w.heap.size) (V R:World→Prop) (af:V w) (hV:∀A B,V A→Qc (fun k=>¬U k) A B→V B)
  (ae:∀(l:Nat)(J:World→Prop)(W),Qc Qb w W→w.heap.size+2≤W.heap.size→(∀A B,J A→Qc (fun k=>¬U k∧k≠w.heap.size∧k≠w.heap.size+1) A B→J B)→
   (∀x A,J A→YieldAt Fence.wide (n-1-1) P l (enc x) A fun e B=>e=.returned (.bool true)∧J B∧Qc (fun k=>U k∨k=w.heap.size+1) A B)→J W→
   CallsIn Fence.wide (n-1) P gf (#[.func (.yield l) #[] #[]]++lb) W fun e Z=>(∃v,e=.returned v)∧J Z∧R Z)
  (E:∀(l:Nat)(x:X)(A),V A→u.wpIn (Fence.wide.inRound l) (n-1-1) P (fun e _ B=>e=.normal∧V B∧Qc U A B) {tmps:=(ps.zip (enc x)).foldl (fun t(p,v)=>t.setIfInBounds p v) a.tmps,defers:=[]} A)
  (I:∀Z z,R Z→V Z→Qc (fun k=>k=w.heap.size+1) Z z→z.heap[w.heap.size]? =some (.deferred (some []))→Q .normal {a with defers:={target:=.collected w.heap.size,args:=#[]}::a.defers} z):
  (Code.rangeFunc g ps .skip u).wpIn Fence.wide n P Q a w:=by
 refine wpIn_rangeFunc fun fn ah=>?_;obtain⟨d,q⟩:∃d:LoopState→Option Code→Loop,d=fun st pe=>{state:=st,pending:=pe,fn,tmps:=a.tmps,params:=ps,assign:=.skip,body:=u,defers:=w.heap.size}:=⟨_,rfl⟩;obtain⟨W,hW⟩:∃W,(w.alloc (.deferred (some []))).alloc (.loop (d .ready none))=W:=⟨_,rfl⟩;have cW:Qc Qb w W:=by rw[←hW];exact((Zg _ _).alloc _).alloc _
 have aj:W.heap.size=w.heap.size+2:=by rw[←hW];simp
 have hL:W.heap[w.heap.size+1]? =some (.loop (d .ready none)):=by rw[←hW];have:=World.alloc_heap_new (w.alloc (.deferred (some []))) (.loop (d .ready none));rwa[World.size_alloc]at this
 have hD:W.heap[w.heap.size]? =some (.deferred (some [])):=by
  have h2:Qc Qb (w.alloc (.deferred (some []))) W:=by rw[←hW];exact(Zg _ _).alloc _
  exact h2.heap (World.alloc_heap_new w _) (fun h=>h)
 refine⟨w.heap.size+1,[{target:=.collected w.heap.size,args:=#[]}],W,{target:=.fn (.func gf) lb,args:=#[.func (.yield (w.heap.size+1)) #[] #[]]},W,gf,#[.func (.yield (w.heap.size+1)) #[] #[]]++lb,W,?_,?_,?_,?_,fun _=>h1,?_⟩;·rw[←hW,q];exact run_enterLoop_outer _ _ _ _ _
 ·simp only[resolve,hg];simp[go_sem]
 ·exact fun _ _=>trivial
 ·simp[invoke,go_sem,eg]
 ·refine(ae (w.heap.size+1) (fun A=>V A∧A.heap[w.heap.size+1]? =some (.loop (d .ready none))∧A.heap[w.heap.size]? =some (.deferred (some []))) W cW (by omega) ?_ ?_ ⟨hV _ _ af (cW.mono fun k h=>h.elim),hL,hD⟩).mono ?_;·rintro A B⟨v,K,hd⟩c;exact⟨hV A B v (c.sub fun k h=>h.1),c.heap K (fun h=>h.2.2 rfl),c.heap hd (fun h=>h.2.1 rfl)⟩
  ·rintro x A⟨v,K,hd⟩;have hy:=run_yield (P:=P) (args:=enc x) K (by rw[q];exact ai x);rw[q]at hy;refine⟨fn,_,.skip,u,hy,roundIn_of_wpIn ah (wpIn_skip ?_)⟩;clear hy;have hb:=run_beginRound (P:=P) K (by rw[q]);have c1:Qc (fun k=>k=w.heap.size+1) A (A.putObj (w.heap.size+1) (.loop {d .ready none with state:=.busy})):=Qzz (Zg _ _) _ rfl;have Xg:w.heap.size+1<A.heap.size:=(Z2.1 K).1;have ab:(A.putObj (w.heap.size+1) (.loop {d .ready none with state:=.busy})).heap[w.heap.size+1]? =some (.loop {d .ready none with state:=.busy}):=World.putObj_heap_same Xg;have aa:=c1.heap hd (fun h=>by omega);have v2:=hV _ _ v (c1.sub (F:=fun k=>¬U k) fun k h hu=>by have:=hU k hu;omega);refine⟨_,hb,?_⟩;generalize A.putObj (w.heap.size+1) (.loop {d .ready none with state:=.busy})=A2 at c1 ab aa v2;refine wpIn_mono (E _ x A2 v2) ?_;rintro e a3 B⟨rfl,v3,c3⟩;have ac:=c3.heap ab (fun h=>by have:=hU _ h;omega);have ag:=c3.heap aa (fun h=>by have:=hU _ h;omega);have hr:=run_endRound (P:=P) none ac;have c4:Qc (fun k=>k=w.heap.size+1) B (B.putObj (w.heap.size+1) (.loop {d .ready none with state:=.ready,pending:=none})):=Qzz (Zg _ _) _ rfl;refine⟨_,_,hr,rfl,⟨hV _ _ v3 (c4.sub (F:=fun k=>¬U k) fun k h hu=>by have:=hU k hu;omega),?_,c4.heap ag (fun h=>by omega)⟩,((c1.sub fun k h=>.inr h).aA (c3.sub fun k h=>.inl h)).aA (c4.sub fun k h=>.inr h)⟩;have:=World.putObj_heap_same (w:=B) (o:=.loop {d .ready none with state:=.ready,pending:=none}) (Z2.1 ac).1;rw[q]at this⊢;exact this
  ·rintro e W2⟨⟨v,rfl⟩,⟨vv,K,hd⟩,r⟩;have hr:=run_endLoop (P:=P) K (by rw[q];simp);have c5:∀o,Qc (fun k=>k=w.heap.size+1) W2 (W2.putObj (w.heap.size+1) (.loop o)):=fun o=>Qzz (Zg _ _) _ rfl;refine⟨none,_,by rw[hr,q],?_⟩;exact I W2 _ r vv (c5 _) ((c5 _).heap hd (fun h=>by omega))
end
end
end Go.Proofs.YtigcnnkagkbflaaGreat
