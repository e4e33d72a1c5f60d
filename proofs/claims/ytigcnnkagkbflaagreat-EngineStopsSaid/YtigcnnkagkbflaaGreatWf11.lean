/- A part of the proof: no condition. -/
import Derived.Test.YtigcnnkagkbflaaGreatWf01
namespace Go.Proofs.YtigcnnkagkbflaaGreat
set_option linter.unusedVariables false
set_option maxRecDepth 100000
set_option maxHeartbeats 4000000
open Go.RowKit
open Go.Proofs.Tryz
def inB(n a b:Int):Bool:=decide (a≤n∧n≤b)
def Yk.named(s:Yk):Bool:=inB s.id 1 65535&&inB s.par 0 65535&&decide (s.id≠s.par)
theorem Ac(n a b:Int)(w):ZW 247 #[ZI n,ZI a,ZI b] w (.bool (inB n a b)) fun w'=>w=w':=by
 unfold inB;by_cases c:a≤n
 ·by_cases k:n≤b
  ·have d:decide (a≤n∧n≤b)=true:=by simp[c,k]
   rw[d];go_enter func247,ntmps247;go_wp2;go_ret;exact⟨rfl,rfl⟩
  ·have d:decide (a≤n∧n≤b)=false:=by simp[k]
   rw[d];have k:b<n:=by omega
   go_enter func247,ntmps247;go_wp2;go_ret;exact⟨rfl,rfl⟩
 ·have d:decide (a≤n∧n≤b)=false:=by simp[c]
  rw[d];have c:n<a:=by omega
  go_enter func247,ntmps247;go_wp2;go_ret;exact⟨rfl,rfl⟩
theorem Qu5(a b:Int):(a != b)=decide (a≠b):=by by_cases h:a=b<;>simp[h]
theorem Qlf(s:Yk)(w):ZW 219 #[.agg (Z4 s.leaf s)] w (.bool s.named) fun w'=>Qc Qb w w':=by
 have c:=O (Ac s.id 1 65535);have k:=O (Ac s.par 0 65535);have d:s.named=(inB s.id 1 65535&&inB s.par 0 65535&&(s.id != s.par)):=by rw[Qu5];rfl
 generalize inB s.id 1 65535=x at c d;generalize inB s.par 0 65535=y at k d;rw[d];clear d;cases x with
 |false=> go_enter func219,ntmps219;go_wp2_with fail;refine Zz (c.o _) ?_;rintro w1 rfl;go_wp2;go_ret;refine⟨rfl,?_⟩;(exact Z0)
 |true=>
  cases y with
  |false=> go_enter func219,ntmps219;go_wp2_with fail;refine Zz (c.o _) ?_;rintro w1 rfl;go_wp2_with fail;refine Zz (k.o _) ?_;rintro w1 rfl;go_wp2;go_ret;refine⟨rfl,?_⟩;(exact Z0)
  |true=> go_enter func219,ntmps219;go_wp2_with fail;refine Zz (c.o _) ?_;rintro w1 rfl;go_wp2_with fail;refine Zz (k.o _) ?_;rintro w1 rfl;go_wp2;go_ret;refine⟨by simp,?_⟩;(exact Z0)
section
open Go.Shelf
section
variable{P:Program}{n:Nat}{w:World}{X:Type}
theorem Qz0{S:Fp}{A B}(h:Qc S A B){l:Nat}(o:Obj)(c:S l):Qc S A (B.putObj l o):=h.grown (grownBy_putObj' B l o) fun k e=>.inl (by cases e;exact c)
theorem Qz6{g:Operand}{ps:Array Tmp}{u:Code}{Q:Exit→Act→World→Prop}{a:Act}(h1:1≤n){gf:Nat}{lb:Array Value}(hg:a.eval g=.func (.func gf) #[] lb)
  (eg:∀args w,(callFunc gf args).run P w=.ok (.enter gf args) w) (enc:X→Array Value) (ai:∀x,(enc x).size=ps.size) (U:Fp) (hU:∀k,U k→k<w.heap.size) (V R:World→Prop) (af:V w) (hV:∀A B,V A→Qc (fun k=>¬U k) A B→V B)
  (ae:∀(l:Nat)(J:World→Prop)(W),Qc Qb w W→w.heap.size+2≤W.heap.size→(∀A B,J A→Qc (fun k=>¬U k∧k≠w.heap.size∧k≠w.heap.size+1) A B→J B)→
   (∀x A,J A→YieldAt Fence.wide (n-1-1) P l (enc x) A fun e B=>e=.returned (.bool true)∧J B∧Qc (fun k=>U k∨k=w.heap.size+1) A B)→J W→
   CallsIn Fence.wide (n-1) P gf (#[.func (.yield l) #[] #[]]++lb) W fun e Z=>(∃v,e=.returned v)∧J Z∧R Z)
  (E:∀(l:Nat)(x:X)(A),V A→u.wpIn (Fence.wide.inRound l) (n-1-1) P (fun e _ B=>e=.normal∧V B∧Qc U A B) {tmps:=(ps.zip (enc x)).foldl (fun t(p,v)=>t.setIfInBounds p v) a.tmps,defers:=[]} A)
  (I:∀Z z,R Z→V Z→Qc (fun k=>k=w.heap.size+1) Z z→z.heap[w.heap.size]? =some (.deferred (some []))→Q .normal {a with defers:={target:=.collected w.heap.size,args:=#[]}::a.defers} z):
  (Code.rangeFunc g ps .skip u).wpIn Fence.wide n P Q a w:=by
 refine wpIn_rangeFunc fun fn ah=>?_;obtain⟨d,q⟩:∃d:LoopState→Option Code→Loop,d=fun st pe=>{state:=st,pending:=pe,fn,tmps:=a.tmps,params:=ps,assign:=.skip,body:=u,defers:=w.heap.size}:=⟨_,rfl⟩;obtain⟨W,hW⟩:∃W,(w.alloc (.deferred (some []))).alloc (.loop (d .ready none))=W:=⟨_,rfl⟩;have cW:Qc Qb w W:=by rw[←hW];exact((Zg _ _).alloc _).alloc _
 have aj:W.heap.size=w.heap.size+2:=by rw[←hW];simp
 have hL:W.heap[w.heap.size+1]? =some (.loop (d .ready none)):=by rw[←hW];have:=World.alloc_heap_new (w.alloc (.deferred (some []))) (.loop (d .ready none));rwa[World.size_alloc]at this
 have hD:W.heap[w.heap.size]? =some (.deferred (some [])):=by
  have h2:Qc Qb (w.alloc (.deferred (some []))) W:=by rw[←hW];exact(Zg _ _).alloc _
  exact h2.heap (World.alloc_heap_new w _) (fun h=>h)
 refine⟨w.heap.size+1,[{target:=.collected w.heap.size,args:=#[]}],W,{target:=.fn (.func gf) lb,args:=#[.func (.yield (w.heap.size+1)) #[] #[]]},W,gf,#[.func (.yield (w.heap.size+1)) #[] #[]]++lb,W,?_,?_,?_,?_,fun _=>h1,?_⟩;·rw[←hW,q];exact run_enterLoop_outer _ _ _ _ _
 ·simp only[resolve,hg];simp[go_sem]
 ·exact fun _ _=>trivial
 ·simp[invoke,go_sem,eg]
 ·refine(ae (w.heap.size+1) (fun A=>V A∧A.heap[w.heap.size+1]? =some (.loop (d .ready none))∧A.heap[w.heap.size]? =some (.deferred (some []))) W cW (by omega) ?_ ?_ ⟨hV _ _ af (cW.mono fun k h=>h.elim),hL,hD⟩).mono ?_;·rintro A B⟨v,K,hd⟩c;exact⟨hV A B v (c.sub fun k h=>h.1),c.heap K (fun h=>h.2.2 rfl),c.heap hd (fun h=>h.2.1 rfl)⟩
  ·rintro x A⟨v,K,hd⟩;have hy:=run_yield (P:=P) (args:=enc x) K (by rw[q];exact ai x);rw[q]at hy;refine⟨fn,_,.skip,u,hy,roundIn_of_wpIn ah (wpIn_skip ?_)⟩;clear hy;have hb:=run_beginRound (P:=P) K (by rw[q]);have c1:Qc (fun k=>k=w.heap.size+1) A (A.putObj (w.heap.size+1) (.loop {d .ready none with state:=.busy})):=Qz0 (Zg _ _) _ rfl;have Xg:w.heap.size+1<A.heap.size:=(Z2.1 K).1;have ab:(A.putObj (w.heap.size+1) (.loop {d .ready none with state:=.busy})).heap[w.heap.size+1]? =some (.loop {d .ready none with state:=.busy}):=World.putObj_heap_same Xg;have aa:=c1.heap hd (fun h=>by omega);have v2:=hV _ _ v (c1.sub (F:=fun k=>¬U k) fun k h hu=>by have:=hU k hu;omega);refine⟨_,hb,?_⟩;generalize A.putObj (w.heap.size+1) (.loop {d .ready none with state:=.busy})=A2 at c1 ab aa v2;refine wpIn_mono (E _ x A2 v2) ?_;rintro e a3 B⟨rfl,v3,c3⟩;have ac:=c3.heap ab (fun h=>by have:=hU _ h;omega);have ag:=c3.heap aa (fun h=>by have:=hU _ h;omega);have hr:=run_endRound (P:=P) none ac;have c4:Qc (fun k=>k=w.heap.size+1) B (B.putObj (w.heap.size+1) (.loop {d .ready none with state:=.ready,pending:=none})):=Qz0 (Zg _ _) _ rfl;refine⟨_,_,hr,rfl,⟨hV _ _ v3 (c4.sub (F:=fun k=>¬U k) fun k h hu=>by have:=hU k hu;omega),?_,c4.heap ag (fun h=>by omega)⟩,((c1.sub fun k h=>.inr h).aA (c3.sub fun k h=>.inl h)).aA (c4.sub fun k h=>.inr h)⟩;have:=World.putObj_heap_same (w:=B) (o:=.loop {d .ready none with state:=.ready,pending:=none}) (Z2.1 ac).1;rw[q]at this⊢;exact this
  ·rintro e W2⟨⟨v,rfl⟩,⟨vv,K,hd⟩,r⟩;have hr:=run_endLoop (P:=P) K (by rw[q];simp);have c5:∀o,Qc (fun k=>k=w.heap.size+1) W2 (W2.putObj (w.heap.size+1) (.loop o)):=fun o=>Qz0 (Zg _ _) _ rfl;refine⟨none,_,by rw[hr,q],?_⟩;exact I W2 _ r vv (c5 _) ((c5 _).heap hd (fun h=>by omega))
end
end
end Go.Proofs.YtigcnnkagkbflaaGreat
