/- A part of the proof: no condition. -/
import Derived.Shelf.Sort.Plain
import Derived.Shelf.Slices.In.SortNone
import Derived.Test.YtigcnnkagkbflaaGreatProg
import Derived.Test.YtigcnnkagkbflaaGreatYq01
namespace Go.Proofs.YtigcnnkagkbflaaGreat
set_option linter.unusedVariables false
set_option maxRecDepth 100000
set_option maxHeartbeats 4000000
open Go.RowKit
open Go.Proofs.Tryz
section
open Go.Shelf
def Tryz.lays189_ren:Go.Shelf.Ren:=⟨fun|189=>86|125=>143|257=>142|128=>201|129=>202|294=>192|295=>193|296=>194|297=>195|298=>196|299=>197|216=>198|300=>199|301=>200|328=>236|329=>237|330=>238|331=>239|332=>240|215=>241|343=>256|n=>n,fun|28=>100|3=>3|46=>215|0=>0|51=>280|53=>22|4=>4|183=>273|182=>272|131=>115|5=>5|9=>9|218=>302|222=>305|228=>326|229=>60|n=>n,fun|n=>n⟩
theorem Tryz.lays189:Go.Proofs.Lays.n189 prog Tryz.lays189_ren:={
 mixed:=by kernel_rfl
 f125:=func143.trans (congrArg some (by kernel_rfl))
 f128:=func201.trans (congrArg some (by kernel_rfl))
 f129:=func202.trans (congrArg some (by kernel_rfl))
 f189:=func86.trans (congrArg some (by kernel_rfl))
 f215:=func241.trans (congrArg some (by kernel_rfl))
 f216:=func198.trans (congrArg some (by kernel_rfl))
 f257:=func142.trans (congrArg some (by kernel_rfl))
 f294:=func192.trans (congrArg some (by kernel_rfl))
 f295:=func193.trans (congrArg some (by kernel_rfl))
 f296:=func194.trans (congrArg some (by kernel_rfl))
 f297:=func195.trans (congrArg some (by kernel_rfl))
 f298:=func196.trans (congrArg some (by kernel_rfl))
 f299:=func197.trans (congrArg some (by kernel_rfl))
 f300:=func199.trans (congrArg some (by kernel_rfl))
 f301:=func200.trans (congrArg some (by kernel_rfl))
 f328:=func236.trans (congrArg some (by kernel_rfl))
 f329:=func237.trans (congrArg some (by kernel_rfl))
 f330:=func238.trans (congrArg some (by kernel_rfl))
 f331:=func239.trans (congrArg some (by kernel_rfl))
 f332:=func240.trans (congrArg some (by kernel_rfl))
 f343:=func256.trans (congrArg some (by kernel_rfl))
 t0:=underlying0
 a0:=Tryz.isAgg0
 z0:=Tryz.sizeOf0
 v0:=Tryz.zeroValue0
 t3:=underlying3
 a3:=Tryz.isAgg3
 z3:=Tryz.sizeOf3
 v3:=Tryz.zeroValue3
 t4:=underlying4
 a4:=Tryz.isAgg4
 z4:=Tryz.sizeOf4
 v4:=Tryz.zeroValue4
 t5:=underlying5
 a5:=Tryz.isAgg5
 z5:=Tryz.sizeOf5
 v5:=Tryz.zeroValue5
 t9:=underlying9
 a9:=Tryz.isAgg9
 z9:=Tryz.sizeOf9
 v9:=Tryz.zeroValue9
 t28:=underlying100
 a28:=Tryz.isAgg100
 z28:=Tryz.sizeOf100
 v28:=Tryz.zeroValue100
 t46:=underlying215
 a46:=Tryz.isAgg215
 z46:=Tryz.sizeOf215
 v46:=Tryz.zeroValue215
 t51:=underlying280
 a51:=Tryz.isAgg280
 z51:=Tryz.sizeOf280
 v51:=Tryz.zeroValue280
 t53:=underlying22
 a53:=Tryz.isAgg22
 z53:=Tryz.sizeOf22
 v53:=Tryz.zeroValue22
 t131:=underlying115
 a131:=Tryz.isAgg115
 z131:=Tryz.sizeOf115
 v131:=Tryz.zeroValue115
 t182:=underlying272
 a182:=Tryz.isAgg272
 z182:=Tryz.sizeOf272
 v182:=Tryz.zeroValue272
 t183:=underlying273
 a183:=Tryz.isAgg273
 z183:=Tryz.sizeOf273
 v183:=Tryz.zeroValue273
 t218:=underlying302
 a218:=Tryz.isAgg302
 z218:=Tryz.sizeOf302
 v218:=Tryz.zeroValue302
 t222:=underlying305
 a222:=Tryz.isAgg305
 z222:=Tryz.sizeOf305
 v222:=Tryz.zeroValue305
 t228:=underlying326
 a228:=Tryz.isAgg326
 z228:=Tryz.sizeOf326
 v228:=Tryz.zeroValue326
 t229:=underlying60
 a229:=Tryz.isAgg60
 z229:=Tryz.sizeOf60
 v229:=Tryz.zeroValue60}
open Go.Sort Go.RowKit in
theorem Tryz.slices_Sort_int(blk off cap:Nat)(zs:List Int)(w:World)(hH:Holds (Value.int .i64) w blk off zs.toArray)(hblk:blk<w.heap.size)(hsz:zs.length<4611686018427387904):
  Cl 86 #[.slice (some ⟨blk,off,none⟩) zs.length cap] w λe w'=>
   e=.returned (.tuple #[])/\∃n os,w'=grow (putRow (Value.int .i64) (Sort.ahead w n) blk off (zs.mergeSort λx y=>decide (x<=y)).toArray) os:=Any.slices_Sort_int Tryz.lays189 blk off cap zs w hH hblk hsz
open Go.RowKit Go.Sort in
theorem Tryz.slices_Sort_int_none(p:Option Addr)(cap:Nat)(w:World):
  ZW 86 #[.slice p 0 cap] w (.tuple #[]) λw'=>w'=w:=Any.slices_Sort_int_none Tryz.lays189 p cap w
section
variable{P:Program}{n:Nat}{w:World}{X:Type}
theorem Q0d{S:Fp}{A B}(h:Qc S A B){l:Nat}(o:Obj)(c:S l):Qc S A (B.putObj l o):=h.grown (grownBy_putObj' B l o) λk e=>.inl (by cases e;exact c)
theorem Q0n{g:Operand}{ps:Array Tmp}{u:Code}{Q:Exit->Act->World->Prop}{a:Act}(h1:1<=n){gf:Nat}{lb:Array Value}(hg:a.eval g=.func (.func gf) #[] lb)
  (eg:∀args w,(callFunc gf args).run P w=.ok (.enter gf args) w) (enc:X->Array Value) (ai:∀x,(enc x).size=ps.size) (U:Fp) (hU:∀k,U k->k<w.heap.size) (V R:World->Prop) (af:V w) (hV:∀A B,V A->Qc (λk=>¬U k) A B->V B)
  (ae:∀(l:Nat)(J:World->Prop)(W),Qc Qb w W->w.heap.size+2<=W.heap.size->(∀A B,J A->Qc (λk=>¬U k/\k≠w.heap.size/\k≠w.heap.size+1) A B->J B)->
   (∀x A,J A->YieldAt Fence.wide (n-1-1) P l (enc x) A λe B=>e=.returned (.bool true)/\J B/\Qc (λk=>U k\/k=w.heap.size+1) A B)->J W->
   CallsIn Fence.wide (n-1) P gf (#[.func (.yield l) #[] #[]]++lb) W λe Z=>(∃v,e=.returned v)/\J Z/\R Z)
  (E:∀(l:Nat)(x:X)(A),V A->u.wpIn (Fence.wide.inRound l) (n-1-1) P (λe _ B=>e=.normal/\V B/\Qc U A B) {tmps:=(ps.zip (enc x)).foldl (λt(p,v)=>t.setIfInBounds p v) a.tmps,defers:=[]} A)
  (I:∀Z z,R Z->V Z->Qc (λk=>k=w.heap.size+1) Z z->z.heap[w.heap.size]? =some (.deferred (some []))->Q .normal {a with defers:={target:=.collected w.heap.size,args:=#[]}::a.defers} z):
  (Code.rangeFunc g ps .skip u).wpIn Fence.wide n P Q a w:=by
 refine wpIn_rangeFunc λfn ah=>?_;obtain⟨d,q⟩:∃d:LoopState->Option Code->Loop,d=λst pe=>{state:=st,pending:=pe,fn,tmps:=a.tmps,params:=ps,assign:=.skip,body:=u,defers:=w.heap.size}:=⟨_,rfl⟩;obtain⟨W,hW⟩:∃W,(w.alloc (.deferred (some []))).alloc (.loop (d .ready none))=W:=⟨_,rfl⟩;have cW:Qc Qb w W:=by rw[<-hW];exact((Zg _ _).alloc _).alloc _
 have aj:W.heap.size=w.heap.size+2:=by rw[<-hW];simp
 have hL:W.heap[w.heap.size+1]? =some (.loop (d .ready none)):=by rw[<-hW];have:=World.alloc_heap_new (w.alloc (.deferred (some []))) (.loop (d .ready none));rwa[World.size_alloc]at this
 have hD:W.heap[w.heap.size]? =some (.deferred (some [])):=by
  have h2:Qc Qb (w.alloc (.deferred (some []))) W:=by rw[<-hW];exact(Zg _ _).alloc _
  exact h2.heap (World.alloc_heap_new w _) (λh=>h)
 refine⟨w.heap.size+1,[{target:=.collected w.heap.size,args:=#[]}],W,{target:=.fn (.func gf) lb,args:=#[.func (.yield (w.heap.size+1)) #[] #[]]},W,gf,#[.func (.yield (w.heap.size+1)) #[] #[]]++lb,W,?_,?_,?_,?_,λ_=>h1,?_⟩;·rw[<-hW,q];exact run_enterLoop_outer _ _ _ _ _
 .simp only[resolve,hg];simp[go_sem]
 .exact λ_ _=>trivial
 .simp[invoke,go_sem,eg]
 .refine(ae (w.heap.size+1) (λA=>V A/\A.heap[w.heap.size+1]? =some (.loop (d .ready none))/\A.heap[w.heap.size]? =some (.deferred (some []))) W cW (by omega) ?_ ?_ ⟨hV _ _ af (cW.mono λk h=>h.elim),hL,hD⟩).mono ?_;·rintro A B⟨v,K,hd⟩c;exact⟨hV A B v (c.sub λk h=>h.1),c.heap K (λh=>h.2.2 rfl),c.heap hd (λh=>h.2.1 rfl)⟩
  .rintro x A⟨v,K,hd⟩;have hy:=run_yield (P:=P) (args:=enc x) K (by rw[q];exact ai x);rw[q]at hy;refine⟨fn,_,.skip,u,hy,roundIn_of_wpIn ah (wpIn_skip ?_)⟩;clear hy;have hb:=run_beginRound (P:=P) K (by rw[q]);have c1:Qc (λk=>k=w.heap.size+1) A (A.putObj (w.heap.size+1) (.loop {d .ready none with state:=.busy})):=Q0d (Zg _ _) _ rfl;have Xg:w.heap.size+1<A.heap.size:=(Z2.1 K).1;have ab:(A.putObj (w.heap.size+1) (.loop {d .ready none with state:=.busy})).heap[w.heap.size+1]? =some (.loop {d .ready none with state:=.busy}):=World.putObj_heap_same Xg;have aa:=c1.heap hd (λh=>by omega);have v2:=hV _ _ v (c1.sub (F:=λk=>¬U k) λk h hu=>by have:=hU k hu;omega);refine⟨_,hb,?_⟩;generalize A.putObj (w.heap.size+1) (.loop {d .ready none with state:=.busy})=A2 at c1 ab aa v2;refine wpIn_mono (E _ x A2 v2) ?_;rintro e a3 B⟨rfl,v3,c3⟩;have ac:=c3.heap ab (λh=>by have:=hU _ h;omega);have ag:=c3.heap aa (λh=>by have:=hU _ h;omega);have hr:=run_endRound (P:=P) none ac;have c4:Qc (λk=>k=w.heap.size+1) B (B.putObj (w.heap.size+1) (.loop {d .ready none with state:=.ready,pending:=none})):=Q0d (Zg _ _) _ rfl;refine⟨_,_,hr,rfl,⟨hV _ _ v3 (c4.sub (F:=λk=>¬U k) λk h hu=>by have:=hU k hu;omega),?_,c4.heap ag (λh=>by omega)⟩,((c1.sub λk h=>.inr h).aA (c3.sub λk h=>.inl h)).aA (c4.sub λk h=>.inr h)⟩;have:=World.putObj_heap_same (w:=B) (o:=.loop {d .ready none with state:=.ready,pending:=none}) (Z2.1 ac).1;rw[q]at this|-;exact this
  .rintro e W2⟨⟨v,rfl⟩,⟨vv,K,hd⟩,r⟩;have hr:=run_endLoop (P:=P) K (by rw[q];simp);have c5:∀o,Qc (λk=>k=w.heap.size+1) W2 (W2.putObj (w.heap.size+1) (.loop o)):=λo=>Q0d (Zg _ _) _ rfl;refine⟨none,_,by rw[hr,q],?_⟩;exact I W2 _ r vv (c5 _) ((c5 _).heap hd (λh=>by omega))
end
end
end Go.Proofs.YtigcnnkagkbflaaGreat
