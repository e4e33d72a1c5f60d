/- A part of the proof: no condition. -/
import Derived.Test.YtnnhmpehkbihnaaGreatPs13
namespace Go.Proofs.YtnnhmpehkbihnaaGreat
set_option linter.unusedVariables false
set_option maxRecDepth 100000
set_option maxHeartbeats 4000000
open Go.RowKit
open Go.Proofs.Tryz
section
attribute [local go_sem] Qp
theorem famAt{w}{G:Fp}{m:Nat}{ad:Int→Nat}{l:List Jh}(d:Yn Jh.id Vj w G m ad l){i:Int}{x:Jh}(q:Hn Jh.id i l=some x):∃p H,Qh w (ad i) (Pp x p) 215∧Yv w H p x.run:=by obtain⟨h1,c⟩:=Y3 q;obtain⟨K,k,_⟩:=d.focus Vj.obj h1;obtain⟨p,H,a,b,_⟩:=k.ex;exact⟨p,H,c▸a,b⟩
theorem Quf{w}{F:Fp}{b:Nat}{f:Jc}(h:J0 w F b f)(i:Int):Cl 175 #[ptr b,.int .i64 i] w fun e w'=>e=.returned (.int .u64 (f.v i:Nat))∧w=w':=by
 obtain⟨m,ad,l,u,q,G,d⟩:=h.opn;have c:=O (Qb2 q d i);unfold Jc.v;rw[Jc.at_eq u d.nodup];cases k:Hn Jh.id i l with
 |none=> rw[k]at c;dsimp only[atP,Option.map_none,Option.getD_none]at c⊢;unfold ptr at*;clear h u q d k;go_enter func175,ntmps175;go_wp2_with fail;refine Zy c ?_;rintro w1 rfl;go_wp2;go_ret;exact⟨rfl,rfl⟩
 |some x=> obtain⟨p,H,z,_⟩:=famAt d k;obtain⟨B,a1,E,I⟩:=X9 z;rw[k]at c;dsimp only[atP,Zn,Option.getD_some]at c⊢;unfold ptr at*;clear h u q d k z;go_enter func175,ntmps175;go_wp2_with fail;refine Zy c ?_;rintro w1 rfl;go_wp2;go_ret;exact⟨rfl,rfl⟩
theorem Qjg{w}{F:Fp}{b:Nat}{f:Jc}(h:J0 w F b f)(i:Int):Cl 167 #[ptr b,.int .i64 i] w fun e w'=>e=.returned (.bool (f.up i))∧w=w':=by
 obtain⟨m,ad,l,u,q,G,d⟩:=h.opn;have c:=O (Qb2 q d i);unfold Jc.up;rw[Jc.at_eq u d.nodup];cases k:Hn Jh.id i l with
 |none=> rw[k]at c;dsimp only[atP,Option.map_none,Option.getD_none]at c⊢;unfold ptr at*;clear h u q d k;go_enter func167,ntmps167;go_wp2_with fail;refine Zy c ?_;rintro w1 rfl;go_wp2;go_ret;exact⟨rfl,rfl⟩
 |some x=> obtain⟨p,H,z,_⟩:=famAt d k;obtain⟨B,a1,E,I⟩:=X9 z;rw[k]at c;dsimp only[atP,Zn,Option.getD_some]at c⊢;unfold ptr at*;clear h u q d k z;go_enter func167,ntmps167;go_wp2_with fail;refine Zy c ?_;rintro w1 rfl;go_wp2;go_ret;exact⟨rfl,rfl⟩
theorem Qei(w):Cl 120 #[] w fun e w'=>∃b,e=.returned (ptr b)∧J0 w' (Qn Qb w w') b ⟨[],0⟩∧Qc Qb w w':=by
 have z:=@run_makeMap prog;have d:Hi (∀w',w'=(w.alloc (.map #[] 0)).alloc (.cells #[.map (some w.heap.size),.int .u64 0] 212)→J0 w' (Qn Qb w w') (w.heap.size+1) ⟨[],0⟩∧Qc Qb w w'):=O (by
  rintro w' rfl;have q:Qh ((w.alloc (.map #[] 0)).alloc (.cells #[.map (some w.heap.size),.int .u64 0] 212)) (w.heap.size+1) #[.map (some w.heap.size),.int .u64 0] 212:=Qh.new' _ _ (by simp);have c:Xq ((w.alloc (.map #[] 0)).alloc (.cells #[.map (some w.heap.size),.int .u64 0] 212)) w.heap.size []:=(Xq.new w).aB ((Zg Qb _).alloc _) (fun h=>h);refine⟨⟨w.heap.size,fun _=>0,[],List.Perm.refl _,?_⟩,((Zg _ _).alloc _).alloc _⟩;refine Q7 (G:=fun k=>k=w.heap.size+1) (H:=fun k=>k=w.heap.size) ⟨q,rfl,fun k e=>e▸q.lt⟩ (Y6 (Yn.new c (fun k e=>e▸c.lt) rfl) (fun k e=>e▸c.lt)) ?_ ?_ ?_ (fun k u=>u.elim (fun h=>h.elim) (fun h=>h.2));·rintro k rfl u;omega
  ·rintro k rfl;exact .inr ⟨by omega,q.lt⟩
  ·rintro k rfl;exact .inr ⟨by omega,c.lt⟩)
 unfold ptr;go_enter func120,ntmps120;go_wp2;go_ret;exact⟨_,rfl,d.o _ (by simp)⟩
def Pn(c:Qx)(vl:Value)(pf pt:Nat):Array Value:=#[.int .i64 c.par,.bool c.leaf,.bool c.aJ,.int .u64 c.total,vl,ptr pf,ptr pt,.int .i64 c.aM]
def Do(v:Value)(l:Kg):Ya:=fun w F=>(v=.pointer none∧l=none∧Bd F w)∨∃b,v=ptr b∧Ho w F b l
theorem Do.good(v:Value)(l:Kg):Uy (Do v l) where
 bd:=fun h=>by
  rcases h with⟨_,_,h⟩|⟨b,_,h⟩;·exact h
  ·exact Ho.obj.bd h
 aB:=fun h hc k=>by
  rcases h with⟨h1,c,h⟩|⟨b,h1,h⟩;·exact .inl ⟨h1,c,h.later hc⟩
  ·exact .inr ⟨b,h1,Ho.obj.aB h hc k⟩
 more:=fun h hs d=>by
  rcases h with⟨h1,c,h⟩|⟨b,h1,h⟩;·exact .inl ⟨h1,c,d⟩
  ·exact .inr ⟨b,h1,Ho.obj.more h hs d⟩
structure Dz where
 m:Nat
 ad:Int→Nat
 vl:Int→Value
 pf:Int→Nat
 pt:Int→Nat
def Sy(A:Dz)(c:Qx):List Ya:=
 [Tv (A.ad c.id) (Pn c (A.vl c.id) (A.pf c.id) (A.pt c.id)) 143,Do (A.vl c.id) c.limit,fun w F=>J0 w F (A.pf c.id) c.mem,fun w F=>Jg w F (A.pt c.id) c.tree]
theorem L9(A:Dz)(c:Qx):∀P∈Sy A c,Uy P:=by
 intro P d;simp only[Sy,Zu,List.not_mem_nil,or_false]at d;rcases d with rfl|rfl|rfl|rfl;·exact Ks _ _ _
 ·exact Do.good _ _
 ·exact J0.obj.good _ _
 ·exact Jg.obj.good _ _
def Um(A:Dz)(w:World)(F:Fp)(b:Nat)(c:Qx):Prop:=b=A.ad c.id∧Oh (Sy A c) w F
theorem Um.obj(A:Dz):Hf (Um A) where
 bd:=fun h=>(Je (L9 A _)).bd h.2
 own:=fun h=>by obtain⟨G,h1,c⟩:=J6 (L9 A _) 0 rfl h.2;rw[h.1];exact c _ h1.2.1
 aB:=fun h hc k=>⟨h.1,(Je (L9 A _)).aB h.2 hc k⟩
 more:=fun h hs d=>⟨h.1,(Je (L9 A _)).more h.2 hs d⟩
def Qsa(A:Dz)(b:Nat)(l:List Qx):List Ya:=[Tv b #[.map (some A.m)] 138,fun w G=>Yn Qx.id (Um A) w G A.m A.ad l]
theorem Vh(A:Dz)(b:Nat)(l:List Qx):∀P∈Qsa A b l,Uy P:=by
 intro P c;simp only[Qsa,Zu,List.not_mem_nil,or_false]at c;rcases c with rfl|rfl;·exact Ks _ _ _
 ·exact Sm (Um.obj A) _ _ _
def Qo(A:Dz)(w:World)(F:Fp)(b:Nat)(p:Qe):Prop:=∃l:List Qx,l.Perm p∧Oh (Qsa A b l) w F
theorem Qo.obj(A:Dz):Hf (Qo A) where
 bd:=fun⟨l,_,h⟩=>(Je (Vh A _ l)).bd h
 own:=fun⟨l,_,h⟩=>by obtain⟨G,h1,d⟩:=J6 (Vh A _ l) 0 rfl h;exact d _ h1.2.1
 aB:=fun⟨l,c,h⟩hc q=>⟨l,c,(Je (Vh A _ l)).aB h hc q⟩
 more:=fun⟨l,c,h⟩hs k=>⟨l,c,(Je (Vh A _ l)).more h hs k⟩
section
variable{A:Dz}{w:World}{F:Fp}{b:Nat}{p:Qe}
theorem Qo.coll(h:Qo A w F b p):∃l:List Qx,l.Perm p∧Qh w b #[.map (some A.m)] 138∧∃G,Yn Qx.id (Um A) w G A.m A.ad l:=by obtain⟨l,d,h⟩:=h;obtain⟨k,h0,_⟩:=J6 (Vh A b l) 0 rfl h;obtain⟨c,h1,_⟩:=J6 (Vh A b l) 1 rfl h;exact⟨l,d,h0.1,c,h1⟩
theorem Qo.nodup(h:Qo A w F b p):(p.map Qx.id).Nodup:=by obtain⟨l,d,_,G,c⟩:=h.coll;exact((d.map _).nodup_iff).1 c.nodup
theorem Qo.blk(h:Qo A w F b p):Qh w b #[.map (some A.m)] 138:=by obtain⟨l,d,c,_⟩:=h.coll;exact c
theorem Qe.at_eq{l:List Qx}(c:l.Perm p)(hn:(l.map Qx.id).Nodup)(i:Int):p.at i=Hn Qx.id i l:=(Mz c hn i).symm
theorem Qe.aE{i:Int}{c:Qx}(h:p.at i=some c):c∈p∧c.id=i:=Y3 (key:=Qx.id) h
theorem Qe.at_of{c:Qx}(hn:(p.map Qx.id).Nodup)(h:c∈p):p.at c.id=some c:=Ls hn h rfl
def pkV(A:Dz)(p:Qe)(i:Int):Value:=match p.at i with
 |none=>.pointer none
 |some _=>ptr (A.ad i)
theorem Qjs(w):(zeroValue 139).run prog w=.ok (.pointer none) w:=by go_simp
theorem Qo.look1(h:Qo A w F b p)(i:Int):(Instr.lookup 136 (.map (some A.m)) (.int .i64 i) false).run prog w=.ok (pkV A p i) w:=by
 obtain⟨l,k,u,G,c⟩:=h.coll;have d:=Du (P:=prog) c.map underlying136 underlying3 (Qjs w) i;rw[c.look i,←Qe.at_eq k c.nodup]at d;have q:((p.at i).map fun _=>ptr (A.ad i)).getD (.pointer none)=pkV A p i:=by unfold pkV;cases p.at i<;>rfl
 rw[q]at d;exact d
theorem Qo.part(h:Qo A w F b p){c:Qx}(hc:c∈p)(i:Nat){R:Ya}(hi:(Sy A c)[i]? =some R):
  ∃G:Fp,R w G∧(∀k,G k→F k)∧∀w' c' Q,c'.id=c.id→Sy A c'=(Sy A c).set i Q→Q w' (Qn G w w')→Qc G w w'→Qo A w' (Qn F w w') b (p.set c')∧Qc F w w':=by
 obtain⟨l,U,h⟩:=h;obtain⟨H,h1,J,_,h3⟩:=Xv 1 (Vh A b l) rfl h;have u:c∈l:=U.mem_iff.2 hc;obtain⟨K,k1,k2,k3⟩:=h1.focus (Um.obj A) u;obtain⟨G,g1,I,_,g3⟩:=Xv i (L9 A c) hi k1.2;refine⟨G,g1,fun k z=>J k (k2 k (I k z)).1,fun w' c' Q q hs hq d=>?_⟩;have e1:Um A w' (Qn K w w') (A.ad c.id) c':=⟨by rw[q],by rw[hs];exact g3 w' Q d hq⟩;have E:Qc K w w':=d.sub I;have V:=k3 w' c' q e1 E;have B:Qc H w w':=E.sub fun k z=>(k2 k z).1;have Z:=h3 w' (fun w G=>Yn Qx.id (Um A) w G A.m A.ad (Lg Qx.id c' l)) B V;exact⟨⟨Lg Qx.id c' l,U.map _,Z⟩,B.sub J⟩
theorem Qo.cells(h:Qo A w F b p){c:Qx}(hc:c∈p):Qh w (A.ad c.id) (Pn c (A.vl c.id) (A.pf c.id) (A.pt c.id)) 143:=by obtain⟨G,h1,_⟩:=h.part hc 0 rfl;exact h1.1
theorem Qo.setC(h:Qo A w F b p){c c':Qx}(hc:c∈p)(d:c'.id=c.id)(hl:c'.limit=c.limit)(I:c'.mem=c.mem)(ht:c'.tree=c.tree){w'}
  (q:Qc (fun k=>k=A.ad c.id) w w')(B:Qh w' (A.ad c.id) (Pn c' (A.vl c.id) (A.pf c.id) (A.pt c.id)) 143):Qo A w' (Qn F w w') b (p.set c')∧Qc F w w':=by
 obtain⟨G,h1,J,z⟩:=h.part hc 0 rfl;have u:Qc G w w':=q.sub fun k E=>E▸h1.2.1;refine z w' c' (Tv (A.ad c'.id) (Pn c' (A.vl c'.id) (A.pf c'.id) (A.pt c'.id)) 143) d ?_ ?_ u;·unfold Sy;rw[hl,I,ht,d];rfl
 ·rw[d];exact⟨B,.inl h1.2.1,h1.2.2.ext u⟩
theorem Qo.famOf(h:Qo A w F b p){c:Qx}(hc:c∈p):
  ∃G:Fp,J0 w G (A.pf c.id) c.mem∧(∀k,G k→F k)∧∀w' f,J0 w' (Qn G w w') (A.pf c.id) f→Qc G w w'→Qo A w' (Qn F w w') b (p.set {c with mem:=f})∧Qc F w w':=by
 obtain⟨G,h1,q,u⟩:=h.part hc 2 rfl;exact⟨G,h1,q,fun w' f hf d=>u w' {c with mem:=f} _ rfl rfl hf d⟩
theorem Qo.treeOf(h:Qo A w F b p){c:Qx}(hc:c∈p):
  ∃G:Fp,Jg w G (A.pt c.id) c.tree∧(∀k,G k→F k)∧∀w' t,Jg w' (Qn G w w') (A.pt c.id) t→Qc G w w'→Qo A w' (Qn F w w') b (p.set {c with tree:=t})∧Qc F w w':=by
 obtain⟨G,h1,q,u⟩:=h.part hc 3 rfl;exact⟨G,h1,q,fun w' t hf d=>u w' {c with tree:=t} _ rfl rfl hf d⟩
theorem Qo.limOf(h:Qo A w F b p){c:Qx}(hc:c∈p):
  ∃G:Fp,Do (A.vl c.id) c.limit w G∧(∀k,G k→F k)∧∀w' t,Do (A.vl c.id) t w' (Qn G w w')→Qc G w w'→Qo A w' (Qn F w w') b (p.set {c with limit:=t})∧Qc F w w':=by
 obtain⟨G,h1,q,u⟩:=h.part hc 1 rfl;exact⟨G,h1,q,fun w' t hf d=>u w' {c with limit:=t} _ rfl rfl hf d⟩
end
end
section
variable{n:Nat}{P:Program}{ops:Array Oper}{Q:Exit→Act→World→Prop}{C:World→Prop}
theorem Nx{n m:Nat}{l:Nat}{f:FuncId}{q:Array Value}{d k:Code}{w}{R:Ending→World→Prop}(h:RoundIn Fence.wide n P l f q d k w R):RoundIn Fence.wide m P l f q d k w R:=
 ⟨h.1,fun c cs _=>h.2 c cs (room_wide _)⟩
theorem Qf6{n m:Nat}{l:Nat}{d:Array Value}{W}{R:Ending→World→Prop}(h:YieldAt Fence.wide n P l d W R):YieldAt Fence.wide m P l d W R:=by obtain⟨u,q,c,k,h1,z⟩:=h;exact⟨u,q,c,k,h1,Nx z⟩
theorem Sd{i:Nat}{o:Oper}{v:Value}{a:Act}(hi:ops[i]? =some o)(q:YieldsIf P ops C o v a)
  {K:Act→World→Prop}{w}(d:C w)(h:K (a.put o.dst v) w):wpOpIn Fence.wide n P ops Q i K a w:=by
 unfold Go.wpOpIn;simp only[hi];rcases q with⟨c,k⟩|⟨c,rfl⟩;·simp only[c,if_true,Oper.wpIn];refine⟨fun f _=>trivial,?_⟩;rw[show Fence.wide.round=none from rfl,Oper.semAt_none,k w d];exact h
 ·simp only[c,Bool.false_eq_true,if_false];exact⟨fun f _=>trivial,h⟩
theorem Qjo{j:Nat}{k B:Oper}{v:Value}(hj:ops[j]? =some B)(U:k.apart ops B=true)
  (V:∀cs b,k.op≠ .select cs b)(Z:∀cs b,B.op≠ .select cs b)
  (R:∀c a w,Q (.panic c) (a.put k.dst v) w→Q (.panic c) a w){K:Act→World→Prop}{a:Act}{w}
  (z:YieldsIf P ops C k v a) (h:wpOpIn Fence.wide n P ops Q j K (a.put k.dst v) w):
  wpOpIn Fence.wide n P ops Q j (fun a' w'=>YieldsIf P ops C k v a'∧K (a'.put k.dst v) w') a w:=by
 obtain⟨h1,E,h3⟩:=Oper.apart_spec U;have aB:∀(a:Act),YieldsIf P ops C k v a→∀u,YieldsIf P ops C k v (a.put B.dst u):=fun a z u=>
  z.of_same (execOp_put k V a B.dst u h3) (wanted_put k a B.dst u h3)
 have I:∀d,YieldsIf P ops C k v {a with defers:=d::a.defers}:=fun d=>z.of_same rfl rfl;unfold wpOpIn at*;simp only[hj]at*;rw[wanted_put B a k.dst v h1]at h;split
 ·rename_i hw;simp only[hw,if_true]at h;unfold Oper.wpIn at*;refine⟨fun f _=>trivial,?_⟩;have h:=h.2;rw[show Fence.wide.round=none from rfl,Oper.semAt_none,execOp_put B Z a k.dst v h1]at h;rw[show Fence.wide.round=none from rfl,Oper.semAt_none];generalize(execOp a.eval B).run P w=r at*;cases r with
  |ok x w'=>
   cases x<;>simp only[Oper.uponIn]at h⊢;case value u=>exact⟨aB a z u,by rw[←Act.put_comm a v u E];exact h⟩
   case skip=>exact⟨aB a z _,by rw[←Act.put_comm a v undef E];exact h⟩
   case defer d=> refine⟨aB _ (I d) _,?_⟩;rw[←Act.put_comm _ v undef E,←Act.put_defers];exact h
   case enter f args=>
    refine⟨h.1,CallsIn.mono h.2 fun e J q=>?_⟩;cases e with
    |returned u=>exact⟨aB a z u,by rw[←Act.put_comm a v u E];exact q⟩
    |panicked c=>exact R _ _ _ q
    |outgrown=>exact q
   case row row args=>exact⟨h.1,RowsIn.mono h.2 fun u J q=>⟨aB a z u,by rw[←Act.put_comm a v u E];exact q⟩⟩
   case round l f tmps assign body=>
    refine⟨h.1,RoundIn.mono h.2 fun e J q=>?_⟩;cases e with
    |returned u=>exact⟨aB a z u,by rw[←Act.put_comm a v u E];exact q⟩
    |panicked c=>exact R _ _ _ q
    |outgrown=>exact q
  |halt x w'=> cases x<;>simp only[Oper.uponIn]at h⊢;case panic u=>exact R _ _ _ h
 ·rename_i hw;simp only[hw]at h;exact⟨fun f _=>trivial,aB a z _,by rw[←Act.put_comm a v undef E];exact h.2⟩
theorem Qca{i:Nat}{o:Oper}{K:Act→World→Prop}{a:Act}{w}(h0:ops[i]? =some o)(h:wpListIn Fence.wide n P ops (Exit.then K Q) [o] a w):wpOpIn Fence.wide n P ops Q i K a w:=by
 unfold wpOpIn;simp only[h0];simp only[wpListIn]at h;split
 ·rename_i c;simp only[c,if_true]at h;unfold Oper.wpIn at*;refine⟨h.1,?_⟩;have h:=h.2;generalize(o.semAt Fence.wide.round a.eval).run P w=r at*;cases r with
  |ok x w'=>cases x<;>simp only[Oper.uponIn]at h⊢<;>exact h
  |halt x w'=>cases x<;>simp only[Oper.uponIn]at h⊢<;>exact h
 ·rename_i c;simp only[c]at h;exact h
variable{r:List (Bool×Oper)}{a:Act}{o:Oper}{w:World}
end
section
variable{P:Program}{ops:Array Oper}{Q:Exit→Act→World→Prop}
def Qb7(P:Program)(ops:Array Oper)(Q:Exit→Act→World→Prop)(late:Nat→Bool):Nat→Array Bool→Act→World→Prop
 |0,listed,a,w=>Region.ready .any ops listed=[]∧Q .normal a w
 |f+1,listed,a,w=>(Region.ready .any ops listed=[]→Q .normal a w)∧
  ∀i∈Region.ready .any ops listed,wpOp P ops Q i (fun c w'=>(late i=false→w'=w)∧Qb7 P ops Q late f (listed.setIfInBounds i true) c w') a w
theorem Qb9{late:Nat→Bool}:∀(f:Nat)(c:Array Bool)(a:Act)(w),Qb7 P ops Q late f c a w→wpAny P .any ops Q f c a w
 |0,_,_,_,h=>h
 |f+1,_,_,_,h=>⟨h.1,fun i hi=>wpOp_mono (fun d w' h'=>Qb9 f _ d w' h'.2) (h.2 i hi)⟩
theorem Bk{late:Nat→Bool}{D:World→Prop}{i F:Nat}{Z:Oper}{v:Value}(hi:ops[i]? =some Z)(R:∀(j:Nat)(o:Oper)cs b,ops[j]? =some o→o.op≠ .select cs b)
  (hQ:∀c a w,Q (.panic c) (a.put Z.dst v) w→Q (.panic c) a w):
  ∀(f:Nat)(d:Array Bool)(a:Act)(w),Xj ops d→
   ((∀w',D w')∨∀j I,ops[j]? =some I→late j=true→d.getD j true=false→Xs ops F j i=true)→
   (∀j I,ops[j]? =some I→j≠i→d.getD j true=false→(∀e∈I.after,Region.binds .any e=true→e.on≠i)→Z.apart ops I=true)→
   i∈Region.ready .any ops d→YieldsIf P ops D Z v a→D w→
   Qb7 P ops Q late f (d.setIfInBounds i true) (a.put Z.dst v) w→Qb7 P ops Q late (f+1) d a w:=by
 intro f;induction f with
 |zero=>
  intro d a w U _ _ hr hy V H;refine⟨fun h=>(by rw[h]at hr;cases hr),fun j hj=>?_⟩;by_cases u:j=i;·subst u;exact hy.wpOp hi V ⟨fun _=>rfl,H⟩
  ·have:=ready_mono hj u;rw[H.1]at this;cases this
 |succ f ih=>
  intro d a w U q z hr hy V H;have ac:=(mem_ready.1 hr).1;refine⟨fun h=>(by rw[h]at hr;cases hr),fun j hj=>?_⟩;by_cases u:j=i;·subst u;exact hy.wpOp hi V ⟨fun _=>rfl,H⟩
  ·have h1:=H.2 j (ready_mono hj u);obtain⟨B,I,E,K⟩:=mem_ready.1 hj;have ag:(∀w',D w')∨late j=false:=by
    rcases q with V|q;·exact .inl V
    ·refine .inr ?_;cases hl:late j with
     |false=>rfl
     |true=>
      have h1:=Yw U F j i (fun o ho e he hb=>by
       have:o=I:=Zs (ho.symm.trans E);subst this;exact K e he hb) (q j I E hl B)
      rw[getD_both ac]at h1;cases h1
   have ab:∀e∈I.after,Region.binds .any e=true→e.on≠i:=fun e he hb ae=>by have h1:=K e he hb;rw[ae,getD_both ac]at h1;cases h1
   have h2:=wpOp_putIf (S:=D) E (z j I E u B ab) (fun cs b=>R i Z cs b hi) (fun cs b=>R j I cs b E) hQ hy h1;have J:∀k,(d.setIfInBounds j true).getD k true=false→d.getD k true=false:=fun k h=>by
    by_cases aa:j=k;·subst aa;exact B
    ·rwa[getD_set_ne true aa]at h
   refine wpOp_mono (fun a' w' h3=>⟨h3.2.1,ih (d.setIfInBounds j true) a' w' (U.set hj) ?_ ?_ (ready_mono hr (Ne.symm u)) h3.1 ?_ ?_⟩) h2;·exact q.imp id fun h k ok hk hl hu=>h k ok hk hl (J k hu)
   ·exact fun k ok hk af hu ah=>z k ok hk af (J k hu) ah
   ·rcases ag with h|h;·exact h w'
    ·rw[h3.2.1 h];exact V
   ·rw[Array.setIfInBounds_comm _ _ u];exact h3.2.2
def Kl(P:Program)(ops:Array Oper)(Q:Exit→Act→World→Prop):List (Nat×Oper)→Act→World→Prop
 |[],a,w=>Q .normal a w
 |(0,o)::r,a,w=>if Region.wanted o (yielded ops a.tmps)then∃v,(execOp a.eval o).run P w=.ok (.value v) w∧Kl P ops Q r (a.put o.dst v) w else Kl P ops Q r (a.put o.dst undef) w
 |(1,o)::r,a,w=>if Region.wanted o (yielded ops a.tmps)then∃v,(∀w',(execOp a.eval o).run P w'=.ok (.value v) w')∧Kl P ops Q r (a.put o.dst v) w else Kl P ops Q r (a.put o.dst undef) w
 |(_+2,o)::r,a,w=>wpList P ops (Exit.then (fun c w'=>Kl P ops Q r c w') Q) [o] a w
def Jk(ops:Array Oper):List (Nat×Nat)→List (Nat×Oper)
 |[]=>[]
 |(b,k)::r=>match ops[k]? with
  |some o=>(b,o)::Jk ops r
  |none=>Jk ops r
theorem Kq{b k:Nat}{r:List (Nat×Nat)}{o:Oper}(h:ops[k]? =some o):Jk ops ((b,k)::r)=(b,o)::Jk ops r:=by simp[Jk,h]
def Rb:List (Nat×Nat)→List Nat
 |[]=>[]
 |(0,_)::r=>Rb r
 |(1,_)::r=>Rb r
 |(_+2,k)::r=>k::Rb r
def xB(ops:Array Oper)(late:List Nat):List (Nat×Nat)→Array Bool→Bool
 |[],listed=>(Region.ready .any ops listed).isEmpty
 |(0,k)::r,listed=>(Region.ready .any ops listed).contains k&&Region.free .any ops listed k&&((ops[k]?).map (·.dst.isSome)).getD false&&(late.all fun j=>listed.getD j true||Xs ops ops.size j k)&&xB ops late r (listed.setIfInBounds k true)
 |(1,k)::r,listed=>(Region.ready .any ops listed).contains k&&Region.free .any ops listed k&&((ops[k]?).map (·.dst.isSome)).getD false&&xB ops late r (listed.setIfInBounds k true)
 |(_+2,k)::r,listed=>decide (Region.ready .any ops listed=[k])&&late.contains k&&xB ops late r (listed.setIfInBounds k true)
theorem Qnw{late:List Nat}(z:Region.noSelect ops=true)(U:∀c(a:Act)(d:Tmp)v w,Q (.panic c) (a.put (some d) v) w→Q (.panic c) a w):
  ∀(r:List (Nat×Nat))(q:Array Bool)(a:Act)(w),Xj ops q→xB ops late r q=true→Kl P ops Q (Jk ops r) a w→Qb7 P ops Q (fun j=>late.contains j) r.length q a w
 |[],q,a,w,hcl,hB,h=>⟨by simpa[xB]using hB,h⟩
 |(0,k)::r,q,a,w,hcl,hB,h=>by
  simp only[xB,Zw]at hB;obtain⟨⟨⟨⟨hr,hf⟩,E⟩,ab⟩,B⟩:=hB;have u:k∈Region.ready .any ops q:=by simpa using hr
  obtain⟨_,o,h0,_⟩:=mem_ready.1 u;rw[h0]at E;simp only[Zn,Option.getD_some]at E;obtain⟨d,E⟩:=Option.isSome_iff_exists.1 E;rw[Kq h0]at h;simp only[Kl]at h;have J:∃v,YieldsIf P ops (fun w'=>w'=w) o v a∧Kl P ops Q (Jk ops r) (a.put o.dst v) w:=by
   by_cases I:Region.wanted o (yielded ops a.tmps)=true;·simp only[I,if_true]at h;obtain⟨v,h1,K⟩:=h;exact⟨v,.inl ⟨I,fun w' e=>by rw[e];exact h1⟩,K⟩
   ·simp only[I]at h;exact⟨undef,.inr ⟨by simpa using I,rfl⟩,h⟩
  obtain⟨v,J,Z⟩:=J;exact Bk (F:=ops.size) h0 (Region.noSelect_spec z) (fun c R w' V=>by rw[E]at V;exact U c R d _ w' V) _ q a w hcl
   (.inr fun j oj hj hl hu=>by
    have:=List.all_eq_true.1 ab j (by simpa using hl);rw[hu]at this;simpa using this) (Region.free_spec h0 hf) u J rfl
   (Qnw z U r _ _ w (hcl.set u) B Z)
 |(1,k)::r,q,a,w,hcl,hB,h=>by
  simp only[xB,Zw]at hB;obtain⟨⟨⟨hr,hf⟩,E⟩,B⟩:=hB;have u:k∈Region.ready .any ops q:=by simpa using hr
  obtain⟨_,o,h0,_⟩:=mem_ready.1 u;rw[h0]at E;simp only[Zn,Option.getD_some]at E;obtain⟨d,E⟩:=Option.isSome_iff_exists.1 E;rw[Kq h0]at h;simp only[Kl]at h;have J:∃v,YieldsIf P ops (fun _=>True) o v a∧Kl P ops Q (Jk ops r) (a.put o.dst v) w:=by
   by_cases I:Region.wanted o (yielded ops a.tmps)=true;·simp only[I,if_true]at h;obtain⟨v,h1,K⟩:=h;exact⟨v,.inl ⟨I,fun w' _=>h1 w'⟩,K⟩
   ·simp only[I]at h;exact⟨undef,.inr ⟨by simpa using I,rfl⟩,h⟩
  obtain⟨v,J,Z⟩:=J;exact Bk (F:=ops.size) h0 (Region.noSelect_spec z) (fun c R w' V=>by rw[E]at V;exact U c R d _ w' V) _ q a w hcl
   (.inl fun _=>trivial) (Region.free_spec h0 hf) u J trivial
   (Qnw z U r _ _ w (hcl.set u) B Z)
 |(n+2,k)::r,q,a,w,hcl,hB,h=>by
  simp only[xB,Zw,decide_eq_true_eq]at hB;obtain⟨⟨h1,hl⟩,B⟩:=hB;have u:k∈Region.ready .any ops q:=by rw[h1];simp
  obtain⟨_,o,h0,_⟩:=mem_ready.1 u;rw[Kq h0]at h;simp only[Kl]at h;refine⟨fun K=>(by rw[h1]at K;cases K),fun i hi=>?_⟩;rw[h1]at hi;have aa:i=k:=by simpa using hi
  subst aa;refine wpOp_mono (fun R w' h'=>⟨fun h=>?_,?_⟩) (Ko h0 h);·exact absurd (show late.contains i=false from h) (by rw[hl];decide)
  ·exact Qnw z U r _ R w' (hcl.set u) B h'
theorem Qj{id:Nat}{a:Act}{w}{l:List Oper}(k:List (Nat×Nat))(I:P.follows .mixedOrders=true)
  (z:(Region.noSelect l.toArray&&(decide (k.length=l.toArray.size)&&xB l.toArray (Rb k) k (Array.replicate l.toArray.size false)))=true)
  (E:∀c(a:Act)(d:Tmp)v w,Q (.panic c) (a.put (some d) v) w→Q (.panic c) a w) (h:Kl P l.toArray Q (Jk l.toArray k) a w.drew):
  (Code.region id l.toArray true).wp P Q a w:=by
 simp only[Zw,decide_eq_true_eq]at z;obtain⟨u,q,z⟩:=z;refine wp_region_any I ?_;have B:Xj l.toArray (Array.replicate l.toArray.size false):=fun j J _ hl=>by rw[getD_replicate_false]at hl;cases hl
 have:=Qnw (P:=P) u E k _ a _ B z h;rw[q]at this;exact Qb9 _ _ _ _ this
variable{r:List (Nat×Oper)}{a:Act}{o:Oper}{w:World}
theorem Jo(h:Q .normal a w):Kl P ops Q [] a w:=h
theorem Qs8(c:Region.wanted o (yielded ops a.tmps)=false)(h:Kl P ops Q r (a.put o.dst undef) w):Kl P ops Q ((0,o)::r) a w:=by simp only[Kl,c,Bool.false_eq_true,if_false];exact h
theorem Qmz(c:Region.wanted o (yielded ops a.tmps)=false)(h:Kl P ops Q r (a.put o.dst undef) w):Kl P ops Q ((1,o)::r) a w:=by simp only[Kl,c,Bool.false_eq_true,if_false];exact h
theorem Jq{v:Value}(d:Region.wanted o (yielded ops a.tmps)=true)(c:(execOp a.eval o).run P w=.ok (.value v) w)(h:Kl P ops Q r (a.put o.dst v) w):Kl P ops Q ((0,o)::r) a w:=by simp only[Kl,d,if_true];exact⟨v,c,h⟩
theorem Q8{v:Value}(d:Region.wanted o (yielded ops a.tmps)=true)(c:∀w',(execOp a.eval o).run P w'=.ok (.value v) w')(h:Kl P ops Q r (a.put o.dst v) w):Kl P ops Q ((1,o)::r) a w:=by simp only[Kl,d,if_true];exact⟨v,c,h⟩
theorem J7{n:Nat}(h:wpList P ops (Exit.then (fun c w'=>Kl P ops Q r c w') Q) [o] a w):Kl P ops Q ((n+2,o)::r) a w:=h
theorem Qs7{n:Nat}(c:Region.wanted o (yielded ops a.tmps)=false)(h:Kl P ops Q r (a.put o.dst undef) w):Kl P ops Q ((n+2,o)::r) a w:=by show wpList P ops _ [o] a w;simp only[wpList,c,Bool.false_eq_true,if_false];exact h
end
section
variable{n:Nat}{P:Program}{ops:Array Oper}{Q:Exit→Act→World→Prop}
def Bh(n:Nat)(P:Program)(ops:Array Oper)(Q:Exit→Act→World→Prop)(late:Nat→Bool):Nat→Array Bool→Act→World→Prop
 |0,listed,a,w=>Region.ready .any ops listed=[]∧Q .normal a w
 |f+1,listed,a,w=>(Region.ready .any ops listed=[]→Q .normal a w)∧
  ∀i∈Region.ready .any ops listed,wpOpIn Fence.wide n P ops Q i (fun c w'=>(late i=false→w'=w)∧Bh n P ops Q late f (listed.setIfInBounds i true) c w') a w
theorem Tm{late:Nat→Bool}:∀(f:Nat)(c:Array Bool)(a:Act)(w),Bh n P ops Q late f c a w→wpAnyIn Fence.wide n P .any ops Q f c a w
 |0,_,_,_,h=>h
 |f+1,_,_,_,h=>⟨h.1,fun i hi=>wpOpIn_mono (fun d w' h'=>Tm f _ d w' h'.2) (h.2 i hi)⟩
theorem To{late:Nat→Bool}{D:World→Prop}{i F:Nat}{Z:Oper}{v:Value}(hi:ops[i]? =some Z)(R:∀(j:Nat)(o:Oper)cs b,ops[j]? =some o→o.op≠ .select cs b)
  (hQ:∀c a w,Q (.panic c) (a.put Z.dst v) w→Q (.panic c) a w):
  ∀(f:Nat)(d:Array Bool)(a:Act)(w),Xj ops d→
   ((∀w',D w')∨∀j I,ops[j]? =some I→late j=true→d.getD j true=false→Xs ops F j i=true)→
   (∀j I,ops[j]? =some I→j≠i→d.getD j true=false→(∀e∈I.after,Region.binds .any e=true→e.on≠i)→Z.apart ops I=true)→
   i∈Region.ready .any ops d→YieldsIf P ops D Z v a→D w→
   Bh n P ops Q late f (d.setIfInBounds i true) (a.put Z.dst v) w→Bh n P ops Q late (f+1) d a w:=by
 intro f;induction f with
 |zero=>
  intro d a w U _ _ hr hy V H;refine⟨fun h=>(by rw[h]at hr;cases hr),fun j hj=>?_⟩;by_cases u:j=i;·subst u;exact Sd hi hy V ⟨fun _=>rfl,H⟩
  ·have:=ready_mono hj u;rw[H.1]at this;cases this
 |succ f ih=>
  intro d a w U q z hr hy V H;have ac:=(mem_ready.1 hr).1;refine⟨fun h=>(by rw[h]at hr;cases hr),fun j hj=>?_⟩;by_cases u:j=i;·subst u;exact Sd hi hy V ⟨fun _=>rfl,H⟩
  ·have h1:=H.2 j (ready_mono hj u);obtain⟨B,I,E,K⟩:=mem_ready.1 hj;have ag:(∀w',D w')∨late j=false:=by
    rcases q with V|q;·exact .inl V
    ·refine .inr ?_;cases hl:late j with
     |false=>rfl
     |true=>
      have h1:=Yw U F j i (fun o ho e he hb=>by
       have:o=I:=Zs (ho.symm.trans E);subst this;exact K e he hb) (q j I E hl B)
      rw[getD_both ac]at h1;cases h1
   have ab:∀e∈I.after,Region.binds .any e=true→e.on≠i:=fun e he hb ae=>by have h1:=K e he hb;rw[ae,getD_both ac]at h1;cases h1
   have h2:=Qjo (C:=D) E (z j I E u B ab) (fun cs b=>R i Z cs b hi) (fun cs b=>R j I cs b E) hQ hy h1;have J:∀k,(d.setIfInBounds j true).getD k true=false→d.getD k true=false:=fun k h=>by
    by_cases aa:j=k;·subst aa;exact B
    ·rwa[getD_set_ne true aa]at h
   refine wpOpIn_mono (fun a' w' h3=>⟨h3.2.1,ih (d.setIfInBounds j true) a' w' (U.set hj) ?_ ?_ (ready_mono hr (Ne.symm u)) h3.1 ?_ ?_⟩) h2;·exact q.imp id fun h k ok hk hl hu=>h k ok hk hl (J k hu)
   ·exact fun k ok hk af hu ah=>z k ok hk af (J k hu) ah
   ·rcases ag with h|h;·exact h w'
    ·rw[h3.2.1 h];exact V
   ·rw[Array.setIfInBounds_comm _ _ u];exact h3.2.2
def Uo(n:Nat)(P:Program)(ops:Array Oper)(Q:Exit→Act→World→Prop):List (Nat×Oper)→Act→World→Prop
 |[],a,w=>Q .normal a w
 |(0,o)::r,a,w=>if Region.wanted o (yielded ops a.tmps)then∃v,(execOp a.eval o).run P w=.ok (.value v) w∧Uo n P ops Q r (a.put o.dst v) w else Uo n P ops Q r (a.put o.dst undef) w
 |(1,o)::r,a,w=>if Region.wanted o (yielded ops a.tmps)then∃v,(∀w',(execOp a.eval o).run P w'=.ok (.value v) w')∧Uo n P ops Q r (a.put o.dst v) w else Uo n P ops Q r (a.put o.dst undef) w
 |(_+2,o)::r,a,w=>wpListIn Fence.wide n P ops (Exit.then (fun c w'=>Uo n P ops Q r c w') Q) [o] a w
theorem Qf1{late:List Nat}(z:Region.noSelect ops=true)(U:∀c(a:Act)(d:Tmp)v w,Q (.panic c) (a.put (some d) v) w→Q (.panic c) a w):
  ∀(r:List (Nat×Nat))(q:Array Bool)(a:Act)(w),Xj ops q→xB ops late r q=true→Uo n P ops Q (Jk ops r) a w→Bh n P ops Q (fun j=>late.contains j) r.length q a w
 |[],q,a,w,hcl,hB,h=>⟨by simpa[xB]using hB,h⟩
 |(0,k)::r,q,a,w,hcl,hB,h=>by
  simp only[xB,Zw]at hB;obtain⟨⟨⟨⟨hr,hf⟩,E⟩,ab⟩,B⟩:=hB;have u:k∈Region.ready .any ops q:=by simpa using hr
  obtain⟨_,o,h0,_⟩:=mem_ready.1 u;rw[h0]at E;simp only[Zn,Option.getD_some]at E;obtain⟨d,E⟩:=Option.isSome_iff_exists.1 E;rw[Kq h0]at h;simp only[Uo]at h;have J:∃v,YieldsIf P ops (fun w'=>w'=w) o v a∧Uo n P ops Q (Jk ops r) (a.put o.dst v) w:=by
   by_cases I:Region.wanted o (yielded ops a.tmps)=true;·simp only[I,if_true]at h;obtain⟨v,h1,K⟩:=h;exact⟨v,.inl ⟨I,fun w' e=>by rw[e];exact h1⟩,K⟩
   ·simp only[I]at h;exact⟨undef,.inr ⟨by simpa using I,rfl⟩,h⟩
  obtain⟨v,J,Z⟩:=J;exact To (F:=ops.size) h0 (Region.noSelect_spec z) (fun c R w' V=>by rw[E]at V;exact U c R d _ w' V) _ q a w hcl
   (.inr fun j oj hj hl hu=>by
    have:=List.all_eq_true.1 ab j (by simpa using hl);rw[hu]at this;simpa using this) (Region.free_spec h0 hf) u J rfl
   (Qf1 z U r _ _ w (hcl.set u) B Z)
 |(1,k)::r,q,a,w,hcl,hB,h=>by
  simp only[xB,Zw]at hB;obtain⟨⟨⟨hr,hf⟩,E⟩,B⟩:=hB;have u:k∈Region.ready .any ops q:=by simpa using hr
  obtain⟨_,o,h0,_⟩:=mem_ready.1 u;rw[h0]at E;simp only[Zn,Option.getD_some]at E;obtain⟨d,E⟩:=Option.isSome_iff_exists.1 E;rw[Kq h0]at h;simp only[Uo]at h;have J:∃v,YieldsIf P ops (fun _=>True) o v a∧Uo n P ops Q (Jk ops r) (a.put o.dst v) w:=by
   by_cases I:Region.wanted o (yielded ops a.tmps)=true;·simp only[I,if_true]at h;obtain⟨v,h1,K⟩:=h;exact⟨v,.inl ⟨I,fun w' _=>h1 w'⟩,K⟩
   ·simp only[I]at h;exact⟨undef,.inr ⟨by simpa using I,rfl⟩,h⟩
  obtain⟨v,J,Z⟩:=J;exact To (F:=ops.size) h0 (Region.noSelect_spec z) (fun c R w' V=>by rw[E]at V;exact U c R d _ w' V) _ q a w hcl
   (.inl fun _=>trivial) (Region.free_spec h0 hf) u J trivial
   (Qf1 z U r _ _ w (hcl.set u) B Z)
 |(m+2,k)::r,q,a,w,hcl,hB,h=>by
  simp only[xB,Zw,decide_eq_true_eq]at hB;obtain⟨⟨h1,hl⟩,B⟩:=hB;have u:k∈Region.ready .any ops q:=by rw[h1];simp
  obtain⟨_,o,h0,_⟩:=mem_ready.1 u;rw[Kq h0]at h;simp only[Uo]at h;refine⟨fun K=>(by rw[h1]at K;cases K),fun i hi=>?_⟩;rw[h1]at hi;have aa:i=k:=by simpa using hi
  subst aa;refine wpOpIn_mono (fun R w' h'=>⟨fun h=>?_,?_⟩) (Qca h0 h);·exact absurd (show late.contains i=false from h) (by rw[hl];decide)
  ·exact Qf1 z U r _ R w' (hcl.set u) B h'
theorem Lx{id:Nat}{a:Act}{w}{l:List Oper}(k:List (Nat×Nat))(I:P.follows .mixedOrders=true)
  (z:(Region.noSelect l.toArray&&(decide (k.length=l.toArray.size)&&xB l.toArray (Rb k) k (Array.replicate l.toArray.size false)))=true)
  (E:∀c(a:Act)(d:Tmp)v w,Q (.panic c) (a.put (some d) v) w→Q (.panic c) a w) (h:Uo n P l.toArray Q (Jk l.toArray k) a w.drew):
  (Code.region id l.toArray true).wpIn Fence.wide n P Q a w:=by
 simp only[Zw,decide_eq_true_eq]at z;obtain⟨u,q,z⟩:=z;refine wpIn_region_any I ?_;have B:Xj l.toArray (Array.replicate l.toArray.size false):=fun j J _ hl=>by rw[getD_replicate_false]at hl;cases hl
 have:=Qf1 (n:=n) (P:=P) (Q:=Q) u E k _ a _ B z h;rw[q]at this;exact Tm _ _ _ _ this
variable{r:List (Nat×Oper)}{a:Act}{o:Oper}{w:World}
theorem Qf2(h:Q .normal a w):Uo n P ops Q [] a w:=h
theorem Qf4(c:Region.wanted o (yielded ops a.tmps)=false)(h:Uo n P ops Q r (a.put o.dst undef) w):Uo n P ops Q ((0,o)::r) a w:=by simp only[Uo,c,Bool.false_eq_true,if_false];exact h
theorem Ae(c:Region.wanted o (yielded ops a.tmps)=false)(h:Uo n P ops Q r (a.put o.dst undef) w):Uo n P ops Q ((1,o)::r) a w:=by simp only[Uo,c,Bool.false_eq_true,if_false];exact h
theorem Et{v:Value}(d:Region.wanted o (yielded ops a.tmps)=true)(c:(execOp a.eval o).run P w=.ok (.value v) w)(h:Uo n P ops Q r (a.put o.dst v) w):Uo n P ops Q ((0,o)::r) a w:=by simp only[Uo,d,if_true];exact⟨v,c,h⟩
theorem Dl{v:Value}(d:Region.wanted o (yielded ops a.tmps)=true)(c:∀w',(execOp a.eval o).run P w'=.ok (.value v) w')(h:Uo n P ops Q r (a.put o.dst v) w):Uo n P ops Q ((1,o)::r) a w:=by simp only[Uo,d,if_true];exact⟨v,c,h⟩
theorem Bl{m:Nat}(h:wpListIn Fence.wide n P ops (Exit.then (fun c w'=>Uo n P ops Q r c w') Q) [o] a w):Uo n P ops Q ((m+2,o)::r) a w:=h
theorem Qf3{m:Nat}(c:Region.wanted o (yielded ops a.tmps)=false)(h:Uo n P ops Q r (a.put o.dst undef) w):Uo n P ops Q ((m+2,o)::r) a w:=by show wpListIn Fence.wide n P ops _ [o] a w;simp only[wpListIn,c,Bool.false_eq_true,if_false];exact⟨fun f _=>trivial,h⟩
end
section
attribute [local go_sem] Qp
theorem Qc.undrew{S:Nat→Prop}{w w1:World}(h:Qc S w.drew w1):Qc S w w1:=⟨h.os,h.tape,h.output,h.size,h.block⟩
def Yu(m:Nat)(ad:Int→Nat)(w:World)(F:Fp)(b:Nat)(f:Jc):Prop:=∃l:List Jh,l.Perm f.all∧Oh (Qtj b m f.mark ad l) w F
theorem Yu.obj(m:Nat)(ad:Int→Nat):Hf (Yu m ad) where
 bd:=fun⟨l,_,h⟩=>(Je (Yc _ m _ ad l)).bd h
 own:=fun⟨l,_,h⟩=>by obtain⟨G,h1,d⟩:=J6 (Yc _ m _ ad l) 0 rfl h;exact d _ h1.2.1
 aB:=fun⟨l,c,h⟩hc q=>⟨l,c,(Je (Yc _ m _ ad l)).aB h hc q⟩
 more:=fun⟨l,c,h⟩hs k=>⟨l,c,(Je (Yc _ m _ ad l)).more h hs k⟩
theorem J0.addr{w}{F:Fp}{b:Nat}{f:Jc}(h:J0 w F b f):∃m ad,Yu m ad w F b f:=by obtain⟨m,ad,l,h⟩:=h;exact⟨m,ad,l,h⟩
section
variable{m:Nat}{ad:Int→Nat}{w w':World}{F:Fp}{b:Nat}{f:Jc}
theorem Yu.is(h:Yu m ad w F b f):J0 w F b f:=by obtain⟨l,h⟩:=h;exact⟨m,ad,l,h⟩
theorem Yu.same(h:Yu m ad w F b f)(hc:Qc Qb w w'):Yu m ad w' (Qn F w w') b f∧Qc F w w':=by obtain⟨l,d,h⟩:=h;have g:=Je (Yc b m f.mark ad l);have h':=g.aB h hc (Jl.none F);exact⟨⟨l,d,g.more h' (fun k c=>.inl c) ((g.bd h).ext (hc.none (F:=F)))⟩,hc.none⟩
theorem Yu.coll(h:Yu m ad w F b f):∃l:List Jh,l.Perm f.all∧Qh w b #[.map (some m),.int .u64 f.mark] 212∧∃G,Yn Jh.id Vj w G m ad l:=by obtain⟨l,d,h⟩:=h;obtain⟨k,h0,_⟩:=J6 (Yc _ m _ ad l) 0 rfl h;obtain⟨c,h1,_⟩:=J6 (Yc _ m _ ad l) 1 rfl h;exact⟨l,d,h0.1,c,h1⟩
theorem Yu.blk(h:Yu m ad w F b f):Qh w b #[.map (some m),.int .u64 f.mark] 212:=by obtain⟨l,d,c,_⟩:=h.coll;exact c
theorem Jc.aE{i:Int}{x:Jh}(h:f.at i=some x):x∈f.all∧x.id=i:=Y3 (key:=Jh.id) h
theorem Yu.mem(h:Yu m ad w F b f){x:Jh}(hx:x∈f.all):
  ∃G:Fp,Vj w G (ad x.id) x∧(∀k,G k→F k∧k≠b)∧∀w' x',x'.id=x.id→Vj w' (Qn G w w') (ad x.id) x'→Qc G w w'→Yu m ad w' (Qn F w w') b (f.set x')∧Qc F w w':=by
 obtain⟨l,R,hs⟩:=h;obtain⟨hb,U,H,h1,h2,B,h4,J⟩:=hs;obtain⟨V,k1,k2,_,k3⟩:=Xv 0 (P:=fun w G=>Yn Jh.id Vj w G m ad l) (L:=[fun w G=>Yn Jh.id Vj w G m ad l]) (by intro P K;simp only[Zu,List.not_mem_nil,or_false]at K;subst K;exact Sm Vj.obj _ _ _) rfl h2;obtain⟨G,g1,z,g3⟩:=k1.focus Vj.obj (R.mem_iff.2 hx);have q:∀k,G k→F k:=fun k c=>J k (k2 k (z k c).1);have E:∀k,G k→k≠b:=fun k c e=>by subst e;exact B _ h1.2.1 (k2 _ (z _ c).1)
 refine⟨G,g1,fun k c=>⟨q k c,E k c⟩,fun w' x' I hm d=>?_⟩;have u:Qc V w w':=d.sub fun k c=>(z k c).1;have Z:Qc H w w':=u.sub k2;have e1:=k3 w' (fun w G=>Yn Jh.id Vj w G m ad (Lg Jh.id x' l)) u (g3 w' x' I hm d);refine⟨⟨Lg Jh.id x' l,R.map _,?_⟩,d.sub q⟩;refine Q7 (G:=U) (H:=Qn H w w') ((Ks _ _ _).aB h1 Z B) e1 ?_ (fun k c=>.inl (h4 k c)) (fun k c=>Qn.mono J k c) (hb.ext (d.sub q));exact Jl.extR B ((Ks _ _ _).bd h1)
theorem Yu.marked(h:Yu m ad w F b f){n:Nat}(hc:Qc (fun k=>k=b) w w')(c:Qh w' b #[.map (some m),.int .u64 n] 212):Yu m ad w' (Qn F w w') b ⟨f.all,n⟩∧Qc F w w':=by obtain⟨l,d,h⟩:=h;have:=(Xv 0 (Yc b m f.mark ad l) rfl h).cells hc c;exact⟨⟨l,d,this.1⟩,this.2⟩
theorem Yu.memB(h:Yu m ad w F b f){x:Jh}(d:x∈f.all):∃p H,Qh w (ad x.id) (Pp x p) 215∧Yv w H p x.run∧ad x.id≠b:=by obtain⟨G,h1,c,_⟩:=h.mem d;obtain⟨p,H,a,b',_⟩:=h1.ex;exact⟨p,H,a,b',(c _ h1.own).2⟩
theorem Yu.memC'(h:Yu m ad w F b f){x x':Jh}{p:Nat}(J:x∈f.all)(q:x'.id=x.id)(hr:x'.run=x.run)(u:Qh w (ad x.id) (Pp x p) 215)
  (hc:Qc (fun k=>k=ad x.id) w w') (I:Qh w' (ad x.id) (Pp x' p) 215):Yu m ad w' (Qn F w w') b (f.set x')∧Qc F w w':=by
 obtain⟨G,h1,U,z⟩:=h.mem J;obtain⟨p',H,a,E,B⟩:=h1.ex;have e:p'=p:=by have c:=a;unfold Qh at c u;rw[u]at c;simp only[Option.some.injEq,Obj.cells.injEq,Pp,Array.mk.injEq,List.cons.injEq,ptr,Value.pointer.injEq,Addr.mk.injEq]at c;exact c.1.2.2.1.1.symm
 subst e;have d:Yv w H p' x'.run:=hr▸E;obtain⟨K,R⟩:=O1.cell (x':=x') h1 d B runP hc I;exact z w' x' q K R
theorem Yu.memR(h:Yu m ad w F b f){x:Jh}(z:x∈f.all):
  ∃(p:Nat)(G:Fp),Qh w (ad x.id) (Pp x p) 215∧Yv w G p x.run∧∀w' r,Yv w' (Qn G w w') p r→Qc G w w'→Yu m ad w' (Qn F w w') b (f.set {x with run:=r})∧Qc F w w':=by
 obtain⟨G,h1,I,d⟩:=h.mem z;obtain⟨p,H,a,k,c⟩:=h1.ex;refine⟨p,H,a,k,fun w' r hr hc=>?_⟩;have q:Qh w' (ad x.id) (Pp {x with run:=r} p) 215:=hc.blk a (fun u=>(c _ u).2 rfl);obtain⟨B,E⟩:=O1.made (x':={x with run:=r}) h1 c runP hc hr (Zg _ _) q;exact d w' {x with run:=r} rfl B E
def Qk3(ad:Int→Nat)(f:Jc)(i:Int):Value:=atP ad i (f.at i)
theorem Yu.at_any(h:Yu m ad w F b f)(i:Int):Cl 189 #[ptr b,.int .i64 i] w fun e w'=>e=.returned (Qk3 ad f i)∧w=w':=by obtain⟨l,k,d,G,c⟩:=h.coll;have:=Qb2 d c i;unfold Qk3;rw[Jc.at_eq k c.nodup];exact this
end
theorem Qjh{w}{F:Fp}{b:Nat}{f:Jc}(h:J0 w F b f)(i:Int):
  Cl 166 #[ptr b,.int .i64 i] w fun e w'=>e=.returned (.tuple #[])∧J0 w' (Qn F w w') b (f.sleep i)∧Qc F w w':=by
 obtain⟨m,ad,u⟩:=h.addr;have q:=O (u.at_any i);unfold Jc.sleep;unfold Qk3 at q;cases z:f.at i with
 |none=> have d:=O (u.same (Zg Qb w));rw[z]at q;dsimp only[atP]at q⊢;unfold ptr at*;clear h u z;go_enter func166,ntmps166;go_wp2_with fail;refine Zy q ?_;rintro w1 rfl;go_wp2;refine bodyPost_end (by simp[*,results,Tryz.results166,go_sem]) rfl ⟨rfl,d.o.1.is,d.o.2⟩
 |some x=>
  obtain⟨E,rfl⟩:=Jc.aE z;obtain⟨p,H,B,_,_⟩:=u.memB E;have I:=O B;have d:Hi (∀w',Qc (fun k=>k=ad x.id) w w'→Qh w' (ad x.id) (Pp {x with aL:=false} p) 215→J0 w' (Qn F w w') b (f.set {x with aL:=false})∧Qc F w w'):=O (fun w' hc J=>by
   obtain⟨a,c⟩:=u.memC' (x':={x with aL:=false}) E rfl rfl I.o hc J;exact⟨a.is,c⟩)
  obtain⟨K,a1,R,U⟩:=X9 B;have z0:=B.frozen 3;rw[z]at q;dsimp only[atP]at q⊢;unfold ptr at*;clear h u z B E;go_enter func166,ntmps166;go_wp2_with fail;refine Zy q ?_;rintro w1 rfl;go_wp2;refine bodyPost_end (by simp[*,results,Tryz.results166,go_sem]) rfl ⟨rfl,d.o _ (Zk (Zg _ _) _ (.inl rfl)) (I.o.set' 3 _ rfl)⟩
theorem Qb3{w}{F:Fp}{b:Nat}{f:Jc}(h:J0 w F b f)(i:Int):
  Cl 173 #[ptr b,.int .i64 i] w fun e w'=>e=.returned (.bool (f.at i).isSome)∧J0 w' (Qn F w w') b (f.drop i)∧Qc F w w':=by
 obtain⟨m,ad,I⟩:=h.addr;have q:=O (I.at_any i);unfold Qk3 at q;cases E:f.at i with
 |none=>
  have e:f.drop i=f:=by
   unfold Jc.drop;have:(f.all.filter fun m=>!decide (m.id=i))=f.all:=List.filter_eq_self.2 fun y hy=>by have:=Lz (key:=Jh.id) E y hy;simpa using this
   rw[this]
  have c:=O (I.same (Zg Qb w));rw[e];rw[E]at q;dsimp only[atP,Option.isSome_none]at q⊢;unfold ptr at*;clear h I E e;go_enter func173,ntmps173;go_wp2_with fail;refine Zy q ?_;rintro w1 rfl;go_wp2;go_ret;exact⟨rfl,c.o.1.is,c.o.2⟩
 |some x=>
  obtain⟨l,Z,hs⟩:=I;have J:=(J6 (Yc b m f.mark ad l) 0 rfl hs);obtain⟨G0,J,_⟩:=J;obtain⟨G,z,V,R,d⟩:=Xv 1 (Yc b m f.mark ad l) rfl hs;obtain⟨w',aa,B,u⟩:=Di (P:=prog) z.map underlying210 underlying3 3 0 i;have c:Hi (J0 w' (Qn F w w') b (f.drop i)∧Qc F w w'):=O (by
   have K:Qc G w w':=u.sub fun k U=>U▸z.at_;have h1:Yn Jh.id Vj w' (Qn G w w') m ad (Kp Jh.id i l):=(z.del Vj.obj i B u).more (fun k U=>.inl U) (z.bd.ext K);exact⟨⟨m,ad,Kp Jh.id i l,Z.filter _,d w' (fun w G=>Yn Jh.id Vj w G m ad (Kp Jh.id i l)) K h1⟩,K.sub V⟩)
  obtain⟨a0,a1⟩:=Q4 J.1;rw[E]at q;dsimp only[atP,Option.isSome_some]at q⊢;unfold ptr at*;clear h E hs d V R z B u J Z;go_enter func173,ntmps173;go_wp2_with fail;refine Zy q ?_;rintro w1 rfl;go_wp2;go_ret;exact⟨rfl,c.o.1,c.o.2⟩
end
section
attribute [local go_sem] Qp
attribute [local go_sem ↓] X8 Yd
theorem Jc.set_set(f:Jc){a b:Jh}(h:a.id=b.id):(f.set a).set b=f.set b:=by
 unfold Jc.set;simp only[List.map_map,Jc.mk.injEq,and_true];refine List.map_congr_left fun x _=>?_;simp only[Function.comp];by_cases c:x.id=a.id;·rw[if_pos c,if_pos h,if_pos (c.trans h)]
 ·rw[if_neg c]
theorem Jc.mem_set{f:Jc}{x a:Jh}(c:x∈f.all)(h:a.id=x.id):a∈(f.set a).all:=Z3.2 ⟨x,c,if_pos h.symm⟩
theorem Qmv{w}{b q mark:Nat}{u v0 v1 v2 v3:Value}(d:Qh w b #[u,.int .u64 mark] 212)(k:Qh w q #[v0,v1,v2,v3] 215)(c:q≠b)(v:Nat):
  Cl 200 #[ptr b,ptr q,.int .u64 v] w fun e w'=>e=.returned (.tuple #[])∧w'=(w.setCell ⟨q,1,none⟩ (.int .u64 v)).setCell ⟨b,1,none⟩ (.int .u64 ((max mark v:Nat):Int)):=by
 obtain⟨z,a1⟩:=Q4 (d.other (a:=⟨q,1,none⟩) (.int .u64 v) c);have z0:=(d.other (a:=⟨q,1,none⟩) (.int .u64 v) c).frozen 1;have K:=k.frozen 1;obtain⟨B,E,I,J⟩:=X9 k;have e:max (mark:Int) (v:Int)=((max mark v:Nat):Int):=by omega
 rw[←e];unfold ptr at*;clear d k e;go_enter func200,ntmps200;go_wp2;refine bodyPost_end (by simp[*,results,Tryz.results200,go_sem]) rfl ⟨rfl,?_⟩;first|rfl|simp
theorem Yu.madeW{m:Nat}{ad:Int→Nat}{w w'}{F:Fp}{b:Nat}{f:Jc}(h:Yu m ad w F b f){x:Jh}(d:x∈f.all)(v:Nat)
  (B:w'=(w.setCell ⟨ad x.id,1,none⟩ (.int .u64 v)).setCell ⟨b,1,none⟩ (.int .u64 ((max f.mark v:Nat):Int))):Yu m ad w' (Qn F w w') b (f.made x v)∧Qc F w w':=by
 subst B;obtain⟨p,H,c,_,z⟩:=h.memB d;obtain⟨h1,k⟩:=h.memC' (x':={x with v:=v}) d rfl rfl c ((Zg _ w).setCell (a:=⟨ad x.id,1,none⟩) (.int .u64 v) (.inl rfl)) (c.set' 1 _ rfl);obtain⟨u,q⟩:=h1.marked (n:=max f.mark v) ((Zg _ _).setCell (a:=⟨b,1,none⟩) (.int .u64 ((max f.mark v:Nat):Int)) (.inl rfl)) (h1.blk.set' 1 _ rfl);exact(Yu.obj m ad).two u ((Yu.obj m ad).bd h) k q
theorem Qb4{m:Nat}{ad:Int→Nat}{w}{F:Fp}{b:Nat}{f:Jc}(h:Yu m ad w F b f){x:Jh}(d:x∈f.all)(v:Nat):
  Cl 200 #[ptr b,ptr (ad x.id),.int .u64 v] w fun e w'=>e=.returned (.tuple #[])∧Yu m ad w' (Qn F w w') b (f.made x v)∧Qc F w w':=by
 obtain⟨p,H,k,_,c⟩:=h.memB d;refine Zz (Qmv h.blk k c v) ?_;intro w1 q;exact⟨rfl,h.madeW d v q⟩
theorem Qmu{w}{F:Fp}{b:Nat}{f:Jc}(h:J0 w F b f)(hN:∀x∈f.all,x.total≤Xw∧x.run.l.length<1099511627776)(i:Int)(g:Nat)(hg:g<18446744073709551616):
  Cl 163 #[ptr b,.int .i64 i,.int .u64 g] w fun e w'=>e=.returned (.tuple #[])∧J0 w' (Qn F w w') b (f.gain i g)∧Qc F w w':=by
 obtain⟨m,ad,I⟩:=h.addr;have E:=O (I.at_any i);unfold Jc.gain;unfold Qk3 at E;cases Z:f.at i with
 |none=> have c:=O (I.same (Zg Qb w));rw[Z]at E;dsimp only[atP]at E⊢;unfold ptr at*;clear h I Z hN;go_enter func163,ntmps163;go_wp2_with fail;refine Zy E ?_;rintro w1 rfl;go_wp2;refine bodyPost_ret (results_none rfl _ _ _) rfl ⟨rfl,c.o.1.is,c.o.2⟩
 |some x=>
  obtain⟨V,rfl⟩:=Jc.aE Z;obtain⟨K,ab⟩:=hN x V;obtain⟨p,H,z,_,ae⟩:=I.memB V;obtain⟨T,hT⟩:=Zx (x.total+min g (Xw-x.total));have aa:T≤Xw:=by omega
  have e1:IntKind.u64.wrap (4611686018427387904-(x.total:Int))=((Xw-x.total:Nat):Int):=by rw[IntWalk.u64_in _ (by have:=Yz;omega)];have:=Yz;omega
  have e2:min (g:Int) ((Xw-x.total:Nat):Int)=((min g (Xw-x.total):Nat):Int):=by omega
  have e3:IntKind.u64.wrap ((x.total:Int)+((min g (Xw-x.total):Nat):Int))=(T:Int):=by rw[IntWalk.u64_in _ (by have:=Yz;omega)];omega
  have HM:=O z;obtain⟨W,hW⟩:=Zx ((w.setCell ⟨ad x.id,0,none⟩ (.int .u64 T)).drew);have U:Hi (Yu m ad W (Qn F w W) b (f.set {x with total:=T})∧Qc F w W):=O (by
   rw[hW];exact I.memC' (x':={x with total:=T}) V rfl rfl z ((Zg (fun k=>k=ad x.id) w).setCell (a:=⟨ad x.id,0,none⟩) (.int .u64 T) (.inl rfl)).drew (z.set' 0 _ rfl).drew)
  have BW:Hi (Qh W (ad x.id) (Pp {x with total:=T} p) 215):=O (by rw[hW];exact(z.set' 0 _ rfl).drew);have SS:=O (f.set_set (a:={x with total:=T}) (b:={{x with total:=T}with v:=x.run.reach T}) rfl);have MM:=O (Jc.mem_set (a:={x with total:=T}) V rfl);have af:=O ((Yu.obj m ad).bd I);rw[Z]at E;dsimp only[atP]at E⊢;rw[←hT];rcases Bool.eq_false_or_eq_true x.aL with d|d
  rotate_left
  ·rw[if_neg (by rw[d];decide)];obtain⟨a0,a1,a2,a3⟩:=X9 z.drew;have z0:=z.drew.frozen 0;obtain⟨d0,d1,d2,d3⟩:=X9 BW.o;simp only[d]at a3 d3;have c:=O U.o;generalize Xw-x.total=u at e1 e2 e3;generalize min g u=u2 at e2 e3;unfold ptr at*;clear h I Z z V K hT aa hN d ae;go_enter func163,ntmps163;go_wp2_with fail;refine Zy E ?_;rintro w1 rfl;go_wp2_with fail;refine Qj [(0,0),(0,1),(0,2),(0,3),(0,4),(0,5),(0,6),(0,7),(0,8),(0,9),(0,10),(0,11),(0,12),(0,13),(2,14)] Zq (by kernel_rfl) (fun _ _ _ _ _ h=>h) ?_;simp only[Jk,Zf,Ze,Zd];iterate 14 (refine Jq (by kernel_rfl) (by go_simp;try rfl) ?_)
   refine J7 ?_;go_wp2_with fail;refine Jo ?_;rw[←hW];clear a0 a1 a2 a3 z0 hW;go_wp2_with fail;refine bodyPost_end (by simp[*,results,Tryz.results163,go_sem]) rfl ⟨rfl,c.o.1.is,c.o.2⟩
  ·rw[if_pos d];obtain⟨a0,a1,a2,a3⟩:=X9 z.drew;have z0:=z.drew.frozen 0;obtain⟨q,G,R,J,_⟩:=U.o.1.memR MM.o;obtain⟨_,_,_,d3⟩:=X9 R;obtain⟨g0,g1,g2,g3⟩:=X9 R.drew;have HR:=O (fun w'(hc:Qc Qb W w')=>Ru (runP.aB J hc (Jl.none G)) ab T (by have:=Yz;omega));have c:Hi (∀w2,Qc Qb W w2→∀w3,Yu m ad w3 (Qn (Qn (Qn F w W) W w2) w2 w3) b ((f.set {x with total:=T}).made {x with total:=T} (x.run.reach T))→Qc (Qn (Qn F w W) W w2) w2 w3→J0 w3 (Qn F w w3) b (f.made {x with total:=T} (x.run.reach T))∧Qc F w w3):=O (by
    intro w2 B w3 h3 c3;obtain⟨s1,s2⟩:=U.o.1.same B;obtain⟨t1,t2⟩:=(Yu.obj m ad).two h3 ((Yu.obj m ad).bd U.o.1) s2 c3;obtain⟨u1,u2⟩:=(Yu.obj m ad).two t1 af.o U.o.2 t2;have e:(f.set {x with total:=T}).made {x with total:=T} (x.run.reach T)=f.made {x with total:=T} (x.run.reach T):=by unfold Jc.made;rw[SS.o];rfl
    rw[e]at u1;exact⟨u1.is,u2⟩)
   have ag:Hi (∀w2,Qc Qb W w2→Yu m ad w2 (Qn (Qn F w W) W w2) b (f.set {x with total:=T})):=O (fun w2 B=>(U.o.1.same B).1);simp only[d]at a3 d3;generalize hv:x.run.reach T=v at HR c⊢;generalize Xw-x.total=u at e1 e2 e3;generalize min g u=u2 at e2 e3;unfold ptr at*;clear h I Z z V K hT aa hN d ae R J hv;go_enter func163,ntmps163;go_wp2_with fail;refine Zy E ?_;rintro w1 rfl;go_wp2_with fail;refine Qj [(0,0),(0,1),(0,2),(0,3),(0,4),(0,5),(0,6),(0,7),(0,8),(0,9),(0,10),(0,11),(0,12),(0,13),(2,14)] Zq (by kernel_rfl) (fun _ _ _ _ _ h=>h) ?_;simp only[Jk,Zf,Ze,Zd];iterate 14 (refine Jq (by kernel_rfl) (by go_simp;try rfl) ?_)
   refine J7 ?_;go_wp2_with fail;refine Jo ?_;rw[←hW];clear a0 a1 a2 a3 z0 hW;go_wp2_with fail;refine Qj [(1,0),(1,1),(0,2),(0,3),(0,4),(0,5),(0,6),(0,7),(0,8),(0,9),(2,10),(2,11)] Zq (by kernel_rfl) (fun _ _ _ _ _ h=>h) ?_;simp only[Jk,Zf,Ze,Zd];iterate 2 (refine Q8 (by kernel_rfl) (fun wv=>by go_simp;try rfl) ?_;try simp only[Act.put,Za,Zc,Zb])
   iterate 8 (refine Jq (by kernel_rfl) (by go_simp;try rfl) ?_)
   clear d3 g0 g1 g2 g3;refine J7 ?_;go_wp2_with fail;refine Zz (HR.o _ (Zg _ W).drew) ?_;intro w2 B;replace B:=B.undrew;have ac:=ag.o _ B;have C2:=O B;clear B;go_wp2_with fail;refine J7 ?_;go_wp2_with fail;refine Zz (Qb4 ac (x:={x with total:=T}) MM.o v) ?_;rintro w3⟨h3,c3⟩;have FF:=O (c.o _ C2.o _ h3 c3);clear h3 c3 ac;go_wp2_with fail;refine Jo ?_;go_wp2_with fail;refine bodyPost_end (by simp[*,results,Tryz.results163,go_sem]) rfl ⟨rfl,FF.o⟩
end
end Go.Proofs.YtnnhmpehkbihnaaGreat
