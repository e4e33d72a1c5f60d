/- A part of the proof: no condition. -/
import Derived.Test.YtigcnnkagkbflaaGreatUo20
import Derived.Shelf.Sort.Plain
import Derived.Shelf.Slices.In.SortNone
import Derived.Test.YtigcnnkagkbflaaGreatProg
namespace Go.Proofs.YtigcnnkagkbflaaGreat
set_option linter.unusedVariables false
set_option maxRecDepth 100000
set_option maxHeartbeats 4000000
open Go.RowKit
open Go.Proofs.Tryz
attribute [local go_sem] Qp
attribute [local irreducible] Kl J9 Xo
def quS(b d c:Nat)(q:List Jr):Ya:=λw F=>∃r,Jz w b r d c q/\F b/\F r/\Bd F w
theorem Lm(b J E:Nat)(q:List Jr):Uy (quS b J E q) where
 bd:=λ⟨r,_,_,_,h⟩=>h
 aB:=λ⟨r,h,c,d,k⟩u z=>⟨r,h.aB u (z _ c) (z _ d),c,d,k.later u⟩
 more:=λ⟨r,h,c,d,k⟩B I=>⟨r,h,B _ c,B _ d,I⟩
def Qrs(b d:Nat)(c:Value)(l:Qw):List Ya:=[Tv b #[ptr d,c] 107,quS d l.pk l.bt l.q,λw F=>Kv w F c l.debt]
theorem U5(b k:Nat)(d:Value)(l:Qw):∀P∈Qrs b k d l,Uy P:=by
 intro P c;simp only[Qrs,Zu,List.not_mem_nil,or_false]at c;rcases c with rfl|rfl|rfl;·exact Ks _ _ _
 .exact Lm _ _ _ _
 .exact Kv.good _ _
def Yj(w:World)(F:Fp)(b:Nat)(l:Qw):Prop:=∃d c,Oh (Qrs b d c l) w F
theorem Yj.obj:Hf Yj where
 bd:=λ⟨qb,dv,h⟩=>(Je (U5 _ _ _ _)).bd h
 own:=λ⟨qb,dv,h⟩=>by obtain⟨G,c,d⟩:=J6 (U5 _ _ _ _) 0 rfl h;exact d _ c.2.1
 aB:=λ⟨qb,dv,h⟩q u=>⟨qb,dv,(Je (U5 _ _ _ _)).aB h q u⟩
 more:=λ⟨qb,dv,h⟩z k=>⟨qb,dv,(Je (U5 _ _ _ _)).more h z k⟩
structure Tb where
 tb:Nat
 m:Nat
 rb:Nat
 pb:Nat
 ad:Int->Nat
def Qfq(A:Tb)(s:Qf):Array Value:=#[ZI s.most,ptr A.tb,.map (some A.m),ptr A.rb,ptr A.pb]
def Lw(A:Tb)(b:Nat)(L:List Qw)(s:Qf):List Ya:=
 [Tv b (Qfq A s) 97,λw F=>Q9 w F A.tb s.tree,λw F=>Yn Qw.id Yj w F A.m A.ad L,λw F=>Yq w F A.rb s.row,λw F=>Yr w F A.pb s.pick]
theorem Ua(A:Tb)(b:Nat)(L:List Qw)(s:Qf):∀P∈Lw A b L s,Uy P:=by
 intro P c;simp only[Lw,Zu,List.not_mem_nil,or_false]at c;rcases c with rfl|rfl|rfl|rfl|rfl;·exact Ks _ _ _
 .exact Q9.obj.good _ _
 .exact Sm Yj.obj _ _ _
 .exact Yq.obj.good _ _
 .exact Yr.obj.good _ _
def Qi(A:Tb)(w:World)(F:Fp)(b:Nat)(s:Qf):Prop:=∃L:List Qw,L.Perm s.aI/\Oh (Lw A b L s) w F
theorem Qi.obj(A:Tb):Hf (Qi A) where
 bd:=λ⟨L,_,h⟩=>(Je (Ua A _ L _)).bd h
 own:=λ⟨L,_,h⟩=>by obtain⟨G,d,k⟩:=J6 (Ua A _ L _) 0 rfl h;exact k _ d.2.1
 aB:=λ⟨L,c,h⟩u z=>⟨L,c,(Je (Ua A _ L _)).aB h u z⟩
 more:=λ⟨L,c,h⟩B q=>⟨L,c,(Je (Ua A _ L _)).more h B q⟩
def Qt(w:World)(F:Fp)(b:Nat)(s:Qf):Prop:=∃A,Qi A w F b s
theorem Qt.obj:Hf Qt where
 bd:=λ⟨A,h⟩=>(Qi.obj A).bd h
 own:=λ⟨A,h⟩=>(Qi.obj A).own h
 aB:=λ⟨A,h⟩d k=>⟨A,(Qi.obj A).aB h d k⟩
 more:=λ⟨A,h⟩q c=>⟨A,(Qi.obj A).more h q c⟩
section
variable{A:Tb}{w:World}{F:Fp}{b:Nat}{s:Qf}
theorem Qi.drew(h:Qi A w F b s):Qi A w.drew F b s:=(Qi.obj A).aB h (Zg Qb w).drew (Jl.none F)
theorem Qi.blk(h:Qi A w F b s):Qh w b (Qfq A s) 97:=by obtain⟨L,d,h⟩:=h;obtain⟨G,c,_⟩:=J6 (Ua A b L s) 0 rfl h;exact c.1
theorem Qi.part(h:Qi A w F b s)(i:Nat){R:List Qw->Ya}(E:∀L,(Lw A b L s)[i]? =some (R L)):
  ∃L,L.Perm s.aI/\∃G:Fp,R L w G/\(∀k,G k->F k)/\∀w' d s' Q,d.Perm s'.aI->Lw A b d s'=(Lw A b L s).set i Q->Q w' (Qn G w w')->Qc G w w'->Qi A w' (Qn F w w') b s'/\Qc F w w':=by
 obtain⟨L,I,h⟩:=h;obtain⟨G,z,u,_,B⟩:=Xv i (Ua A b L s) (E L) h;refine⟨L,I,G,z,u,λw' d s' Q q K J c=>⟨⟨d,q,?_⟩,c.sub u⟩⟩;rw[K];exact B w' Q c J
theorem Qi.treeOf(h:Qi A w F b s):∃G:Fp,Q9 w G A.tb s.tree/\(∀k,G k->F k)/\∀w' t,Q9 w' (Qn G w w') A.tb t->Qc G w w'->Qi A w' (Qn F w w') b {s with tree:=t}/\Qc F w w':=by obtain⟨L,z,G,d,q,u⟩:=h.part 1 (R:=λ_ w F=>Q9 w F A.tb s.tree) (λ_=>rfl);exact⟨G,d,q,λw' t B c=>u w' L {s with tree:=t} _ z rfl B c⟩
theorem Qi.rowOf(h:Qi A w F b s):∃G:Fp,Yq w G A.rb s.row/\(∀k,G k->F k)/\∀w' t,Yq w' (Qn G w w') A.rb t->Qc G w w'->Qi A w' (Qn F w w') b {s with row:=t}/\Qc F w w':=by obtain⟨L,z,G,d,q,u⟩:=h.part 3 (R:=λ_ w F=>Yq w F A.rb s.row) (λ_=>rfl);exact⟨G,d,q,λw' t B c=>u w' L {s with row:=t} _ z rfl B c⟩
theorem Qi.pickOf(h:Qi A w F b s):∃G:Fp,Yr w G A.pb s.pick/\(∀k,G k->F k)/\∀w' t,Yr w' (Qn G w w') A.pb t->Qc G w w'->Qi A w' (Qn F w w') b {s with pick:=t}/\Qc F w w':=by obtain⟨L,z,G,d,q,u⟩:=h.part 4 (R:=λ_ w F=>Yr w F A.pb s.pick) (λ_=>rfl);exact⟨G,d,q,λw' t B c=>u w' L {s with pick:=t} _ z rfl B c⟩
theorem Qi.collOf(h:Qi A w F b s):∃L,L.Perm s.aI/\∃G:Fp,Yn Qw.id Yj w G A.m A.ad L/\(∀k,G k->F k)/\
  ∀w' c s',c.Perm s'.aI->s'.most=s.most->s'.tree=s.tree->s'.row=s.row->s'.pick=s.pick->Yn Qw.id Yj w' (Qn G w w') A.m A.ad c->Qc G w w'->Qi A w' (Qn F w w') b s'/\Qc F w w':=by
 obtain⟨L,V,G,I,J,K⟩:=h.part 2 (R:=λL w F=>Yn Qw.id Yj w F A.m A.ad L) (λ_=>rfl);refine⟨L,V,G,I,J,λw' c s' q u z B E U d=>K w' c s' (λw F=>Yn Qw.id Yj w F A.m A.ad c) q ?_ U d⟩;unfold Lw Qfq;rw[u,z,B,E];rfl
theorem So{L:List Qw}(d:L.Perm s.aI)(c:(L.map Qw.id).Nodup)(i:Int):s.leaf i=Hn Qw.id i L:=(Mz d c i).symm
theorem Qi.leafOf(h:Qi A w F b s){i:Int}{l:Qw}(I:s.leaf i=some l):
  ∃G:Fp,Yj w G (A.ad i) l/\(∀k,G k->F k)/\∀w' d,d.id=i->Yj w' (Qn G w w') (A.ad i) d->Qc G w w'->Qi A w' (Qn F w w') b (s.aR d)/\Qc F w w':=by
 obtain⟨L,J,G,E,U,u⟩:=h.collOf;rw[So J E.nodup]at I;obtain⟨V,c⟩:=Y3 I;subst c;obtain⟨K,Z,R,k3⟩:=E.focus Yj.obj V;refine⟨K,Z,λk z=>U k (R k z).1,λw' d c B q=>?_⟩;have:=k3 w' d c B q;exact u w' _ (s.aR d) (J.map _) rfl rfl rfl rfl this (q.sub λk z=>(R k z).1)
def Qad(A:Tb)(s:Qf)(i:Int):Value:=match s.leaf i with
 |none=>.pointer none
 |some _=>ptr (A.ad i)
theorem Qf7(w):(zeroValue 102).run prog w=.ok (.pointer none) w:=by go_simp
theorem Qi.look1(h:Qi A w F b s)(i:Int):(Instr.lookup 93 (.map (some A.m)) (ZI i) false).run prog w=.ok (Qad A s i) w:=by
 obtain⟨L,k,G,c,_,_⟩:=h.collOf;have d:=Du (P:=prog) c.map underlying93 underlying3 (Qf7 w) i;rw[c.look i,<-So k c.nodup]at d;have q:((s.leaf i).map λ_=>ptr (A.ad i)).getD (.pointer none)=Qad A s i:=by unfold Qad;cases s.leaf i<;>rfl
 rw[q]at d;exact d
theorem G7{i:Int}{l:Qw}(c:s.leaf i=some l):Qad A s i=ptr (A.ad i):=by unfold Qad;rw[c]
theorem Qae{i:Int}(c:s.leaf i=none):Qad A s i=.pointer none:=by unfold Qad;rw[c]
theorem Qi.nodup(h:Qi A w F b s):(s.aI.map Qw.id).Nodup:=by obtain⟨L,d,G,c,_⟩:=h.collOf;exact((d.map _).nodup_iff).1 c.nodup
theorem Qi.once(h:Qi A w F b s):∃p G,Qh w A.rb #[ptr p] 185/\Jg w G p s.row:=by obtain⟨G,d,_⟩:=h.rowOf;obtain⟨p,c,q,k,_⟩:=d.ex;exact⟨p,c,q,k⟩
variable{l:Qw}{a:Nat}
theorem Yj.cells(h:Yj w F a l):∃qb dv,Qh w a #[ptr qb,dv] 107/\(∃r,Jz w qb r l.pk l.bt l.q)/\∃G,Kv w G dv l.debt:=by obtain⟨qb,dv,h⟩:=h;obtain⟨u,d,_⟩:=J6 (U5 a qb dv l) 0 rfl h;obtain⟨z,⟨r,k,_⟩,_⟩:=J6 (U5 a qb dv l) 1 rfl h;obtain⟨c,q,_⟩:=J6 (U5 a qb dv l) 2 rfl h;exact⟨qb,dv,d.1,⟨r,k⟩,c,q⟩
theorem Yj.opn(h:Yj w F a l):∃E B,Qh w a #[ptr E,B] 107/\
  (∃G:Fp,quS E l.pk l.bt l.q w G/\(∀k,G k->F k)/\¬G a/\∀w' q',quS E l.pk l.bt q' w' (Qn G w w')->Qc G w w'->Yj w' (Qn F w w') a {l with q:=q'}/\Qc F w w')/\
  (∃G:Fp,Kv w G B l.debt/\(∀k,G k->F k)/\¬G a/\∀w' d',Kv w' (Qn G w w') B d'->Qc G w w'->Yj w' (Qn F w w') a {l with debt:=d'}/\Qc F w w'):=by
 obtain⟨E,B,h⟩:=h;have hh:=h;obtain⟨u,G0,R0,U,⟨ab,I,R1,g1,⟨ac,J,R2,g2,_,_,s4,_⟩,d1,s2,s3⟩,d0,s0,s1⟩:=hh;have n1:¬I a:=λc=>d0 a U.2.1 (s2 _ c);have n2:¬J a:=λc=>d0 a U.2.1 (s3 _ (s4 _ c));have Z:∀k,I k->F k:=λk c=>s1 _ (s2 _ c);have f2:∀k,J k->F k:=λk c=>s1 _ (s3 _ (s4 _ c));have K:Jl I J:=λk c aa=>d1 k c (s4 _ aa);have ga:F a:=s0 _ U.2.1;have R:Bd I w:=u.sub Z;have z:Bd J w:=u.sub f2;refine⟨E,B,U.1,⟨I,g1,Z,n1,λw' q' hq d=>?_⟩,⟨J,g2,f2,n2,λw' d' hd d=>?_⟩⟩
 .have V:=d.sub Z;refine⟨⟨E,B,?_⟩,V⟩;have hB:Qh w' a #[ptr E,B] 107:=d.blk U.1 n1;refine Q7 (G:=λk=>k=a) (H:=λk=>Qn I w w' k\/J k) ⟨hB,rfl,λk e=>e▸hB.lt⟩ ?_ ?_ (λk e=>.inl (e▸ga)) ?_ (u.ext V);·refine Q7 (G:=Qn I w w') (H:=J) hq (Y6 ((Kv.good B l.debt).aB g2 d K.symm) (z.later d)) (Jl.extL K z) (λk c=>.inl c) (λk c=>.inr c) ?_;exact λk c=>c.elim (R.ext d k) (z.later d k)
  .rintro k rfl(c|c);·exact c.elim n1 λc=>by have:=u _ ga;omega
   .exact n2 c
  .exact λk c=>c.elim (Qn.mono Z k) λc=>.inl (f2 k c)
 .have V:=d.sub f2;refine⟨⟨E,B,?_⟩,V⟩;have hB:Qh w' a #[ptr E,B] 107:=d.blk U.1 n2;refine Q7 (G:=λk=>k=a) (H:=λk=>I k\/Qn J w w' k) ⟨hB,rfl,λk e=>e▸hB.lt⟩ ?_ ?_ (λk e=>.inl (e▸ga)) ?_ (u.ext V);·refine Q7 (G:=I) (H:=Qn J w w') ((Lm E l.pk l.bt l.q).aB g1 d K) (Y6 hd (z.ext d)) (Jl.extR K R) (λk c=>.inl c) (λk c=>.inr c) ?_;exact λk c=>c.elim (R.later d k) (z.ext d k)
  .rintro k rfl(c|c);·exact n1 c
   .exact c.elim n2 λc=>by have:=u _ ga;omega
  .exact λk c=>c.elim (λc=>.inl (Z k c)) (Qn.mono f2 k)
end
section
variable{A:Tb}{w:World}{F:Fp}{b:Nat}{s:Qf}
theorem Ku(h:Qi A w F b s)(q:1<=s.most):ZW 41 #[ptr b] w (.bool false) λw'=>w=w':=by
 have k:=Ym h.blk;have d:(s.most==0)=false:=by
  have:s.most≠0:=by omega
  simpa using this
 have c:decide (s.most=0)=false:=by
  have:s.most≠0:=by omega
  simpa using this
 unfold ptr;clear h;apply WH func41;exact WE
theorem Qiz(c:Int)(w)(h:c<1\/65536<=c):ZW 30 #[ZI c] w (.tuple #[.pointer none,ZI 2]) λw'=>Qc Qb w w':=by
 have C:=O (Zg Qb w).drew;by_cases d:c<1
 .have k:decide (c<1)=true:=by simpa using d
  apply WH func30;go_wp2;go_ret2;refine⟨rfl,?_⟩;(exact Z0)
 .have q:65536<=c:=h.resolve_left d;have k:decide (c<1)=false:=by simp;omega
  have u:decide (65536<=c)=true:=by simpa using q
  apply WH func30;go_wp2;go_ret2;refine⟨rfl,?_⟩;(exact Z0)
theorem Qeb(c:Int)(h1:1<=c)(h2:c<65536)(w):Cl 30 #[ZI c] w λe w'=>∃b,e=.returned (.tuple #[ptr b,ZI 0])/\Qt w' (Qn Qb w w') b (Qf.new c)/\Qc Qb w w':=by
 have HN:=O Qos;have EN:=O Qod;have PN:=O Qpk;have ae:=@run_makeMap prog;have d1:decide (c<1)=false:=by simp;omega
 have d2:decide (65536<=c)=false:=by simp;omega
 have aa:Hi (∀w1 w3 d z u q,Qc Qb w w1->Q9 w1 (Qn Qb w w1) z []->Qc Qb (w1.alloc (.map #[] 0)) w3->Yq w3 (Qn Qb (w1.alloc (.map #[] 0)) w3) u []->Qc Qb w3 d->Yr d (Qn Qb w3 d) q Qe.new->
   Qt (d.alloc (.cells #[ZI c,ptr z,.map (some w1.heap.size),ptr u,ptr q] 97)) (Qn Qb w (d.alloc (.cells #[ZI c,ptr z,.map (some w1.heap.size),ptr u,ptr q] 97))) d.heap.size (Qf.new c)/\Qc Qb w (d.alloc (.cells #[ZI c,ptr z,.map (some w1.heap.size),ptr u,ptr q] 97))):=O (by
  intro w1 w3 d z u q J Z I R B V;have c2:Qc Qb w1 (w1.alloc (.map #[] 0)):=(Zg _ _).alloc _;have ac:Xq (w1.alloc (.map #[] 0)) w1.heap.size []:=Xq.new w1;have hz:(w1.alloc (.map #[] 0)).heap.size=w1.heap.size+1:=by simp
  generalize w1.alloc (.map #[] 0)=w2 at*;have K:Qc Qb d (d.alloc (.cells #[ZI c,ptr z,.map (some w1.heap.size),ptr u,ptr q] 97)):=(Zg _ _).alloc _;have hB:Qh (d.alloc (.cells #[ZI c,ptr z,.map (some w1.heap.size),ptr u,ptr q] 97)) d.heap.size #[ZI c,ptr z,.map (some w1.heap.size),ptr u,ptr q] 97:=Qh.new _ _ _;generalize d.alloc (.cells #[ZI c,ptr z,.map (some w1.heap.size),ptr u,ptr q] 97)=E at*;have s1:=J.size;have s3:=I.size;have s4:=B.size;have s5:=hB.lt;refine⟨⟨⟨z,w1.heap.size,u,q,λ_=>0⟩,[],List.Perm.refl _,?_⟩,(((J.aA c2).aA I).aA B).aA K⟩;have t5:Q9 E (Qn Qb w w1) z []:=Q9.obj.aB Z (((c2.aA I).aA B).aA K) (Jl.none _);have m5:Xq E w1.heap.size []:=ac.aB ((I.aA B).aA K) (λh=>h);have e5:Yq E (Qn Qb w2 w3) u []:=Yq.obj.aB R (B.aA K) (Jl.none _);have p5:Yr E (Qn Qb w3 d) q Qe.new:=Yr.obj.aB V K (Jl.none _);have ab:Bd (Qn Qb w E) E:=λk hk=>((Qr k).1 hk).2;have bd:∀{U:Fp},(∀k,U k->w.heap.size<=k/\k<E.heap.size)->Bd U E:=λh k hk=>(h k hk).2;refine Q7 (G:=λk=>k=d.heap.size) (H:=λk=>w.heap.size<=k/\k<d.heap.size) ⟨hB,rfl,λk e=>e▸s5⟩ ?_ (λk e h=>by omega) (λk e=>(Qr k).2 (by omega)) (λk h=>(Qr k).2 (by omega)) ab;refine Q7 (G:=Qn Qb w w1) (H:=λk=>w1.heap.size<=k/\k<d.heap.size) t5 ?_ (λk e h=>by have:=(Qr k).1 e;omega) (λk e=>by have:=(Qr k).1 e;omega) (λk h=>by omega) (bd λk h=>by omega);refine Q7 (G:=λk=>k=w1.heap.size) (H:=λk=>w2.heap.size<=k/\k<d.heap.size) (Yn.new m5 (λk e=>by rw[e];exact m5.lt) rfl) ?_ (λk e h=>by omega) (λk e=>by omega) (λk h=>by omega) (bd λk h=>by omega);refine Q7 (G:=Qn Qb w2 w3) (H:=Qn Qb w3 d) e5 (Y6 p5 (Yr.obj.bd p5)) (λk e h=>by have:=(Qr k).1 e;have:=(Qr k).1 h;omega) (λk e=>by have:=(Qr k).1 e;omega) (λk h=>by have:=(Qr k).1 h;omega) (bd λk h=>by omega))
 apply WH func30;go_wp2_with fail;refine(HN.o _).mono ?_;rintro e w1⟨z,rfl,Z,J⟩;have T1:=O (Zt J Z);clear J Z;go_wp2_with fail;refine(EN.o _).mono ?_;rintro e w3⟨u,rfl,R,I⟩;have T3:=O (Zt I R);clear I R;go_wp2_with fail;refine(PN.o _).mono ?_;rintro e d⟨q,rfl,V,B⟩;have FF:=O (aa.o w1 w3 d z u q T1.o.1 T1.o.2 T3.o.1 T3.o.2 B V);clear B V;exact WG FF
end
section
open Go.Shelf
def Tryz.lays189_ren:Go.Shelf.Ren:=⟨fun|189=>86|125=>143|257=>142|128=>201|129=>202|294=>192|295=>193|296=>194|297=>195|298=>196|299=>197|216=>198|300=>199|301=>200|328=>236|329=>237|330=>238|331=>239|332=>240|215=>241|343=>256|n=>n,fun|28=>100|3=>3|46=>215|0=>0|51=>280|53=>22|4=>4|183=>273|182=>272|131=>115|5=>5|9=>9|218=>302|222=>305|228=>326|229=>60|n=>n,fun|n=>n⟩
theorem Tryz.lays189:Go.Proofs.Lays.n189 prog Tryz.lays189_ren:={
 mixed:=by kernel_rfl
 f125:=func143.trans (congrArg some (by kernel_rfl))
 f128:=func201.trans (congrArg some (by kernel_rfl))
 f129:=func202.trans (congrArg some (by kernel_rfl))
 f189:=func86.trans (congrArg some (by kernel_rfl))
 f215:=func241.trans (congrArg some (by kernel_rfl))
 f216:=func198.trans (congrArg some (by kernel_rfl))
 f257:=func142.trans (congrArg some (by kernel_rfl))
 f294:=func192.trans (congrArg some (by kernel_rfl))
 f295:=func193.trans (congrArg some (by kernel_rfl))
 f296:=func194.trans (congrArg some (by kernel_rfl))
 f297:=func195.trans (congrArg some (by kernel_rfl))
 f298:=func196.trans (congrArg some (by kernel_rfl))
 f299:=func197.trans (congrArg some (by kernel_rfl))
 f300:=func199.trans (congrArg some (by kernel_rfl))
 f301:=func200.trans (congrArg some (by kernel_rfl))
 f328:=func236.trans (congrArg some (by kernel_rfl))
 f329:=func237.trans (congrArg some (by kernel_rfl))
 f330:=func238.trans (congrArg some (by kernel_rfl))
 f331:=func239.trans (congrArg some (by kernel_rfl))
 f332:=func240.trans (congrArg some (by kernel_rfl))
 f343:=func256.trans (congrArg some (by kernel_rfl))
 t0:=underlying0
 a0:=Tryz.isAgg0
 z0:=Tryz.sizeOf0
 v0:=Tryz.zeroValue0
 t3:=underlying3
 a3:=Tryz.isAgg3
 z3:=Tryz.sizeOf3
 v3:=Tryz.zeroValue3
 t4:=underlying4
 a4:=Tryz.isAgg4
 z4:=Tryz.sizeOf4
 v4:=Tryz.zeroValue4
 t5:=underlying5
 a5:=Tryz.isAgg5
 z5:=Tryz.sizeOf5
 v5:=Tryz.zeroValue5
 t9:=underlying9
 a9:=Tryz.isAgg9
 z9:=Tryz.sizeOf9
 v9:=Tryz.zeroValue9
 t28:=underlying100
 a28:=Tryz.isAgg100
 z28:=Tryz.sizeOf100
 v28:=Tryz.zeroValue100
 t46:=underlying215
 a46:=Tryz.isAgg215
 z46:=Tryz.sizeOf215
 v46:=Tryz.zeroValue215
 t51:=underlying280
 a51:=Tryz.isAgg280
 z51:=Tryz.sizeOf280
 v51:=Tryz.zeroValue280
 t53:=underlying22
 a53:=Tryz.isAgg22
 z53:=Tryz.sizeOf22
 v53:=Tryz.zeroValue22
 t131:=underlying115
 a131:=Tryz.isAgg115
 z131:=Tryz.sizeOf115
 v131:=Tryz.zeroValue115
 t182:=underlying272
 a182:=Tryz.isAgg272
 z182:=Tryz.sizeOf272
 v182:=Tryz.zeroValue272
 t183:=underlying273
 a183:=Tryz.isAgg273
 z183:=Tryz.sizeOf273
 v183:=Tryz.zeroValue273
 t218:=underlying302
 a218:=Tryz.isAgg302
 z218:=Tryz.sizeOf302
 v218:=Tryz.zeroValue302
 t222:=underlying305
 a222:=Tryz.isAgg305
 z222:=Tryz.sizeOf305
 v222:=Tryz.zeroValue305
 t228:=underlying326
 a228:=Tryz.isAgg326
 z228:=Tryz.sizeOf326
 v228:=Tryz.zeroValue326
 t229:=underlying60
 a229:=Tryz.isAgg60
 z229:=Tryz.sizeOf60
 v229:=Tryz.zeroValue60}
open Go.Sort Go.RowKit in
theorem Tryz.slices_Sort_int(blk off cap:Nat)(zs:List Int)(w:World)(hH:Holds (Value.int .i64) w blk off zs.toArray)(hblk:blk<w.heap.size)(hsz:zs.length<4611686018427387904):
  Cl 86 #[.slice (some ⟨blk,off,none⟩) zs.length cap] w λe w'=>
   e=.returned (.tuple #[])/\∃n os,w'=grow (putRow (Value.int .i64) (Sort.ahead w n) blk off (zs.mergeSort λx y=>decide (x<=y)).toArray) os:=Any.slices_Sort_int Tryz.lays189 blk off cap zs w hH hblk hsz
open Go.RowKit Go.Sort in
theorem Tryz.slices_Sort_int_none(p:Option Addr)(cap:Nat)(w:World):
  ZW 86 #[.slice p 0 cap] w (.tuple #[]) λw'=>w'=w:=Any.slices_Sort_int_none Tryz.lays189 p cap w
end
section
variable{w:World}{g:Nat}
theorem Qt6{cap:Nat}{d:List Int}{q:Array Value}{t:TypeId}(E:Qh w g q t)(K:q.size=cap)(R:d.length<=cap)(n:Nat)(B:Array Obj):
  ∃c,Qh (Sort.grow (Sort.putRow (Value.int .i64) (Sort.ahead w n) g 0 d.toArray) B) g c t/\c.size=cap/\(∀(k:Nat)(y:Int),d[k]? =some y->c[k]? =some (ZI y))/\Qc (λk=>k=g) w (Sort.grow (Sort.putRow (Value.int .i64) (Sort.ahead w n) g 0 d.toArray) B):=by
 have Xg:=E.lt;have J:∀k,k<w.heap.size->(Sort.grow (Sort.putRow (Value.int .i64) (Sort.ahead w n) g 0 d.toArray) B).heap[k]? =if g=k then(w.heap[k]?).map (Sort.onCells (Sort.putCells (Value.int .i64) 0 d.toArray))else w.heap[k]? :=λk u=>by show(w.heap.modify g _++B)[k]? =_;rw[Array.getElem?_append_left (by simpa using u),Array.getElem?_modify]
 refine⟨Sort.putCells (Value.int .i64) 0 d.toArray q,?_,?_,λk y u=>?_,rfl,rfl,rfl,?_,λk u I=>?_⟩;·unfold Qh at E|-;rw[J g Xg,if_pos rfl,E];rfl
 .unfold Sort.putCells;simpa using K
 .have z:k<d.length:=(Z1.1 u).1;unfold Sort.putCells;rw[Array.getElem?_mapIdx,Array.getElem?_eq_getElem (by omega)];simp only[Zn];rw[if_pos ⟨by omega,by simpa using z⟩];simp only[Nat.sub_zero];have:d.toArray[k]! =y:=by rw[getElem!_pos _ k (by simpa using z)];have:=(Z1.1 u).2;simpa using this
  rw[this]
 .show w.heap.size<=(w.heap.modify g _++B).size;simp
 .rw[J k u,if_neg (λe=>I e.symm)]
theorem N7{v:Value}{l:List Int}(u:Q6 w v l)(hl:l.length<4611686018427387904):
  ZW 86 #[v] w (.tuple #[]) λw'=>Q6 w' v (l.mergeSort λx y=>decide (x<=y))/\Qc (λk=>v.ownBlock=some k) w w':=by
 by_cases E:l=[]
 .subst E;obtain⟨a,cap,rfl,_⟩:=u.row intT.hc;apply Zz (Tryz.slices_Sort_int_none a cap w);rintro w' rfl;refine⟨rfl,?_,Zg _ _⟩;have:([]:List Int).mergeSort (λx y=>decide (x<=y))=[]:=by simp
  rw[this];exact u
 .obtain⟨g,cap,V,rfl,q,hs,hc,hn,hm⟩:=u.opn E;have Z:Sort.Holds (Value.int .i64) w g 0 l.toArray:=λj I=>by
   have z:j<l.length:=by simpa using I
   refine⟨?_,q.frozen _⟩;rw[Nat.zero_add,q.cell,hc j _ (List.getElem?_eq_getElem z)];congr 2;rw[getElem!_pos _ j I];simp
  apply Zz (Tryz.slices_Sort_int g 0 cap l w Z q.lt hl);rintro w'⟨n,os,rfl⟩;have c:(l.mergeSort λx y=>decide (x<=y)).length=l.length:=List.length_mergeSort _;obtain⟨B,J,K,R,U⟩:=Qt6 (d:=l.mergeSort λx y=>decide (x<=y)) q hs (by omega) n os;refine⟨rfl,?_,U.mono λk e=>.inl (by rw[e];rfl)⟩;have:=Q6.mk J K (by omega) hm R;rw[c]at this;exact this
end
section
variable{h:Qm}
theorem Db(h:Qm)(i:Int):(h.aI i).length<=h.length:=by unfold Qm.aI;rw[List.length_map];exact List.length_filter_le _ _
theorem Qm7(h:Qm)(l:List Int):(l.flatMap h.aI).length<=l.length*h.length:=by
 induction l with
 |nil=>simp
 |cons x l c=> rw[List.flatMap_cons,List.length_append,Zm,Nat.add_mul];have:=Db h x;omega
theorem Ec(h:Qm){i:Int}{c:Vm}(d:h.at i=some c):h.get i=c:=by unfold Qm.get;rw[d];rfl
theorem Ot(ok:J8 h):∀(n:Nat){w}{F:Fp}{b:Nat}(hh:Q9 w F b h)(id:Int),9<=Xk h id+n->
  Cl 47 #[ptr b,ZI id] w λe w'=>∃v,e=.returned v/\Q6 w' v (h.aI id)/\(∀k,v.ownBlock=some k->w.heap.size<=k)/\Qc Qb w w'
 |0,w,F,b,hh,id,hd=>by
  exfalso;cases z:h.at id with
  |none=>rw[Kr z]at hd;omega
  |some c=>have:=Nl ok z;omega
 |n+1,w,F,b,hh,id,hd=>by
  have IH:=O (λ(w)(F:Fp)(b:Nat)(hh:Q9 w F b h)(id:Int)(hd:9<=Xk h id+n)=>Ot ok n hh id hd);have ab:=O (λw'(c:Qc Qb w w')=>Q9.obj.aB hh c (Jl.none F));have HG:=O (Ob hh id);have J:=ok.many;have V:Hi (∀i,(h.aM i).length<=64):=O (λi=>by
   have:(h.aM i).length<=h.length:=by unfold Qm.aM;rw[List.length_map];exact List.length_filter_le _ _
   omega)
  have ST:Hi (∀w1,Qc Qb w w1->∃d,Qc Qb w d/\w1.heap.size<d.heap.size/\d.cell? ⟨w1.heap.size,2,none⟩=some (.bool (h.get id).sp.leaf)/\
    (storeCells ⟨w1.heap.size,0,none⟩ (Es (h.get id).sp).toList 0).run prog (w1.alloc (.cells Z5 29))=.ok () d):=O (by
   intro w1 c1;obtain⟨d,s2,al,C2⟩:=Q0 (P:=prog) (vs:=Es (h.get id).sp) (Qh.new w1 Z5 29) rfl (Hl _);have s1:=c1.size;refine⟨d,c1.aA (((Zg Qb w1).alloc _).trans C2 λk e=>.inr (by omega)),al.lt,?_,?_⟩;·rw[al.cell];rfl
   .exact s2)
  by_cases E:∃c,h.at id=some c/\c.sp.leaf=true
  .obtain⟨c,z,Z⟩:=E;have a1:(h.get id).sp.leaf=true:=by rw[Ec h z];exact Z
   have K:(h.at id).isSome=true:=by rw[z];rfl
   have LV:=O (Rf ok z Z);have U:Hi (∀d,Qc Qb w d->Q6 (d.alloc (.cells #[ZI id] 3)) (.slice (some ⟨d.heap.size,0,none⟩) 1 1) (h.aI id)/\(∀k,(Value.slice (some ⟨d.heap.size,0,none⟩) 1 1).ownBlock=some k->w.heap.size<=k)/\Qc Qb w (d.alloc (.cells #[ZI id] 3))):=O (by
    intro d c2;rw[LV.o];refine⟨Q6.mk (l:=[id]) (Qh.new d #[ZI id] 3) rfl (Zv _) (by decide) (λk y hk=>?_),λk hk=>?_,c2.alloc _⟩
    .cases k with
     |zero=>obtain rfl:=Zs hk;rfl
     |succ k=>cases hk
    .have e:d.heap.size=k:=Zs hk;have:=c2.size;omega)
   rw[K]at HG;clear z Z hd K hh;apply WH func47;go_wp2_with fail;apply Zy HG;intro w1 c1;obtain⟨d,C2,Xg,B,bb⟩:=ST.o w1 c1;rw[a1]at B;have FF:=O (U.o d C2);clear c1 C2 Xg;go_wp2_with fail;go_ret;exact⟨_,rfl,FF.o⟩
  .have hl:∀c,h.at id=some c->c.sp.leaf=false:=λc z=>by
    cases e:c.sp.leaf with
    |false=>rfl
    |true=>exact absurd ⟨c,z,e⟩ E
   have LS:=O (Qhp ok hl);have u:((h.at id).isSome&&(h.get id).sp.leaf)=false:=by
    cases z:h.at id with
    |none=>rfl
    |some c=>rw[Ec h z,hl c z];rfl
   have CH:Hi (∀x∈h.aM id,9<=Xk h x+n):=O (λx hx=>by
    obtain⟨c,z,rfl,hp⟩:=Dv.1 hx;rcases Oq ok (Da ok.sorted z)with⟨e1,e2⟩|⟨q,hq,_,e2⟩;·have:Xk h id=0:=Kr (ok.zero (by omega));omega
    .rw[hp]at e2;omega)
   have HU:=O (λw'(c:Qc Qb w w')=>P8 (ab.o w' c) id (by have:=V.o id;omega));have I:=O J;generalize a8:(h.at id).isSome=ai at HG u;clear hd E hl hh J a8;apply WH func47;go_wp2_with fail;apply Zy HG;intro w1 c1;obtain⟨d,C2,Xg,B,bb⟩:=ST.o w1 c1;have aj:=O C2;generalize a7:(h.get id).sp.leaf=lf at B u;clear c1 C2 Xg;have a9:ai=false\/(ai=true/\lf=false):=by
    cases ai with
    |false=>exact .inl rfl
    |true=>exact .inr ⟨rfl,by simpa using u⟩
   clear u a7;rcases a9 with rfl|⟨rfl,rfl⟩;all_goals
    go_wp2_with fail;refine(HU.o d aj.o).mono ?_;rintro e w3⟨uv,rfl,hI,ap,c3⟩;obtain⟨a,cap,rfl,an,_,_⟩:=hI.row intT.hc;have HI:=O hI;have C3:=O (aj.o.aA c3);obtain⟨n0,ah⟩:=Zx ((h.aM id).length);have ag:=O ah;rw[<-ah]at an|-;clear hI ap c3 ah;go_wp2_with fail;go_loopw [7,9,27] (λtv _ ti wr=>∃(k:Nat),ti=ZI k/\k<=n0/\Q6 wr tv (((h.aM id).take k).flatMap h.aI)/\(∀j,tv.ownBlock=some j->w3.heap.size<=j)/\Qc Qb w3 wr) (λ_ _ ti _=>n0-(intOf ti).toNat);case atStart=>exact⟨0,rfl,Nat.zero_le _,Q6.nil _,nofun,Zg _ _⟩
    case round=>
     obtain⟨k,rfl,hk,hA,hO,z⟩:=hrel;have HA:=O hA;have HO:=O hO;have HC:=O z;clear hA hO z;by_cases bh:k<n0
     .have hd:decide ((k:Int)<(n0:Int))=true:=by simp;omega
      have aa:k<(h.aM id).length:=by have:=ag.o;omega
      have ao:h.aM id≠[]:=λe=>by rw[e]at aa;simp at aa
      obtain⟨g,be,bf,ba,hB,bc,ac,_,_⟩:=HI.o.opn ao;injection ba with h1 h2 h3;subst h1;obtain⟨x,hx⟩:∃x,(h.aM id)[k]? =some x:=⟨_,List.getElem?_eq_getElem aa⟩;have Z:wr.cell? ⟨g,k,none⟩=some (ZI x):=by rw[(HC.o.blk hB (λh=>h)).cell];exact ac k x hx
      have aw:x∈h.aM id:=List.mem_of_getElem? hx;have HL:=O (IH.o wr F b (ab.o wr (C3.o.aA HC.o)) x (CH.o x aw));have bg:IntKind.i64.wrap ((k:Int)+1)=(k:Int)+1:=by have h4:=V.o id;have h5:=ag.o;rw[IntWalk.i64_in _ (by omega)]
      have TK:=O (show(h.aM id).take (k+1)=(h.aM id).take k++[x] by rw[List.take_add_one,hx];rfl);have LN:Hi ((((h.aM id).take k).flatMap h.aI).length+(h.aI x).length<=4096+64):=O (by
       have h1:=Qm7 h ((h.aM id).take k);have h2:=Db h x;have h3:=I.o;have h4:=V.o id;have h5:((h.aM id).take k).length<=64:=by rw[List.length_take];omega
       have h6:((h.aM id).take k).length*h.length<=64*64:=Nat.mul_le_mul h5 h3;omega)
      clear aa ao hB bc ac hx aw h2 h3;go_wp2_with fail;apply Zo HL;rintro e w4⟨vx,rfl,av,bd,c4⟩;obtain⟨ax,cx,rfl,_,ak,aq⟩:=av.row intT.hc;have az:=O aq;have C4:=O c4;have ay:=O ak;clear av bd c4 aq ak;go_wp2_with (at_builtin;refine Jj intT rfl (.tmp 31) (.tmp 34) rfl _ (((h.aM id).take k).flatMap h.aI) rfl (Q6.aB HA.o C4.o (λ_ _ h=>h)) _ _ (h.aI x) rfl ?a2 ?a3 ?a4 ?a5 ?a6);case a2=>exact ay.o
      case a3=>exact az.o
      case a4=>have:=LN.o;simp only[maxLen];omega
      case a5=>have:=LN.o;omega
      case a6=>
       intro v' w5 af am au;have C5:Hi (Qc Qb w3 w5):=O ((HC.o.aA C4.o).trans am (λj R=>.inr (HO.o j R)));have O5:Hi (∀j,v'.ownBlock=some j->w3.heap.size<=j):=O (λj R=>by
        rcases au with e|e;·rw[e]at R;exact HO.o j R
        .rw[e]at R;have e2:w4.heap.size=j:=Zs R;have:=HC.o.size;have:=C4.o.size;omega)
       have a0:=O af;clear af am au;go_wp2;go_roundw;case measure=>simp only[intOf];omega
       case rel=> refine⟨k+1,by rw[<-Int.natCast_one,<-Int.natCast_add],by omega,?_,O5.o,C5.o⟩;have:=a0.o;rw[TK.o,List.flatMap_append];simpa using this
     .have hd:decide ((k:Int)<(n0:Int))=false:=by simp;omega
      have ae:k=(h.aM id).length:=by have:=ag.o;omega
      have HS:=O (N7 HA.o (by
       have h1:=Qm7 h ((h.aM id).take k);have h3:=I.o;have h4:=V.o id;have h5:((h.aM id).take k).length<=64:=by rw[List.length_take];omega
       have h6:((h.aM id).take k).length*h.length<=64*64:=Nat.mul_le_mul h5 h3;omega))
      have TK:=O (show(h.aM id).take k=h.aM id by rw[ae,List.take_length]);clear ae;go_wp2_with fail;apply ZQ HS;intro w4 U;go_wp2;go_ret;refine⟨_,rfl,?_,?_,?_⟩;·have:=U.o.1;rw[TK.o,LS.o]at this;exact this
      .intro j R;have:=HO.o j R;have:=C3.o.size;omega
      .exact C3.o.aA (HC.o.trans U.o.2 λj R=>.inr (HO.o j R))
end
theorem Qjd{f:Int->Int}{l:List Int}{k:Nat}{x:Int}(c:l[k]? =some x):((l.take (k+1)).map f).sum=((l.take k).map f).sum+f x:=by rw[List.take_add_one,c];simp
theorem Qmn{f:Int->Int}{B:Int}:∀{l:List Int},(∀x∈l,0<=f x/\f x<=B)->0<=(l.map f).sum/\(l.map f).sum<=l.length*B
 |[],_=>by simp
 |x::l,h=>by
  have d:=h x (by simp);have k:=Qmn (l:=l) (λy c=>h y (by simp[c]));rw[List.map_cons,List.sum_cons,Zm];have:((l.length+1:Nat):Int)*B=(l.length:Int)*B+B:=by rw[Int.natCast_add,Int.add_mul];simp
  omega
section
variable{A:Tb}{w:World}{F:Fp}{b:Nat}{s:Qf}{N:Nat}
theorem Qi.leafQ(h:Qi A w F b s){i:Int}{l:Qw}(d:s.leaf i=some l):∃qb dv,Qh w (A.ad i) #[ptr qb,dv] 107/\(∃r,Jz w qb r l.pk l.bt l.q)/\∃G,Kv w G dv l.debt:=by obtain⟨G,c,_⟩:=h.leafOf d;exact c.cells
theorem Qi.bounds(h:Qi A w F b s)(i:Int):(0<=((s.qOf i).length:Int)/\((s.qOf i).length:Int)<=4096)/\0<=Jn (s.qOf i)/\Jn (s.qOf i)<=16777216:=by
 cases d:s.leaf i with
 |none=>rw[Qbc d];exact⟨⟨by simp,by simp⟩,by simp[Jn],by simp[Jn]⟩
 |some l=> rw[Ov d];obtain⟨I,q,_,⟨r,c⟩,_⟩:=h.leafQ d;have u:=c.many;have z:=c.pk2;have B:=c.held;have E:=c.bt2;have k:=Hd _ c.good;exact⟨⟨by omega,by omega⟩,k,by omega⟩
theorem Dn(h:Qi A w F b s)(J:Xp N s)(id:Int):ZW 20 #[ptr b,ZI id] w (.tuple #[ZI (s.many id),ZI (s.bytes id)]) λw'=>Qc Qb w w':=by
 have K:=O (λw'(c:Qc Qb w w')=>(Qi.obj A).aB h c (Jl.none F));have HN:=O (Ku h J.most.1);have a0:=Ym h.blk;obtain⟨Gt,ht,_⟩:=h.treeOf;have ag:=O (Ot J.tree 9 ht id (by omega));have BD:=O h.bounds;have R:Hi ((s.tree.aI id).length<=64):=O (Zp (Db _ _) J.tree.many);have LF:Hi (∀x∈s.tree.aI id,∃l,s.leaf x=some l):=O (λx I=>by
  obtain⟨c,hc,rfl,ab,_⟩:=Y8.1 I;exact J.lv _ c (Da J.tree.sorted hc) ab)
 unfold Qf.many Qf.bytes;clear h J ht;apply WH func20;go_wp2_with fail;apply Zy HN;rintro w1 rfl;go_wp2_with fail;apply Zo ag;rintro e w2⟨uv,rfl,hI,_,c2⟩;obtain⟨a,cap,rfl,aa,_,_⟩:=hI.row intT.hc;have HI:=O hI;have C2:=O c2;obtain⟨n0,E⟩:=Zx ((s.tree.aI id).length);have z:=O E;rw[<-E]at aa|-;clear hI c2 E a0;go_wp2_with fail;go_loopw [4,5,7,17] (λt4 t5 _ ti wr=>∃(k:Nat),ti=ZI k/\k<=n0/\t4=ZI ((((s.tree.aI id).take k).map λx=>((s.qOf x).length:Int)).sum)/\t5=ZI ((((s.tree.aI id).take k).map λx=>Jn (s.qOf x)).sum)/\Qc Qb w2 wr) (λ_ _ _ ti _=>n0-(intOf ti).toNat);case atStart=>exact⟨0,rfl,Nat.zero_le _,rfl,rfl,Zg _ _⟩
 case round=>
  obtain⟨k,rfl,hk,rfl,rfl,hc⟩:=hrel;have HC:=O hc;clear hc;by_cases ap:k<n0
  .have hd:decide ((k:Int)<(n0:Int))=true:=by simp;omega
   have d:k<(s.tree.aI id).length:=by have:=z.o;omega
   have ac:s.tree.aI id≠[]:=λe=>by rw[e]at d;simp at d
   obtain⟨g,am,an,ak,hB,al,q,_,_⟩:=HI.o.opn ac;injection ak with h1 h2 h3;subst h1;obtain⟨x,I⟩:∃x,(s.tree.aI id)[k]? =some x:=⟨_,List.getElem?_eq_getElem d⟩;have ab:wr.cell? ⟨g,k,none⟩=some (ZI x):=by rw[(HC.o.blk hB (λh=>h)).cell];exact q k x I
   have ae:x∈s.tree.aI id:=List.mem_of_getElem? I;obtain⟨l,hl⟩:=LF.o x ae;have hS:=K.o wr (C2.o.aA HC.o);have b0:=Ym hS.blk;have aj:=hS.look1 x;rw[G7 hl]at aj;obtain⟨qb,dv,Z,⟨r,hq⟩,_⟩:=hS.leafQ hl;have l0:=Q4 Z;have QL:=O (Qin hq);have QB:=O (Qls hq);have ao:IntKind.i64.wrap ((k:Int)+1)=(k:Int)+1:=by have h4:=R.o;have h5:=z.o;rw[IntWalk.i64_in _ (by omega)]
   have T1:=O (Qjd (f:=λx=>((s.qOf x).length:Int)) I);have T2:=O (Qjd (f:=λx=>Jn (s.qOf x)) I);have QO:=O (Ov hl);have U:=Qmn (f:=λx=>((s.qOf x).length:Int)) (B:=4096) (l:=(s.tree.aI id).take k) (λx _=>(BD.o x).1);have V:=Qmn (f:=λx=>Jn (s.qOf x)) (B:=16777216) (l:=(s.tree.aI id).take k) (λx _=>(BD.o x).2);have tl:((s.tree.aI id).take k).length<=64:=by have:=R.o;rw[List.length_take];omega
   have bx:=BD.o x;rw[QO.o]at bx;generalize ah:(((s.tree.aI id).take k).map λx=>((s.qOf x).length:Int)).sum=P1 at*;generalize ai:(((s.tree.aI id).take k).map λx=>Jn (s.qOf x)).sum=P2 at*;have ew1:IntKind.i64.wrap (P1+(l.q.length:Int))=P1+(l.q.length:Int):=by rw[IntWalk.i64_in _ (by omega)]
   have ew2:IntKind.i64.wrap (P2+Jn l.q)=P2+Jn l.q:=by rw[IntWalk.i64_in _ (by omega)]
   clear d ac hB al q I ae h2 h3 hl hS Z hq U V tl bx ah ai;go_wp2_with fail;apply Zy QL;rintro w4 rfl;go_wp2_with fail;apply Zy QB;rintro w4 rfl;go_wp2_with fail;go_roundw;case measure=>simp only[intOf];omega
   case rel=>
    refine⟨k+1,by rw[<-Int.natCast_one,<-Int.natCast_add],by omega,?_,?_,HC.o⟩;·have:=T1.o;rw[QO.o]at this;rw[this]
    .have:=T2.o;rw[QO.o]at this;rw[this]
  .have hd:decide ((k:Int)<(n0:Int))=false:=by simp;omega
   have u:k=(s.tree.aI id).length:=by have:=z.o;omega
   have TK:=O (show(s.tree.aI id).take k=s.tree.aI id by rw[u,List.take_length]);have af:=O (C2.o.aA HC.o);rw[TK.o];clear u;exact WD af
end
section
attribute [local go_sem ↓] X8 Yd
section
variable{A:Tb}{w:World}{F:Fp}{b:Nat}{s:Qf}{N:Nat}
theorem Qbl(h:Qi A w F b s)(u:Xp N s)(id:Int):ZW 118 #[ptr b,ZI id] w (.bool (decide (0<s.many id))) λw'=>Qc Qb w w':=by have d:=O (Dn h u id);generalize s.many id=m at d|-;generalize s.bytes id=q at d;clear h u;apply WH func118;go_wp2_with fail;apply ZQ d;intro w1 c;exact WD c
theorem Uu(h:Qi A w F b s)(d:Xp N s):Cl 22 #[ptr b] w λe w'=>∃b',e=.returned (ptr b')/\Q9 w' (Qn Qb w w') b' s.tree/\Qc Qb w w':=by have B:=O (Ku h d.most.1);have I:=Ym h.blk;obtain⟨E,u,_⟩:=h.treeOf;have z:=O (Ww u (by have:=d.tree.many;omega));clear h d u;apply WH func22;go_wp2_with fail;apply Zy B;rintro w1 rfl;go_wp2_with fail;apply Zo z;rintro e w2⟨b',rfl,q,k⟩;have c:=O (Zt q k);clear q k;exact WG c
theorem Qbo(h:Qi A w F b s)(k:Xp N s):ZW 17 #[ptr b] w (ZU ((s.tick:Nat):Int)) λw'=>Qc Qb w w':=by
 have Z:=O (Ku h k.most.1);have q:=O h.blk;obtain⟨Gr,K,_⟩:=h.rowOf;obtain⟨Gp,⟨U,J⟩,_⟩:=h.pickOf;have z:=O (Qkc (Yq.obj.aB K (Zg Qb w).drew (Jl.none _)));have u:=O (λw'(c:Qc Qb w w')=>Qln ((Qo.obj U).aB J c (Jl.none _)) k.pick);unfold Qf.tick;generalize Hk s.row=x at z|-;generalize s.pick.tick=y at u|-;have a0:=Ym q.o.drew;clear h k K J;apply WH func17;go_wp2_with fail;apply Zy Z;rintro w1 rfl;go_wp2_with fail;apply YC [0,1,2,3,105,106,107,108,204,309,10,311] Qb w;iterate 4 (refine Xe (h:=?_))
 iterate 3 (refine Qy (h:=?_);try simp only[Act.put,Za,Zc,Zb])
 iterate 1 (apply YK λ_ hv=>Ym (hv.blk q.o (λh=>h)))
 clear a0;refine Yb ?_;go_wp2_with fail;apply ZF z (λ_ B=>B.aT);intro w2 d;go_wp2_with fail;refine⟨d.o,?_⟩;refine Km ?_;go_wp2_with fail;apply Zz (u.o _ d.o);intro w3 I;have V:=O (d.o.aA I);have E:=O (show((min x y:Nat):Int)=min (x:Int) (y:Int) by omega);clear I;go_wp2_with fail;apply YI 0;go_wp2;go_ret;exact⟨by rw[E.o];rfl,V.o⟩
end
end
section
variable{A:Tb}{w w1 w2:World}{F:Fp}{b:Nat}{s:Qf}{N:Nat}
theorem Qi.delLeaf(h:Qi A w F b s)(i:Int)(I ty:TypeId):
  ∃w',(Builtin.delete_ #[93,I] ty #[.map (some A.m),ZI i]).run prog w=.ok (.tuple #[]) w'/\Qi A w' (Qn F w w') b {s with aI:=s.aI.filter λl=>!decide (l.id=i)}/\Qc F w w':=by
 obtain⟨L,K,G,u,V,d⟩:=h.collOf;obtain⟨w',q,B,c⟩:=Di (P:=prog) u.map underlying93 underlying3 I ty i;have E:Qc G w w':=c.sub λk z=>z▸u.at_;have J:Yn Qw.id Yj w' (Qn G w w') A.m A.ad (Kp Qw.id i L):=(u.del Yj.obj i B c).more (λk z=>.inl z) (u.bd.ext E);obtain⟨R,U⟩:=d w' _ {s with aI:=s.aI.filter λl=>!decide (l.id=i)} (K.filter _) rfl rfl rfl rfl J E;exact⟨w',q,R,U⟩
theorem Qhe(q:Yk)(w1):∃c,Qc Qb w1 c/\Qh c w1.heap.size (Es q) 29/\
  (storeCells ⟨w1.heap.size,0,none⟩ (Es q).toList 0).run prog (w1.alloc (.cells Z5 29))=.ok () c:=by
 obtain⟨c,s2,d,u⟩:=Q0 (P:=prog) (vs:=Es q) (Qh.new w1 Z5 29) rfl (Hl _);exact⟨c,((Zg Qb w1).alloc _).trans u (λk e=>.inr (by omega)),d,s2⟩
theorem Qmd(h:Qt w F b s)(I:Xp N s)(id:Int):
  ZW 67 #[ptr b,ZI id] w (ZI (s.aP id)) λw'=>Qt w' (Qn F w w') b (s.drop id)/\Qc F w w':=by
 obtain⟨A,h⟩:=h;have R:=(Qi.obj A).bd h;have z:=O (λw'(c:Qc Qb w w')=>(Qi.obj A).aB h c (Jl.none F));have NO:Hi (∀w',Qc Qb w w'->s.aP id≠0->Qt w' (Qn F w w') b (s.drop id)/\Qc F w w'):=O (λw' c h0=>by rw[I0 h0];exact Qt.obj.same ⟨A,h⟩ c);have HN:=O (Ku h I.most.1);have U:=Ym h.blk;have HG:Hi (ZW 23 #[ptr A.tb,ZI id] w (.tuple #[.agg (Es (s.tree.get id).sp),.bool (s.tree.at id).isSome]) λw'=>Qc Qb w w'):=O (by
  obtain⟨G,hT,_⟩:=h.treeOf;exact Ob hT id)
 have HE:Hi (s.aP id=if(s.tree.at id).isNone then 81 else if s.tree.aM id≠[]then 161 else if 0<s.many id then 230 else 0):=O (rfl);cases hc:s.tree.at id with
 |none=> have E:=O (show s.aP id=81 by rw[HE.o,hc];rfl);rw[hc]at HG;dsimp only[Option.isSome_none]at HG;clear h I R hc;apply WH func67;go_wp2_with fail;apply Zy HN;rintro w1 rfl;go_wp2_with fail;apply Zy HG;intro w1 c1;obtain⟨W2,c2,_,ak⟩:=Qhe (s.tree.get id).sp w1;have d:=O (NO.o W2 (c1.aA c2) (by rw[E.o];decide));clear c1 c2;go_wp2_with fail;go_ret;exact⟨by rw[E.o];rfl,d.o⟩
 |some c=>
  have HU:Hi (∀w',Qc Qb w w'->Cl 85 #[ptr A.tb,ZI id] w' λe am=>∃v,e=.returned v/\Q6 am v (s.tree.aM id)/\(∀k,v.ownBlock=some k->w'.heap.size<=k)/\Qc Qb w' am):=O (λw' cc=>by
   obtain⟨G,hT,_⟩:=(z.o w' cc).treeOf;exact P8 hT id (by have:=Qwe s.tree id;have:=I.tree.many;omega))
  have u:=O (λw'(cc:Qc Qb w w')=>Qbl (z.o w' cc) I id);have ac:Hi (s.aP id=0->∀w3,Qc Qb w w3->Cl 121 #[ptr A.tb,ZI id] w3 λe J=>e=.returned (ZI 0)/\Qc F w J/\Qi A J (Qn F w J) b {s with tree:=s.tree.drop id}/\
    ZW 122 #[ptr A.pb,ZI id] J (.bool true) λw5=>Qi A w5 (Qn F w w5) b {s with tree:=s.tree.drop id,pick:=s.pick.drop id}/\
     ∃w6,(Builtin.delete_ #[93,3] 0 #[.map (some A.m),ZI id]).run prog w5=.ok (.tuple #[]) w6/\Qt w6 (Qn F w w6) b (s.drop id)/\Qc F w w6):=O (λh0 w3 c3=>by
   obtain⟨B,ai⟩:=Ng h0;obtain⟨c',ap,K⟩:=Tz ai;have ha:=I.asleep B;obtain⟨x,q,hx,i1,au,hq,ar,_⟩:=I.mt.drop I.tree I.pick ai ha;have h3:=z.o w3 c3;obtain⟨G,hT,_,aj⟩:=h3.treeOf;apply Zz (Qkl hT ap K (by have:=Qwe s.tree c'.sp.par;have:=I.tree.many;omega));rintro J⟨ao,c4⟩;obtain⟨m1,m2⟩:=aj J _ ao c4;have ag:Qc F w J:=c3.none.aA m2;have al:=(Qi.obj A).more m1 (Ke c3.size) (R.ext ag);refine⟨rfl,ag,al,?_⟩;obtain⟨Gp,⟨AP,hP⟩,_,af⟩:=al.pickOf;apply Zz (Qlj hP I.pick i1 hx au ha hq ar);rintro w5⟨an,c5⟩;obtain⟨n1,n2⟩:=af w5 _ ⟨AP,an⟩ c5;obtain⟨p1,p2⟩:=(Qi.obj A).two n1 R ag n2;refine⟨rfl,p1,?_⟩;obtain⟨w6,r6,h6,c6⟩:=p1.delLeaf id 3 0;obtain⟨q1,q2⟩:=(Qi.obj A).two h6 R p2 c6;refine⟨w6,r6,?_,q2⟩;have e:s.drop id={s with tree:=s.tree.drop id,pick:=s.pick.drop id,aI:=s.aI.filter λl=>!decide (l.id=id)}:=by unfold Qf.drop;rw[if_pos h0]
   rw[e];exact⟨A,q1⟩)
  have HA:=O h.blk;rw[hc]at HG HE;dsimp only[Option.isSome_some,Option.isNone_some]at HG HE;obtain⟨m,B⟩:=Zx (s.many id);rw[<-B]at HE u;clear h I hc B;apply WH func67;go_wp2_with fail;apply Zy HN;rintro w1 rfl;go_wp2_with fail;apply Zy HG;intro w1 c1;obtain⟨W2,c2,_,ak⟩:=Qhe (s.tree.get id).sp w1;have C2:=O (c1.aA c2);clear c1 c2 U;have U:=Ym (C2.o.blk HA.o (λh=>h));go_wp2_with fail;clear ak;refine(HU.o W2 C2.o).mono ?_;rintro e w3⟨uv,rfl,hI,_,c3⟩;obtain⟨ua,cap,rfl,_,_,_⟩:=hI.row intT.hc;have C3:=O (C2.o.aA c3);obtain⟨n0,ae⟩:=Zx ((s.tree.aM id).length);have ah:=O ae;rw[<-ae];clear hI c3 ae U;by_cases K:s.tree.aM id=[]
  .have hz:n0=0:=by rw[ah.o,K];rfl
   subst hz;by_cases B:0<m
   .have E:=O (show s.aP id=230 by rw[HE.o,if_neg (by decide),if_neg (by simpa using K),if_pos B]);have dm:decide (0<m)=true:=by simpa using B
    rw[dm]at u;clear B K dm;go_wp2_with fail;apply Z9 (u.o w3 C3.o) (λJ c4=>NO.o J (C3.o.aA c4) (by rw[E.o];decide));intro J d;go_wp2_with fail;go_ret;exact⟨by rw[E.o];rfl,d.o⟩
   .have E:=O (show s.aP id=0 by rw[HE.o,if_neg (by decide),if_neg (by simpa using K),if_neg B]);have dm:decide (0<m)=false:=by simpa using B
    rw[dm]at u;have ST:=O (ac.o E.o);clear B K dm;go_wp2_with fail;apply Z9 (u.o w3 C3.o) (λ_ c4=>C3.o.aA c4);intro J C4;have U:=Ym (C4.o.blk HA.o (λh=>h));go_wp2_with fail;clear U;apply Zz (ST.o J C4.o);rintro w5⟨c5,h5,hP⟩;have HP:=O hP;have U:=Ym h5.blk;clear hP c5 h5;go_wp2_with fail;clear U;apply Zy HP;rintro w6⟨h6,w7,r7,ab,aa⟩;have U:=Ym h6.blk;have d:=O (Zt ab aa);clear h6 ab aa;go_wp2_with fail;go_ret;exact⟨by rw[E.o];rfl,d.o⟩
  .have aq:n0≠0:=λe=>K (List.eq_nil_of_length_eq_zero (by rw[<-ah.o,e]));have E:=O (show s.aP id=161 by rw[HE.o,if_neg (by decide),if_pos K]);have dn:decide ((0:Int)<(n0:Int))=true:=by simp;omega
   have av:decide (0<n0)=true:=by simp;omega
   have d:=O (NO.o w3 C3.o (by rw[E.o];decide));clear K aq;go_wp2_with fail;go_ret;exact⟨by rw[E.o];rfl,d.o⟩
end
section
variable{A:Tb}{w w1 w2:World}{F:Fp}{b a:Nat}{s:Qf}{N:Nat}{l:Qw}
theorem Yj.owe(h:Yj w F a l):∃B J,Qh w a #[ptr B,J] 107/\∀w1 w2 q o,Qc Qb w w1->Kv w1 (Qn Qb w w1) q o->Qh w2 a #[ptr B,q] 107->Qc (λk=>k=a) w1 w2->Yj w2 (Qn F w w2) a {l with debt:=o}/\Qc F w w2:=by
 obtain⟨B,J,h⟩:=h;obtain⟨z,G0,R0,K,⟨ab,E,R1,g1,_,d1,s2,s3⟩,d0,s0,s1⟩:=h;have n1:¬E a:=λc=>d0 a K.2.1 (s2 _ c);have V:∀k,E k->F k:=λk c=>s1 _ (s2 _ c);have R:F a:=s0 _ K.2.1;have I:Bd E w:=z.sub V;refine⟨B,J,K.1,λw1 w2 q o u hd Z d=>?_⟩;have U:Qc F w w2:=(u.none (F:=F)).aA (d.sub λk e=>e▸R);have ac:=u.size;have ae:=d.size;have aa:=z _ R;refine⟨⟨B,q,?_⟩,U⟩;refine Q7 (G:=λk=>k=a) (H:=λk=>E k\/Qn Qb w w1 k) ⟨Z,rfl,λk e=>e▸Z.lt⟩ ?_ ?_ (λk e=>.inl (e▸R)) ?_ (z.ext U)
 .refine Q7 (G:=E) (H:=Qn Qb w w1) ((Lm B l.pk l.bt l.q).aB ((Lm B l.pk l.bt l.q).aB g1 u (Jl.none _)) d (λk c e=>n1 (e▸c))) (Y6 ((Kv.good q o).aB hd d (λk c e=>by have:=(Qr k).1 c;omega)) (λk c=>by have:=(Qr k).1 c;omega)) ?_ (λk c=>.inl c) (λk c=>.inr c) ?_;·intro k c he;have:=I k c;have:=(Qr k).1 he;omega
  .exact λk c=>c.elim (I.later u |>.later d k) (λc=>by have:=(Qr k).1 c;omega)
 .rintro k rfl(c|c);·exact n1 c
  .have:=(Qr k).1 c;omega
 .exact λk c=>c.elim (λc=>.inl (V k c)) (λc=>.inr (by have:=(Qr k).1 c;omega))
theorem Qfr(u:(s.aI.map Qw.id).Nodup){i:Int}{l:Qw}(q:s.leaf i=some l)(o:Option Ju):
  s.aR {l with debt:=o}={s with aI:=s.aI.map λx=>if x.id=i then{x with debt:=o}else x}:=by
 have d:Hn Qw.id i s.aI=some l:=q;obtain⟨B,k⟩:=Y3 d;unfold Qf.aR;congr 1;refine List.map_congr_left λx z=>?_;dsimp only;rw[k];by_cases c:x.id=i;·rw[if_pos c,if_pos c];rw[Zs ((Ls u z c).symm.trans d),k]
 .rw[if_neg c,if_neg c]
theorem Qh7{i:Int}(c:s.leaf i=none)(o:Option Ju):(s.aI.map λx=>if x.id=i then{x with debt:=o}else x)=s.aI:=by
 unfold Qf.leaf at c;rw[List.find?_eq_none]at c
 conv=>rhs;rw[<-List.map_id s.aI]
 refine List.map_congr_left λx d=>?_;have:=c x d;rw[if_neg (by simpa using this)];rfl
end
def Tb.put(A:Tb)(i:Int)(q:Nat):Tb:={A with ad:=λj=>if j=i then q else A.ad j}
section
variable{A:Tb}{w w1 w2:World}{F:Fp}{b:Nat}{s:Qf}{N:Nat}
theorem Qi.newLeaf(h:Qi A w F b s){l:Qw}{q:Nat}(hn:s.leaf l.id=none)(c:Qc Qb w w1)(hl:Yj w1 (Qn Qb w w1) q l):
  ∃w2,(Instr.mapUpdate 93 (.map (some A.m)) (ZI l.id) (ptr q)).run prog w1=.ok () w2/\Qi (A.put l.id q) w2 (Qn F w w2) b {s with aI:=s.aI++[l]}/\Qc F w w2:=by
 have R:=(Qi.obj A).bd h;obtain⟨L,Z,hs⟩:=h;obtain⟨G,z,V,_,B⟩:=Xv 2 (Ua A b L s) rfl hs;obtain⟨w2,E,U,d⟩:=X6 (P:=prog) (z.map.aB c (λh=>h)) underlying93 underlying3 l.id (ptr q);have J:=z.aB Yj.obj c (Jl.none G);have K:=J.put Yj.obj hl (λk a b'=>by
  have h1:=((Qr k).1 a).1;have:=R k (V k b');omega) (by rw[<-So Z z.nodup];exact hn) U d
 have I:Qc G w w2:=(c.none (F:=G)).aA (d.sub λk u=>u▸z.at_);have h5:=B w2 (λw G=>Yn Qw.id Yj w G A.m (A.put l.id q).ad (L++[l])) I
  (K.more (λk u=>u.elim .inl (λu=>.inr ⟨((Qr k).1 u).1,Nat.lt_of_lt_of_le ((Qr k).1 u).2 d.size⟩)) (z.bd.ext I))
 exact⟨w2,E,⟨L++[l],Z.append_right _,h5⟩,I.sub V⟩
theorem Yj.made{q d r:Nat}{u:Value}{l:Qw}{w3 w4}(J:Qc Qb w w1)(R:Jz w2 d r l.pk l.bt l.q)(h1:w1.heap.size<=d/\d<w2.heap.size)(h2:w1.heap.size<=r/\r<w2.heap.size)(E:Qc Qb w2 w3)(K:Kv w3 (Qn Qb w2 w3) u l.debt)
  (B:Qc Qb w3 w4) (I:Qh w4 q #[ptr d,u] 107) (U:w3.heap.size<=q):Yj w4 (Qn Qb w w4) q l:=by
 have s1:=J.size;have s3:=E.size;have s4:=B.size;have Z:=I.lt;have V:Jz w4 d r l.pk l.bt l.q:=(R.aB E (λh=>h) (λh=>h)).aB B (λh=>h) (λh=>h);have z:Bd (Qn Qb w w4) w4:=λk c=>((Qr k).1 c).2;refine⟨d,u,?_⟩;refine Q7 (G:=λk=>k=q) (H:=λk=>(k=d\/k=r)\/Qn Qb w2 w3 k) ⟨I,rfl,λk e=>e▸Z⟩ ?_ ?_ (λk e=>(Qr k).2 (by omega)) ?_ z
 .refine Q7 (G:=λk=>k=d\/k=r) (H:=Qn Qb w2 w3) ⟨r,V,.inl rfl,.inr rfl,λk e=>by rcases e with e|e<;>omega⟩ (Y6 ((Kv.good u l.debt).aB K B (Jl.none _)) (λk c=>by have:=(Qr k).1 c;omega)) ?_ (λk c=>.inl c) (λk c=>.inr c) ?_;·intro k e c;have:=(Qr k).1 c;rcases e with e|e<;>omega
  .intro k c;rcases c with(e|e)|c;·omega
   .omega
   .have:=(Qr k).1 c;omega
 .rintro k rfl((e|e)|c);·omega
  .omega
  .have:=(Qr k).1 c;omega
 .intro k c;rcases c with(e|e)|c;·exact(Qr k).2 (by omega)
  .exact(Qr k).2 (by omega)
  .have:=(Qr k).1 c;exact(Qr k).2 (by omega)
end
section
variable{A:Tb}{w w1 w2:World}{F:Fp}{b:Nat}{s:Qf}{N:Nat}
theorem Kv.ptr{w}{F:Fp}{v:Value}{o:Option Ju}(h:Kv w F v o):∃c,v=.pointer c:=by
 cases o with
 |none=>exact⟨none,h.1⟩
 |some d=>obtain⟨b,rfl,_⟩:=h;exact⟨_,rfl⟩
theorem Cy(h:Qt w F b s)(ok:Xp N s)(c:Yk):
  ZW 59 #[ptr b,Fb c] w (ZI (s.aO c)) λw'=>Qt w' (Qn F w w') b (s.add c)/\Qc F w w':=by
 obtain⟨A,h⟩:=h;have U:=(Qi.obj A).bd h;obtain⟨W,hW⟩:=Zx (w.alloc (.cells (Z4 c.leaf c) 29));have S0:Hi (Xx W w.heap.size c):=O (by rw[hW];exact Xx.new w c);have C0:Hi (Qc Qb w W):=O (by rw[hW];exact(Zg _ _).alloc _);have hP:=(Qi.obj A).aB h C0.o (Jl.none F);have HN:=O (Ku hP ok.most.1);have NF:Hi (¬F w.heap.size):=O (λhk=>by have:=U _ hk;omega);obtain⟨a0,a1,a2,a3,a4⟩:=Ym hP.drew.blk;obtain⟨g0,g1,g2,g3,g4,g5,g6,g7,g8,g9,K,R,d,k⟩:=(show Xx W.drew w.heap.size c from S0.o.aB (Zg Qb W).drew).cells;have B:Bd F W:=U.later C0.o;have aa:Hi (∀w' t,Qt w' (Qn F W w') b t->Qc F W w'->Qt w' (Qn F w w') b t/\Qc F w w'):=O (λw' t h1 h2=>by
  have cc:Qc F w w':=C0.o.none.aA h2;exact⟨Qt.obj.more h1 (Ke C0.o.size) (U.ext cc),cc⟩)
 have az:Hi (w.heap.size<W.heap.size):=O (Qh.lt S0.o);have HT:Hi (ZW 102 #[ptr A.tb,Fb c] W.drew (ZI (s.aO c)) λw'=>Qi A w' (Qn F W w') b {s with tree:=s.tree.add c}/\Qc F W w'):=O (by
  obtain⟨G,hT,_,ab⟩:=hP.drew.treeOf;apply Zz (Qor hT ok.tree c);rintro w2⟨ba,c2⟩;obtain⟨m1,m2⟩:=ab w2 _ ba c2;exact⟨rfl,m1,m2.aT⟩)
 by_cases Z:s.aO c=0
 .have ac:s.tree.aO c=0:=Z;obtain⟨q,hq,au,bc,av,i1,_⟩:=ok.mt.add ok.tree ac;have af:=(Ub ac).1;have E:=ok.leaf_none (Ub ac).2.2.1;have aq:=(Md af).1;have ay:Hi (∀w2,Qi A w2 (Qn F W w2) b {s with tree:=s.tree.add c}->Qc F W w2->ZW 103 #[ptr A.pb,Fb c] w2.drew (.bool true) λw'=>Qi A w' (Qn F W w') b {s with tree:=s.tree.add c,pick:=s.pick.put c}/\Qc F W w'/\Qc (Qn F W w2) w2 w'):=O (by
   intro w2 h2 c2;obtain⟨G,⟨AP,a9⟩,_,ab⟩:=h2.drew.pickOf;apply Zz (Qpl a9 c i1 av hq au (by omega));rintro w3⟨a8,c3⟩;obtain⟨m1,m2⟩:=ab w3 _ a8 c3;obtain⟨n1,n2⟩:=(Qi.obj A).two (w1:=w2) m1 B c2 m2.aT;exact⟨rfl,n1,n2,m2.aT⟩)
  have aw:Hi (c.leaf=false->s.add c={s with tree:=s.tree.add c,pick:=s.pick.put c}):=O (λhl=>by unfold Qf.add;rw[if_pos Z,hl];rfl);have ag:Hi (c.leaf=true->s.add c={s with tree:=s.tree.add c,pick:=s.pick.put c,aI:=s.aI++[⟨c.id,c.pk.toNat,c.bt.toNat,[],Xl c.real⟩]}):=O (λhl=>by unfold Qf.add;rw[if_pos Z,hl];rfl);have aj:Hi (c.leaf=true->∃I z:Nat,c.pk=(I:Int)/\c.bt=(z:Int)/\1<=I/\I<=4096/\1<=z/\z<=16777216):=O (λhl=>by
   obtain⟨k1,k2,k3,k4⟩:=Qam af hl;exact⟨c.pk.toNat,c.bt.toNat,by omega,by omega,by omega,by omega,by omega,by omega⟩)
  have a5:Hi (∀w3 w4 V I z pv,Qi A w3 (Qn F W w3) b {s with tree:=s.tree.add c,pick:=s.pick.put c}->Qc F W w3->Jz w4 (w3.heap.size+1) w3.heap.size I z []->Qc Qb w3 w4->Kv V (Qn Qb w4 V) (.pointer pv) (Xl c.real)->Qc Qb w4 V->w3.heap.size+1<w4.heap.size->
    ∃w6,(Instr.mapUpdate 93 (.map (some A.m)) (ZI c.id) (ZP V.heap.size)).run prog (V.alloc (.cells #[ptr (w3.heap.size+1),.pointer pv] 107))=.ok () w6/\
     Qt w6 (Qn F W w6) b {s with tree:=s.tree.add c,pick:=s.pick.put c,aI:=s.aI++[⟨c.id,I,z,[],Xl c.real⟩]}/\Qc F W w6):=O (by
   intro w3 w4 V I z pv h3 c3 hQ a6 hD am Xg;have an:Qc Qb V (V.alloc (.cells #[ptr (w3.heap.size+1),.pointer pv] 107)):=(Zg _ _).alloc _;have a7:Qh (V.alloc (.cells #[ptr (w3.heap.size+1),.pointer pv] 107)) V.heap.size #[ptr (w3.heap.size+1),.pointer pv] 107:=Qh.new _ _ _;generalize V.alloc (.cells #[ptr (w3.heap.size+1),.pointer pv] 107)=bi at*;have hL:=Yj.made (w:=w3) (w1:=w3) (l:=⟨c.id,I,z,[],Xl c.real⟩) (Zg _ _) hQ ⟨by omega,Xg⟩ ⟨by omega,by omega⟩ am hD an a7 (Zv _);obtain⟨w6,r6,h6,c6⟩:=h3.newLeaf (l:=⟨c.id,I,z,[],Xl c.real⟩) E ((a6.aA am).aA an) hL;obtain⟨n1,n2⟩:=(Qi.obj _).two h6 B c3 c6;exact⟨w6,r6,⟨_,n1⟩,n2⟩)
  have ax:=O (λw=>Qgx c.real aq w);rw[Z]at HT;have bh:=O U;have E0:=O Z;rw[Z];unfold Fb ptr cV at*;clear h ok hP ac hq au bc av i1 af E aq U B Z;apply WH func59;go_wp2_with fail;rw[<-hW];clear hW;apply Zy HN;rintro w1 rfl;go_wp2_with fail;apply XB 2200000;apply YA 0;clear a0 a1 a2 a3 a4 g0 g1 g2 g3 g4 g5 g6 g7 g8 g9 K R d k;go_wp2_with fail;apply Zy HT;rintro w2⟨h2,c2⟩;have H2:=O h2;have C2:=O c2;have S2:Hi (Xx w2 w.heap.size c):=O (c2.blk S0.o NF.o);clear h2 c2;go_wp2_with fail;apply YI 0;go_wp2_with fail;obtain⟨a0,a1,a2,a3,a4⟩:=Ym H2.o.drew.blk;obtain⟨g0,g1,g2,g3,g4,g5,g6,g7,g8,g9,K,R,d,k⟩:=(show Xx w2.drew w.heap.size c from S2.o.aB (Zg Qb w2).drew).cells;apply XB 200000;apply YA 0;clear a0 a1 a2 a3 a4 g0 g1 g2 g3 g4 g5 g6 g7 g8 g9 K R d k;go_wp2_with fail;apply Zz (ay.o w2 H2.o C2.o);rintro w3⟨h3,c3,al⟩;have H3:=O h3;have C3:=O c3;have S3:Hi (Xx w3 w.heap.size c):=O (al.blk S2.o (λhk=>hk.elim NF.o (λhk=>by
   have h1:=az.o;omega)))
  clear h3 c3 al;go_wp2_with fail;refine Jo ?_;have l2:=(show Xx w3 w.heap.size c from S3.o).cells.2.2.1;cases u:c.leaf with
  |false=> have J:Hi (Qt w3 (Qn F w w3) b (s.add c)/\Qc F w w3):=O (aa.o w3 _ (by rw[aw.o u];exact⟨A,H3.o⟩) C3.o);rw[u]at l2;clear u;go_wp2_with fail;go_ret;exact⟨rfl,J.o⟩
  |true=>
   obtain⟨I,z,ar,ap,p1,p2,p3,p4⟩:=aj.o u;have EQ:=O (ag.o u);have HQ:=O (λw=>Qt7 I z w p1 p2 p3 p4);rw[u]at l2;have ak:Hi (c.pk.toNat=I/\c.bt.toNat=z):=O (⟨by omega,by omega⟩);have ah:=O (Zt ar ap);clear u p1 p2 p3 p4 ar ap;go_wp2_with fail;clear l2;obtain⟨a0,a1,a2,a3,a4⟩:=Ym H3.o.drew.blk;obtain⟨g0,g1,g2,g3,g4,g5,g6,g7,g8,g9,K,R,d,k⟩:=(show Xx w3.drew w.heap.size c from S3.o.aB (Zg Qb w3).drew).cells;rw[ah.o.1]at d;rw[ah.o.2]at k;apply YC [100,101,102,103,104,105,6,7,8,9,111,112,210,213,14,215,316] Qb w3;iterate 3 (refine Qy (h:=?_);try simp only[Act.put,Za,Zc,Zb])
   iterate 1 (apply YK λ_ hv=>Ym (hv.blk H3.o.blk (λh=>h)))
   (refine Qy (h:=?_);try simp only[Act.put,Za,Zc,Zb]);iterate 1 (apply YK λwv hv=>(show Xx wv w.heap.size c from hv.blk S3.o (λh=>h)).cells)
   iterate 4 (refine Xe (h:=?_))
   (refine Qy (h:=?_);try simp only[Act.put,Za,Zc,Zb]);iterate 1 (apply YK λwv hv=>(show Xx wv w.heap.size c from hv.blk S3.o (λh=>h)).cells)
   clear a0 a1 a2 a3 a4 g0 g1 g2 g3 g4 g5 g6 g7 g8 g9 K R d k;refine Yb ?_;go_wp2_with fail;apply Zz (HQ.o _);rintro w4⟨ao,c4⟩;have C4:=O c4.aT;have ai:Hi (Jz w4 (w3.heap.size+1) w3.heap.size I z []):=O (ao);clear ao c4;go_wp2_with fail;refine⟨C4.o,?_⟩;refine Yb ?_;go_wp2_with fail;refine(ax.o _).mono ?_;rintro e V⟨dv,rfl,ae,c5⟩;obtain⟨pv,rfl⟩:=ae.ptr;have C5:=O (C4.o.aA c5);obtain⟨w6,r6,h6,c6⟩:=a5.o w3 w4 V I z pv H3.o C3.o ai.o C4.o ae c5 ai.o.lt.1;have J:=O (aa.o w6 _ h6 c6);clear ae c5 h6 c6;go_wp2_with fail;refine⟨C5.o,?_⟩;apply YA 0;go_wp2_with fail;refine⟨C5.o.alloc _,?_⟩;apply YI 0;clear r6;go_wp2;go_ret;refine⟨rfl,?_,J.o.2⟩;rw[EQ.o,ak.o.1,ak.o.2];exact J.o.1
 .have e1:s.tree.add c=s.tree:=Qgd Z;have e2:s.add c=s:=Qem Z;have hd:decide (s.aO c=0)=false:=by simpa using Z
  have bb:(s.aO c==0)=false:=by simpa using Z
  rw[e2];rw[e1]at HT;generalize s.aO c=er at HT hd bb|-;unfold Fb ptr at*;clear h ok hP e1 e2 Z U B;apply WH func59;go_wp2_with fail;rw[<-hW];clear hW;apply Zy HN;rintro w1 rfl;go_wp2_with fail;apply XB 2200000;apply YA 0;clear a0 a1 a2 a3 a4 g0 g1 g2 g3 g4 g5 g6 g7 g8 g9 K R d k;go_wp2_with fail;apply ZF HT (λw2 ⟨h2,c2⟩=>aa.o w2 s ⟨A,h2⟩ c2);intro w2 J;go_wp2_with fail;apply YI 0;exact WD J
end
section
variable{A:Tb}{w w1 w2:World}{F:Fp}{b a:Nat}{s:Qf}{N:Nat}{l:Qw}
theorem Qfp(h:Qt w F b s)(ok:Xp N s)(c:Yk):
  ZW 66 #[ptr b,Fb c] w (ZI (s.aG c)) λw'=>Qt w' (Qn F w w') b (s.change c)/\Qc F w w':=by
 obtain⟨A,h⟩:=h;have ah:=(Qi.obj A).bd h;obtain⟨W,hW⟩:=Zx (w.alloc (.cells (Z4 c.leaf c) 29));have S0:Hi (Xx W w.heap.size c):=O (by rw[hW];exact Xx.new w c);have C0:Hi (Qc Qb w W):=O (by rw[hW];exact(Zg _ _).alloc _);have hP:=(Qi.obj A).aB h C0.o (Jl.none F);have HN:=O (Ku hP ok.most.1);have NF:Hi (¬F w.heap.size):=O (λhk=>by have:=ah _ hk;omega);have ae:Bd F W:=ah.later C0.o;have a5:Hi (w.heap.size<W.heap.size):=O (Qh.lt S0.o);have ab:=O (λw'(c:Qc Qb W w')=>(Qi.obj A).aB hP c (Jl.none F));have J:Hi (∀w' t,Qt w' (Qn F W w') b t->Qc F W w'->Qt w' (Qn F w w') b t/\Qc F w w'):=O (λw' t h1 h2=>by
  have cc:Qc F w w':=C0.o.none.aA h2;exact⟨Qt.obj.more h1 (Ke C0.o.size) (ah.ext cc),cc⟩)
 have ai:Hi (∀w',Qc Qb W w'->s.change c=s->Qt w' (Qn F w w') b (s.change c)/\Qc F w w'):=O (λw' cc e=>by
  rw[e];obtain⟨p1,p2⟩:=Qt.obj.same ⟨A,hP⟩ cc;exact J.o w' _ p1 p2)
 have HG:Hi (∀w',Qc Qb W w'->ZW 23 #[ptr A.tb,ZI c.id] w' (.tuple #[.agg (Es (s.tree.get c.id).sp),.bool (s.tree.at c.id).isSome]) λaf=>Qc Qb w' af):=O (λw' cc=>by
  obtain⟨G,hT,_⟩:=(ab.o w' cc).treeOf;exact Ob hT c.id)
 have ax:Hi (∀w',Qc Qb W w'->ZW 119 #[ptr A.tb,Fb c] w' (ZI (s.tree.aG c)) λaf=>Qi A af (Qn F W af) b {s with tree:=s.tree.change c}/\Qc F W af):=O (λw' cc=>by
  obtain⟨G,hT,_,z⟩:=(ab.o w' cc).treeOf;apply Zz (Qe1 hT ok.tree c);rintro w2⟨ba,c2⟩;obtain⟨m1,m2⟩:=z w2 _ ba c2;have m3:Qc F W w2:=cc.none.aA m2;exact⟨rfl,(Qi.obj A).more m1 (Ke cc.size) (ae.ext m3),m3⟩)
 have ak:Hi (s.aG c=0->(∀w2,Qi A w2 (Qn F W w2) b {s with tree:=s.tree.change c}->Qc F W w2->ZW 120 #[ptr A.pb,Fb c] w2.drew (.bool true) λw3=>Qi A w3 (Qn F W w3) b {s with tree:=s.tree.change c,pick:=s.pick.aK c}/\Qc F W w3/\Qc (Qn F W w2) w2 w3)/\
   (∀w3,Cl 105 #[cV c.real] w3 λe I=>∃pv,e=.returned (.pointer pv)/\Kv I (Qn Qb w3 I) (.pointer pv) (Xl c.real)/\Qc Qb w3 I)/\
   (s.leaf c.id=none->s.change c={s with tree:=s.tree.change c,pick:=s.pick.aK c})/\
   (∀l w3,s.leaf c.id=some l->Qi A w3 (Qn F W w3) b {s with tree:=s.tree.change c,pick:=s.pick.aK c}->Qc F W w3->∃qb dv,Qh w3 (A.ad c.id) #[ptr qb,dv] 107/\
    ∀I w5 u ac,Qc Qb w3 I->Qc Qb I w5->Kv w5 (Qn Qb I w5) ac (Xl c.real)->Qh u (A.ad c.id) #[ptr qb,ac] 107->Qc (λk=>k=A.ad c.id) w5 u->Qt u (Qn F W u) b (s.change c)/\Qc F W u)):=O (λB=>by
  obtain⟨hm,aq⟩:=L8 B;have ha:=ok.asleep hm;obtain⟨x,q,hx,i1,hq,mt,dd⟩:=ok.mt.aK ok.tree ok.pick aq ha;obtain⟨c1,be,aw⟩:=Gb aq;have bb:=(Md aw).1;have E:s.change c={s with tree:=s.tree.change c,pick:=s.pick.aK c,aI:=s.aI.map λl=>if l.id=c.id then{l with debt:=Xl c.real}else l}:=by unfold Qf.change;rw[if_pos B]
  refine⟨λw2 h2 c2=>?_,λw3=>?_,λhl=>?_,λl w3 hl h3 c3=>?_⟩;·obtain⟨G,⟨AP,a9⟩,_,z⟩:=h2.drew.pickOf;apply Zz (Qii a9 ok.pick c i1 hx ha hq);rintro w3⟨a8,c3⟩;obtain⟨m1,m2⟩:=z w3 _ a8 c3;obtain⟨n1,n2⟩:=(Qi.obj A).two (w1:=w2) m1 ae c2 m2.aT;exact⟨rfl,n1,n2,m2.aT⟩
  .refine(Qgx c.real bb w3).mono ?_;rintro e I⟨v,rfl,hD,c4⟩;obtain⟨pv,rfl⟩:=Kv.ptr (w:=I) (F:=Qn Qb w3 I) (o:=Xl c.real) hD;exact⟨pv,rfl,hD,c4⟩
  .rw[E,Qh7 hl]
  .obtain⟨G,hL,hG,z⟩:=h3.leafOf (i:=c.id) (l:=l) hl;obtain⟨qb,dv,hB,k⟩:=hL.owe;refine⟨qb,dv,hB,λI w5 u ac ap a6 hD a7 ag=>?_⟩;obtain⟨p1,p2⟩:=k w5 u ac (Xl c.real) (ap.aA a6) ((Kv.good ac _).more hD (Ke ap.size) (λk hk=>((Qr k).1 hk).2)) a7 ag;obtain⟨q1,q2⟩:=z u {l with debt:=Xl c.real} (Y3 (show Hn Qw.id c.id s.aI=some l from hl)).2 p1 p2;obtain⟨r1,r2⟩:=(Qi.obj A).two q1 ae c3 q2;refine⟨?_,r2⟩;rw[E];have e:=Qfr (s:={s with tree:=s.tree.change c,pick:=s.pick.aK c}) hP.nodup (i:=c.id) (l:=l) hl (Xl c.real);rw[e]at r1;exact⟨A,r1⟩)
 have bd:=O (λw' t(h':Qi A w' (Qn F W w') b t)=>h'.drew.look1 c.id);have aa:=O (λw'(cc:Qc Qb W w')=>Qbl (ab.o w' cc) ok c.id);have HA:=O hP.blk;have HE:Hi (s.aG c=if(s.tree.at c.id).isNone then 81 else if 0<s.many c.id then 230 else s.tree.aG c):=O (rfl);have NO:=O (λ(B:s.aG c≠0)=>Sj B);obtain⟨is,am⟩:=Zx ((s.tree.at c.id).isSome);rw[<-am]at HG;have ao:=O am;clear am;obtain⟨gs,au⟩:=Zx ((s.tree.get c.id).sp);rw[<-au]at HG;clear au;unfold Fb ptr at*;clear h ah;apply WH func66;go_wp2_with fail;rw[<-hW];clear hW;apply Zy HN;rintro w1 rfl;go_wp2_with fail;go_cut [5,6] (λs5 s6 wz=>s6=.bool is/\Qc Qb W wz)
 case first=>
  refine Ui (.lookp 0 (.lookp 1 (.lookp 2 (.lookp 3 (.lookp 4 (.lookp 5 (.fork 6 (.lookp 7 (.lookp 8 (.lookp 9 (.walk 10 (.walk 11 (.walk 12 .nil)))))) 10 (.walk 6 (.look 7 (.look 8 (.lookp 9 (.walk 11 (.walk 12 .nil))))))))))))) (λwv=>Qc (Qb) (W) wv) Zq (by kernel_rfl) (λ_ _ _ _ _ h=>h) Z0 ?_;simp only[O0,Zf,Ze,Zd];iterate 3 (first|refine Vd (h:=?_)|refine Xi (h:=?_);try simp only[Act.put,Za,Zc,Zb])
  iterate 1 (apply YL λ_ hv=>Ym (hv.blk HA.o (λh=>h)))
  iterate 1 (first|refine Vd (h:=?_)|refine Xi (h:=?_);try simp only[Act.put,Za,Zc,Zb])
  iterate 1 (apply YL λwv hv=>(show Xx wv w.heap.size c from hv.blk S0.o (λh=>h)).cells)
  refine Gn ?_ ?_
  .go_wp2_with fail;apply Z9 (HG.o _ (Zg Qb W).drew) (λ_ c2=>(Zg Qb W).drew.aA c2);intro w2 C2;go_wp2_with fail;refine⟨C2.o,?_⟩;iterate 3 (first|refine Vd (h:=?_)|refine Xi (h:=?_);try simp only[Act.put,Za,Zc,Zb])
   refine Xt ?_;go_wp2_with fail;refine⟨C2.o.alloc _,?_⟩;obtain⟨W3,s3,al,C3⟩:=Q0 (P:=prog) (vs:=Es gs) (Qh.new w2 Z5 29) rfl (Hl _);have D3:Hi (Qc Qb W W3):=O ((C2.o.alloc _).trans C3 (λk e=>.inr (by have:=C2.o.size;omega)));clear al C3;refine Xt ?_;go_wp2_with fail;refine⟨D3.o,?_⟩;refine Xt ?_;go_wp2_with fail;refine⟨D3.o,?_⟩;refine U9 ?_;clear s3;go_wp2_with fail;go_meet;exact⟨rfl,D3.o⟩
  .go_wp2_with fail;refine⟨((Zg Qb W).drew.alloc _),?_⟩;have CA:=O ((Zg Qb W).drew.alloc (.cells Z5 29));have BA:Hi (Qh (W.drew.alloc (.cells Z5 29)) W.heap.size Z5 29):=O (Qh.new W.drew _ _);refine Xt ?_;go_wp2_with fail;refine(HG.o _ CA.o).mono ?_;rintro e w2⟨rfl,c2⟩;obtain⟨W3,s3,al,C3⟩:=Q0 (P:=prog) (vs:=Es gs) (c2.blk BA.o (λh=>h)) rfl (Hl _);have C2:=O (CA.o.aA c2);have D3:Hi (Qc Qb W W3):=O (C2.o.trans C3 (λk e=>.inr (by omega)));clear al C3 c2;go_wp2_with fail;refine⟨C2.o,?_⟩;iterate 3 (first|refine Vd (h:=?_)|refine Xi (h:=?_);try simp only[Act.put,Za,Zc,Zb])
   refine Xt ?_;go_wp2_with fail;refine⟨D3.o,?_⟩;refine Xt ?_;go_wp2_with fail;refine⟨D3.o,?_⟩;refine U9 ?_;clear s3;go_wp2_with fail;go_meet;exact⟨rfl,D3.o⟩
 case rest=>
  obtain⟨rfl,cW⟩:=hcut;obtain⟨V,hV⟩:=Zx wc;rw[<-hV]at cW|-;clear hV;have CV:=O cW;clear cW;cases is with
  |false=>
   have E:=O (show s.aG c=81 by
    have h1:=ao.o;rw[HE.o,if_pos (by
     cases hc:s.tree.at c.id with
     |none=>rfl
     |some x=>rw[hc]at h1;cases h1)])
   have d:=O (ai.o V CV.o (NO.o (by rw[E.o];decide)));go_wp2_with fail;go_ret;exact⟨by rw[E.o];rfl,d.o⟩
  |true=>
   have HS:=O (show(s.tree.at c.id).isNone=false by
    have h1:=ao.o;cases hc:s.tree.at c.id with
    |none=>rw[hc]at h1;cases h1
    |some x=>rfl)
   obtain⟨m,av⟩:=Zx (s.many c.id);rw[<-av]at HE aa;clear av;have g0:=(show Xx V w.heap.size c from CV.o.blk S0.o (λh=>h)).cells;by_cases hm:0<m
   .have E:=O (show s.aG c=230 by rw[HE.o,HS.o,if_neg (by decide),if_pos hm]);have dm:decide (0<m)=true:=by simpa using hm
    rw[dm]at aa;clear hm dm;go_wp2_with fail;apply Z9 (aa.o V CV.o) (λI c4=>ai.o I (CV.o.aA c4) (NO.o (by rw[E.o];decide)));intro I d;go_wp2_with fail;go_ret;exact⟨by rw[E.o];rfl,d.o⟩
   .have E:=O (show s.aG c=s.tree.aG c by rw[HE.o,HS.o,if_neg (by decide),if_neg hm]);have dm:decide (0<m)=false:=by simpa using hm
    rw[dm]at aa;clear hm dm;go_wp2_with fail;apply Z9 (aa.o V CV.o) (λ_ c4=>CV.o.aA c4);intro I C4;clear g0;go_wp2_with fail;have a0:=Ym (C4.o.drew.blk HA.o (λh=>h));have g0:=(show Xx I.drew w.heap.size c from C4.o.drew.blk S0.o (λh=>h)).cells;apply XB 2200000;apply YA 0;clear a0 g0;go_wp2_with fail;apply Zz (ax.o _ C4.o.drew);rintro w5⟨h5,c5⟩;have H5:=O h5;have C5:=O c5;have S5:Hi (Xx w5 w.heap.size c):=O (c5.blk S0.o NF.o);clear h5 c5;go_wp2_with fail;apply YI 0;by_cases B:s.tree.aG c=0
    .have HT:=O (ak.o (E.o.trans B));have hd:decide (s.tree.aG c=0)=true:=by simpa using B
     rw[B];rw[B]at hd;have E0:=O (E.o.trans B);clear B hd E;go_wp2_with fail;have a0:=Ym H5.o.drew.blk;have g0:=(show Xx w5.drew w.heap.size c from S5.o.aB (Zg Qb w5).drew).cells;apply XB 200000;apply YA 0;clear a0 g0;go_wp2_with fail;apply Zz (HT.o.1 w5 H5.o C5.o);rintro u⟨h6,c6,ag⟩;have H6:=O h6;have C6:=O c6;have S6:Hi (Xx u w.heap.size c):=O (ag.blk S5.o (λhk=>hk.elim NF.o (λhk=>by
      have h1:=a5.o;omega)))
     have aj:=O HT.o.2;clear h6 c6 ag;go_wp2_with fail;refine Jo ?_;go_wp2_with fail;have a0:=Ym H6.o.drew.blk;have g0:=(show Xx u.drew w.heap.size c from S6.o.aB (Zg Qb u).drew).cells;have lk:=H6.o.drew.look1 c.id;cases hl:s.leaf c.id with
     |none=>
      rw[Qae (s:={s with tree:=s.tree.change c,pick:=s.pick.aK c}) hl]at lk;have d:=O (J.o u.drew (s.change c) (by rw[aj.o.2.1 hl];exact⟨A,H6.o.drew⟩) C6.o.drew);clear hl;apply XB 20000000;apply YA 0;clear a0 g0 lk;go_wp2_with fail;refine Jo ?_;go_wp2_with fail;go_ret;exact⟨by rw[E0.o];rfl,d.o⟩
     |some l=>
      rw[G7 (s:={s with tree:=s.tree.change c,pick:=s.pick.aK c}) hl]at lk;obtain⟨qb,dv,ar,hk⟩:=aj.o.2.2 l u hl H6.o C6.o;have HK:=O hk;have az:=O ar;have ay:=O aj.o.1;clear hl hk ar;apply XB 20000000;apply YA 0;clear a0 lk;go_wp2_with fail;refine Jo ?_;go_wp2_with fail;refine(ay.o u.drew).mono ?_;rintro e w7⟨pv,rfl,hD,c7⟩;have B7:=O (((Zg Qb u).drew.aA c7).blk az.o (λh=>h));have y0:=Q4 B7.o;have fz:=B7.o.frozen;have d:=O (HK.o u.drew w7 (w7.setCell ⟨A.ad c.id,1,none⟩ (.pointer pv)) (.pointer pv) (Zg Qb u).drew c7 hD (B7.o.set 1 _) ((Zg _ w7).setCell _ (.inl rfl)));have an:=O (J.o _ _ d.o.1 d.o.2);clear hD c7 g0;go_wp2_with fail;go_ret;exact⟨by rw[E0.o];rfl,an.o⟩
    .have e1:s.tree.change c=s.tree:=Fq B;have e2:s.change c=s:=NO.o (by rw[E.o];exact B);have d:=O (J.o w5 (s.change c) (by rw[e2];have h5:=H5.o;rw[e1]at h5;exact⟨A,h5⟩) C5.o);have hd:decide (s.tree.aG c=0)=false:=by simpa using B
     have bc:(s.tree.aG c==0)=false:=by simpa using B
     generalize s.tree.aG c=er at hd bc E|-;clear B e1 e2;go_wp2_with fail;go_ret;exact⟨by rw[E.o];rfl,d.o⟩
end
section
variable{A:Tb}{w w1 w2:World}{F:Fp}{b a:Nat}{s:Qf}{N:Nat}{l:Qw}
theorem Qi.openLeaf(h:Qi A w F b s){i:Int}(Z:s.leaf i=some l):∃k d,Qh w (A.ad i) #[ptr k,d] 107/\
  (∃G:Fp,quS k l.pk l.bt l.q w G/\∀w' B,quS k l.pk l.bt B w' (Qn G w w')->Qc G w w'->Qi A w' (Qn F w w') b (s.aR {l with q:=B})/\Qc F w w'/\Qh w' (A.ad i) #[ptr k,d] 107)/\
  (∃G:Fp,Kv w G d l.debt/\∀w' u,Kv w' (Qn G w w') d u->Qc G w w'->Qi A w' (Qn F w w') b (s.aR {l with debt:=u})/\Qc F w w'/\Qh w' (A.ad i) #[ptr k,d] 107):=by
 have V:=(Y3 (show Hn Qw.id i s.aI=some l from Z)).2;obtain⟨K,hL,hK,c⟩:=h.leafOf Z;obtain⟨k,d,E,⟨Gq,gq,sq,nq,pq⟩,⟨Gd,gd,sd,nd,pd⟩⟩:=hL.opn;refine⟨k,d,E,⟨Gq,gq,λw' B hq z=>?_⟩,⟨Gd,gd,λw' u hd z=>?_⟩⟩;·obtain⟨I,J⟩:=pq w' B hq z;obtain⟨R,U⟩:=c w' {l with q:=B} V I J;exact⟨R,U,z.blk E nq⟩
 .obtain⟨I,J⟩:=pd w' u hd z;obtain⟨R,U⟩:=c w' {l with debt:=u} V I J;exact⟨R,U,z.blk E nd⟩
theorem Rz{l1 l2:Qw}(e:l2.id=l1.id):(s.aR l1).aR l2=s.aR l2:=by
 unfold Qf.aR;simp only[List.map_map,e];congr 1;refine List.map_congr_left λx c=>?_;dsimp only[Function.comp];by_cases c:x.id=l1.id;·simp[c]
 .simp[c]
theorem Oz{l1:Qw}{i:Int}(c:s.leaf i=some l)(e:l1.id=i):(s.aR l1).leaf i=some l1:=by subst e;have:=Qeo (key:=Qw.id) (x:=l1) (show Hn Qw.id l1.id s.aI=some l from c) l1.id;rw[if_pos rfl]at this;exact this
theorem Qsx{h:Qm}{i:Int}{c:Vm}(d:h.at i=some c):i∈h.map Vm.id:=Z3.2 ⟨c,(Qm.aE d).1,(Qm.aE d).2⟩
theorem Xp.row_len(q:Xp N s)(J:Ol s.row):s.row.length<=64:=by
 have u:=J.length_le_of_subset (l₂:=s.tree.map Vm.id) (λi E=>by
  obtain⟨⟨x,j,y⟩,B,rfl⟩:=Z3.1 E;obtain⟨l,d,I,_⟩:=(q.row x j y).1 B;obtain⟨k,K,_⟩:=q.at (show s.leaf j=some l from I);obtain⟨c,z,_⟩:=k.sp;rw[K]at z;exact Qsx z)
 simp only[List.length_map]at u;exact Zp u q.tree.many
theorem Qi.row_len(h:Qi A w F b s)(d:Xp N s):s.row.length<=64:=by obtain⟨p,G,_,c⟩:=h.once;exact d.row_len c.1
theorem Qi.qPush(h:Qi A w F b s){i:Int}(hl:s.leaf i=some l)(p:Jr):∃c u,Qh w (A.ad i) #[ptr c,u] 107/\(∃G:Fp,Kv w G u l.debt)/\
  ∀w1,Qc Qb w w1->Cl 107 #[ptr c,.agg (ZL p)] w1 λe w2=>e=.returned (ZI (D8 l.pk l.bt l.q p))/\
   (D8 l.pk l.bt l.q p≠0->Qc Qb w1 w2)/\
   (D8 l.pk l.bt l.q p=0->Qc F w w2/\Qi A w2 (Qn F w w2) b (s.aR {l with q:=l.q++[p]})/\Qh w2 (A.ad i) #[ptr c,u] 107/\∃r,Jz w2 c r l.pk l.bt (l.q++[p])):=by
 obtain⟨c,u,hB,⟨G,U,B⟩,Z,hd,_⟩:=h.openLeaf hl;refine⟨c,u,hB,⟨Z,hd⟩,λw1 E=>?_⟩;obtain⟨r,R,g1,g2,g3⟩:=(Lm c l.pk l.bt l.q).aB U E (Jl.none _);by_cases z:D8 l.pk l.bt l.q p=0;·apply Zz (Qsj R p z);rintro w2⟨V,J,d,I⟩;have K:Qc G w w2:=(E.none (F:=G)).aA (I.sub λk hk=>by rcases hk with rfl|rfl<;>assumption);have s1:=E.size;have lt:=d.lt;obtain⟨m1,m2,m3⟩:=B w2 (l.q++[p]) ⟨V,d,.inl g1,J.elim (λe=>.inl (e▸g2)) (λe=>.inr ⟨by omega,lt.2⟩),((Lm c l.pk l.bt l.q).bd U).ext K⟩ K;exact⟨by rw[z],λh=>absurd z h,λ_=>⟨m2,m1,m3,V,d⟩⟩
 .apply Zz (Qsi R p z);intro w2 I;exact⟨rfl,λ_=>I,λh=>absurd h z⟩
theorem Qi.noDebt(h:Qi A w F b s){i:Int}(E:s.leaf i=some l){I:Nat}{k:Value}(z:Qh w (A.ad i) #[ptr I,k] 107)(B:l.debt=none):k=.pointer none:=by obtain⟨J,u,d,_,G,q,_⟩:=h.openLeaf E;have e:=z.inj d;injection e with e;injection e with K c;injection c with c;rw[B]at q;rw[c];exact q.1
theorem Qi.debtStep(h:Qi A w F b s){i:Int}(hl:s.leaf i=some l){I:Nat}{u:Value}(V:Qh w (A.ad i) #[ptr I,u] 107){d:Ju}(hd:l.debt=some d):∃q,u=ptr q/\∃G:Fp,Ye w G q d/\
  ∀w' k,Ye w' (Qn G w w') q k->Qc G w w'->Qi A w' (Qn F w w') b (s.aR {l with debt:=some k})/\Qc F w w'/\Qh w' (A.ad i) #[ptr I,u] 107:=by
 obtain⟨aa,J,B,_,G,E,K⟩:=h.openLeaf hl;have e:=V.inj B;injection e with e;injection e with c z;injection c with c;injection c with c;injection c with c _;injection z with z;subst z;subst c;rw[hd]at E;obtain⟨q,hq,Z⟩:=E;subst hq;exact⟨q,rfl,G,Z,λw' k R U=>K w' (some k) ⟨q,rfl,R⟩ U⟩
theorem Qi.wakeDebt(h:Qi A w F b s){i:Int}(R:s.leaf i=some l){V:Nat}{B:Value}(J:Qh w (A.ad i) #[ptr V,B] 107){d:Ju}(K:l.debt=some d)(hn:d.run.l.length+1<549755813888)(hg:d.got<=Xw)(now:Nat)(hw:now<18446744073709551616)(k:Int):
  ∃q,B=ptr q/\∀w1,Qc Qb w w1->ZW 108 #[ptr q,ZU now,ZI k] w1 (.tuple #[]) λw2=>Qi A w2 (Qn F w w2) b (s.aR {l with debt:=some (d.wake now k)})/\Qc F w w2/\Qh w2 (A.ad i) #[ptr V,B] 107:=by
 obtain⟨q,U,_⟩:=h.debtStep R J K;refine⟨q,U,λw1 z=>?_⟩;have h1:=(Qi.obj A).aB h z (Jl.none F);obtain⟨q',c,G,hD,u⟩:=h1.debtStep R (z.blk J (λh=>h)) K;rw[U]at c;injection c with c;injection c with c;injection c with c _;subst c;apply Zz (Qj6 hD hn hg now hw k);rintro w2⟨E,Z⟩;obtain⟨m1,m2,m3⟩:=u w2 _ E Z;have I:Qc F w w2:=z.none.aA m2;exact⟨rfl,(Qi.obj A).more m1 (Ke z.size) (((Qi.obj A).bd h).ext I),I,m3⟩
theorem Qi.noteDebt(h:Qi A w F b s){i:Int}(V:s.leaf i=some l){qb q:Nat}(J:Qh w (A.ad i) #[ptr qb,ptr q] 107){d:Ju}(U:l.debt=some d)(hr:s.row.length<=64):
  ∀w1,Qc Qb w w1->ZW 99 #[ptr A.rb,ZI i,ptr q] w1 (.tuple #[]) λw2=>Qi A w2 (Qn F w w2) b {s with row:=Hj s.row i d}/\Qc F w w2:=by
 intro w1 u;have E:=(Qi.obj A).aB h u (Jl.none F);obtain⟨q',c,G,K,_⟩:=E.debtStep V (u.blk J (λh=>h)) U;injection c with c;injection c with c;injection c with c _;subst c;obtain⟨H,R,_,k⟩:=E.rowOf;apply Zz (Qkb R K (by omega) i);rintro w2⟨z,I⟩;obtain⟨Z,m2⟩:=k w2 _ z I;have B:Qc F w w2:=u.none.aA m2;exact⟨rfl,(Qi.obj A).more Z (Ke u.size) (((Qi.obj A).bd h).ext B),B⟩
theorem Qi.pickWake(h:Qi A w F b s){dep:Int->Nat}(U:Qs dep N s.pick)(J:N<549755813000)(i:Int)(now:Nat)(c:now<18446744073709551616):
  ∀w1,Qc Qb w w1->ZW 109 #[ptr A.pb,ZI i,ZU now] w1 (.tuple #[]) λw2=>Qi A w2 (Qn F w w2) b {s with pick:=s.pick.wake i now}/\Qc F w w2:=by
 intro w1 k;have E:=(Qi.obj A).aB h k (Jl.none F);obtain⟨H,⟨z,I⟩,_,d⟩:=E.pickOf;apply Zz (Qlo I U J i now c);rintro w2⟨q,B⟩;obtain⟨K,R⟩:=d w2 _ ⟨z,q⟩ B;have u:Qc F w w2:=k.none.aA R;exact⟨rfl,(Qi.obj A).more K (Ke k.size) (((Qi.obj A).bd h).ext u),u⟩
end
section
variable{A:Tb}{w w1 w2:World}{F:Fp}{b a:Nat}{s:Qf}{N:Nat}{l:Qw}
theorem Qlq{p:Jr}(c:s.tree.at p.cls=none):s.aQ p=81:=by unfold Qf.aQ;rw[c]
theorem Qil{p:Jr}{c:Vm}(d:s.tree.at p.cls=some c)(k:c.sp.leaf=false):s.aQ p=162:=by unfold Qf.aQ;rw[d];simp[k]
theorem Qlp{p:Jr}{c:Vm}(u:s.tree.at p.cls=some c)(d:c.sp.leaf=true)(z:s.leaf p.cls=some l)(E:s.most<65536):s.aQ p=if Eo p.len s.most≠0 then Eo p.len s.most else D8 l.pk l.bt l.q p:=by
 unfold Qf.aQ;rw[u];simp only[d,z];rw[if_neg (by simp)];split;·rfl
 .rename_i k;have q:¬(p.len<1\/65535<p.len):=by
   unfold Eo at k;intro B;apply k;split;·decide
   .rw[if_pos (by omega)];decide
  unfold D8;rw[if_neg q]
theorem Qbn(h:Qt w F b s)(ok:Xp N s)(hN:N<549755813000)(p:Jr)(now:Nat)(aj:now<18446744073709551616):
  ZW 60 #[ptr b,.agg (ZL p),ZU now] w (ZI (s.aQ p)) λw'=>Qt w' (Qn F w w') b (s.push p now)/\Qc F w w':=by
 obtain⟨A,h⟩:=h;have ag:=(Qi.obj A).bd h;obtain⟨W,hW⟩:=Zx (w.alloc (.cells (ZL p) 31));have S0:Hi (Qh W w.heap.size (ZL p) 31):=O (by rw[hW];exact Qh.new _ _ _);have C0:Hi (Qc Qb w W):=O (by rw[hW];exact(Zg _ _).alloc _);have hP:=(Qi.obj A).aB h C0.o (Jl.none F);have HN:=O (Ku hP ok.most.1);have NF:Hi (¬F w.heap.size):=O (λhk=>by have:=ag _ hk;omega);have ai:Bd F W:=ag.later C0.o;have bp:Hi (w.heap.size<W.heap.size):=O (Qh.lt S0.o);have ah:=O (λw'(c:Qc Qb W w')=>(Qi.obj A).aB hP c (Jl.none F));have K:Hi (∀w' t,Qt w' (Qn F W w') b t->Qc F W w'->Qt w' (Qn F w w') b t/\Qc F w w'):=O (λw' t z h2=>by
  have cc:Qc F w w':=C0.o.none.aA h2;exact⟨Qt.obj.more z (Ke C0.o.size) (ag.ext cc),cc⟩)
 have R:Hi (∀w',Qc Qb W w'->s.aQ p≠0->Qt w' (Qn F w w') b (s.push p now)/\Qc F w w'):=O (λw' cc e=>by
  rw[Qnm e];obtain⟨p1,p2⟩:=Qt.obj.same ⟨A,hP⟩ cc;exact K.o w' _ p1 p2)
 have HG:Hi (∀w',Qc Qb W w'->ZW 23 #[ptr A.tb,ZI p.cls] w' (.tuple #[.agg (Es (s.tree.get p.cls).sp),.bool (s.tree.at p.cls).isSome]) λbo=>Qc Qb w' bo):=O (λw' cc=>by
  obtain⟨G,hT,_⟩:=(ah.o w' cc).treeOf;exact Ob hT p.cls)
 have az:=O (λw'=>Rn p s.most w');have EM:Hi (Cp p s.most=Eo p.len s.most):=O (rfl);have HA:=O hP.blk;obtain⟨is,au⟩:=Zx ((s.tree.at p.cls).isSome);rw[<-au]at HG;have ax:=O au;clear au;obtain⟨gs,ar⟩:=Zx ((s.tree.get p.cls).sp);rw[<-ar]at HG;have be:=O ar;clear ar;have OK:=O ok;have HP:=O hP;have I:=O ai;have an:=O hN;have aa:=O aj;clear h ag ok hP ai hN aj;apply WH func60;go_wp2_with fail;rw[<-hW];clear hW;apply Zy HN;rintro w1 rfl;go_wp2_with fail;go_cut [7,8] (λs7 s8 wz=>(∃r,s7=ZP r/\Qh wz r (Es gs) 29)/\s8=.bool is/\Qc Qb W wz)
 case first=>
  refine Ui (.lookp 0 (.lookp 1 (.lookp 2 (.lookp 3 (.lookp 4 (.lookp 5 (.fork 6 (.lookp 7 (.lookp 8 (.lookp 9 (.walk 10 (.walk 11 (.walk 12 .nil)))))) 10 (.walk 6 (.look 7 (.look 8 (.lookp 9 (.walk 11 (.walk 12 .nil))))))))))))) (λwv=>Qc (Qb) (W) wv) Zq (by kernel_rfl) (λ_ _ _ _ _ h=>h) Z0 ?_;simp only[O0,Zf,Ze,Zd];iterate 3 (first|refine Vd (h:=?_)|refine Xi (h:=?_);try simp only[Act.put,Za,Zc,Zb])
  iterate 1 (apply YL λ_ hv=>Ym (hv.blk HA.o (λh=>h)))
  iterate 1 (first|refine Vd (h:=?_)|refine Xi (h:=?_);try simp only[Act.put,Za,Zc,Zb])
  iterate 1 (apply YL λ_ hv=>(X9 (hv.blk S0.o (λh=>h))))
  refine Gn ?_ ?_
  .go_wp2_with fail;apply Z9 (HG.o _ (Zg Qb W).drew) (λ_ c2=>(Zg Qb W).drew.aA c2);intro w2 C2;go_wp2_with fail;refine⟨C2.o,?_⟩;iterate 3 (first|refine Vd (h:=?_)|refine Xi (h:=?_);try simp only[Act.put,Za,Zc,Zb])
   refine Xt ?_;go_wp2_with fail;refine⟨C2.o.alloc _,?_⟩;obtain⟨W3,s3,ac,C3⟩:=Q0 (P:=prog) (vs:=Es gs) (Qh.new w2 Z5 29) rfl (Hl _);have D3:Hi (Qc Qb W W3):=O ((C2.o.alloc _).trans C3 (λk e=>.inr (by have:=C2.o.size;omega)));have al:=O ac;clear ac C3;refine Xt ?_;go_wp2_with fail;refine⟨D3.o,?_⟩;refine Xt ?_;go_wp2_with fail;refine⟨D3.o,?_⟩;refine U9 ?_;clear s3;go_wp2_with fail;go_meet;exact⟨⟨_,rfl,al.o⟩,rfl,D3.o⟩
  .go_wp2_with fail;refine⟨((Zg Qb W).drew.alloc _),?_⟩;have CA:=O ((Zg Qb W).drew.alloc (.cells Z5 29));have BA:Hi (Qh (W.drew.alloc (.cells Z5 29)) W.heap.size Z5 29):=O (Qh.new W.drew _ _);refine Xt ?_;go_wp2_with fail;refine(HG.o _ CA.o).mono ?_;rintro e w2⟨rfl,c2⟩;obtain⟨W3,s3,ac,C3⟩:=Q0 (P:=prog) (vs:=Es gs) (c2.blk BA.o (λh=>h)) rfl (Hl _);have C2:=O (CA.o.aA c2);have D3:Hi (Qc Qb W W3):=O (C2.o.trans C3 (λk e=>.inr (by omega)));have al:=O ac;clear ac C3 c2;go_wp2_with fail;refine⟨C2.o,?_⟩;iterate 3 (first|refine Vd (h:=?_)|refine Xi (h:=?_);try simp only[Act.put,Za,Zc,Zb])
   refine Xt ?_;go_wp2_with fail;refine⟨D3.o,?_⟩;refine Xt ?_;go_wp2_with fail;refine⟨D3.o,?_⟩;refine U9 ?_;clear s3;go_wp2_with fail;go_meet;exact⟨⟨_,rfl,al.o⟩,rfl,D3.o⟩
 case rest=>
  obtain⟨⟨r,rfl,hR⟩,rfl,cW⟩:=hcut;obtain⟨V,hV⟩:=Zx wc;rw[<-hV]at cW hR|-;clear hV;have CV:=O cW;clear cW;cases is with
  |false=>
   have E:=O (show s.aQ p=81 by
    have z:=ax.o;cases hc:s.tree.at p.cls with
    |none=>exact Qlq hc
    |some x=>rw[hc]at z;cases z)
   have u:=O (R.o V CV.o (by rw[E.o];decide));clear hR;go_wp2_with fail;go_ret;exact⟨by rw[E.o];rfl,u.o⟩
  |true=>
   obtain⟨c,hc,bm⟩:∃c,s.tree.at p.cls=some c/\gs=c.sp:=by
    have z:=ax.o;cases hc:s.tree.at p.cls with
    |none=>rw[hc]at z;cases z
    |some x=>exact⟨x,rfl,by rw[be.o,Qda _ hc]⟩
   subst bm;obtain⟨y0,y1,y2,_⟩:=(show Xx V r c.sp from hR).cells;cases B:c.sp.leaf with
   |false=> have E:Hi (s.aQ p=162):=O (Qil hc B);have u:=O (R.o V CV.o (by rw[E.o];decide));rw[B]at y2;clear hR hc B y0 y1;go_wp2_with fail;go_ret;exact⟨by rw[E.o];rfl,u.o⟩
   |true=>
    obtain⟨l,hl⟩:=OK.o.lv _ _ hc B;have E:=O (Qlp hc B hl OK.o.most.2);rw[B]at y2;clear hR hc B y0 y1;go_wp2_with fail;clear y2;have a0:=Ym (CV.o.drew.blk HA.o (λh=>h));have U:=X9 (CV.o.drew.blk S0.o (λh=>h));apply XB 2200000;apply YA 0;clear a0 U;go_wp2_with fail;apply Zz (az.o _);intro w4 c4;rw[EM.o];have C4:=O (CV.o.drew.aA c4);clear c4;go_wp2_with fail;apply YI 0;by_cases h0:Eo p.len s.most=0
    .have E1:=O (show s.aQ p=D8 l.pk l.bt l.q p by rw[E.o,if_neg (by rw[h0];decide)]);rw[h0];clear h0;go_wp2_with fail;obtain⟨qb,dv,ba,⟨Gd,bl⟩,ae⟩:=HP.o.qPush hl p;have bj:=O ae;have bg:=O ba;have HL:=O hl;have lk:=(ah.o _ C4.o.drew).look1 p.cls;rw[G7 hl]at lk;have a0:=Ym (C4.o.drew.blk HA.o (λh=>h));have U:=X9 (C4.o.drew.blk S0.o (λh=>h));clear ba bl ae hl;apply XB 20000000;apply YA 0;clear a0 U lk;go_wp2_with fail;refine Jo ?_;go_wp2_with fail;have y0:=Q4 (C4.o.drew.drew.blk bg.o (λh=>h));have U:=X9 (C4.o.drew.drew.blk S0.o (λh=>h));apply XB 2200000;apply YA 0;clear y0 U;go_wp2_with fail;apply Zz (bj.o _ C4.o.drew.drew);rintro w5⟨bd,ak⟩;have bh:=O bd;have a6:=O ak;clear bd ak;go_wp2_with fail;apply YI 0;by_cases z:D8 l.pk l.bt l.q p=0
     .have E0:=O (E1.o.trans z);have PS:=O (Ct (now:=now) E0.o HL.o);obtain⟨c5,h5,a8,rq,bb⟩:=a6.o z;have H5:=O h5;have C5:=O c5;have af:=O a8;have J:=O (Qin bb);obtain⟨n1,av⟩:=Zx ((l.q++[p]).length);rw[<-av]at J;have a5:=O av;rw[z];have y0:=Q4 af.o;clear z h5 c5 a8 bb av;by_cases hq:l.q=[]
      .have hz:n1=1:=by rw[a5.o,hq];rfl
       subst hz;rw[show((1:Nat):Int)=1 from rfl]at J;have a7:=O (PS.o.trans (if_neg (by simpa using hq)));clear hq;go_wp2_with fail;apply Zy J;rintro w6 rfl;have am:Hi (l.id=p.cls):=O ((Y3 (show Hn Qw.id p.cls s.aI=some l from HL.o)).2);have ay:Hi ((s.aR {l with q:=l.q++[p]}).leaf p.cls=some {l with q:=l.q++[p]}):=O (Oz HL.o am.o);cases hd:l.debt with
       |none=>
        have aq:dv=.pointer none:=H5.o.noDebt ay.o af.o hd;have ab:=O (show s.owe {l with q:=l.q++[p]} (λd=>d.wake now p.len)=s.aR {l with q:=l.q++[p]} by unfold Qf.owe;dsimp only;rw[hd]);subst aq;clear hd;go_wp2_with fail;clear y0;have a0:=Ym H5.o.drew.blk;have U:=X9 (Qc.blk C5.o.drew S0.o NF.o);have ao:=O (H5.o.pickWake (dep:=Xk s.tree) OK.o.pick an.o p.cls now aa.o);apply XB 20000000;apply YA 0;clear a0 U;go_wp2_with fail;apply Zz (ao.o _ (Zg Qb w5).drew);rintro w9⟨h9,c9⟩;obtain⟨n1,n2⟩:=(Qi.obj A).two h9 I.o C5.o c9;have u:=O (K.o w9 (s.push p now) (by rw[a7.o,ab.o];exact⟨A,n1⟩) n2);clear h9 c9 n1 n2;go_wp2_with fail;refine Jo ?_;go_wp2;go_ret;exact⟨by rw[E0.o];rfl,u.o⟩
       |some d=>
        obtain⟨dg,dn,_⟩:=(OK.o.at HL.o).1.debt d hd;obtain⟨q,aq,bc⟩:=H5.o.wakeDebt ay.o af.o (d:=d) hd (by have:=an.o;omega) dg now aa.o p.len;have ab:=O (show s.owe {l with q:=l.q++[p]} (λd=>d.wake now p.len)={s.aR {l with q:=l.q++[p],debt:=some (d.wake now p.len)}with row:=Hj s.row p.cls (d.wake now p.len)} by unfold Qf.owe;dsimp only;rw[hd,am.o]);have bk:=O bc;subst aq;clear hd bc dg dn;go_wp2_with fail;clear y0;have y0:=Q4 af.o.drew;have U:=X9 (Qc.blk C5.o.drew S0.o NF.o);apply XB 20000000;apply YA 0;clear y0 U;go_wp2_with fail;apply Zz (bk.o _ (Zg Qb w5).drew);rintro w7⟨h7,c7,a9⟩;obtain⟨m1,m2⟩:=(Qi.obj A).two h7 I.o C5.o c7;have H7:=O (show Qi A w7 (Qn F W w7) b (s.aR {l with q:=l.q++[p],debt:=some (d.wake now p.len)}) by
         rw[<-Rz (s:=s) (l1:={l with q:=l.q++[p]}) (l2:={l with q:=l.q++[p],debt:=some (d.wake now p.len)}) rfl];exact m1)
        have C7:=O m2;have aw:=O a9;have bf:Hi ((s.aR {l with q:=l.q++[p],debt:=some (d.wake now p.len)}).leaf p.cls=some {l with q:=l.q++[p],debt:=some (d.wake now p.len)}):=O (Oz HL.o am.o);have bi:=O (H7.o.noteDebt bf.o aw.o rfl (HP.o.row_len OK.o));clear h7 c7 a9 m1 m2;go_wp2_with fail;refine Jo ?_;go_wp2_with fail;have a0:=Ym H7.o.drew.blk;have y0:=Q4 aw.o.drew;have U:=X9 (Qc.blk C7.o.drew S0.o NF.o);apply XB 20000000000;apply YA 0;clear a0 y0 U;go_wp2_with fail;apply Zz (bi.o _ (Zg Qb w7).drew);rintro w8⟨h8,c8⟩;obtain⟨m1,m2⟩:=(Qi.obj A).two h8 I.o C7.o c8;have H8:=O m1;have C8:=O m2;clear h8 c8 m1 m2;go_wp2_with fail;refine Jo ?_;go_wp2_with fail;have a0:=Ym H8.o.drew.blk;have U:=X9 (Qc.blk C8.o.drew S0.o NF.o);have ao:=O (H8.o.pickWake (dep:=Xk s.tree) OK.o.pick an.o p.cls now aa.o);apply XB 20000000;apply YA 0;clear a0 U;go_wp2_with fail;apply Zz (ao.o _ (Zg Qb w8).drew);rintro w9⟨h9,c9⟩;obtain⟨n1,n2⟩:=(Qi.obj A).two h9 I.o C8.o c9;have u:=O (K.o w9 (s.push p now) (by rw[a7.o,ab.o];exact⟨A,n1⟩) n2);clear h9 c9 n1 n2;go_wp2_with fail;refine Jo ?_;go_wp2;go_ret;exact⟨by rw[E0.o];rfl,u.o⟩
      .have hd:decide ((1:Int)<(n1:Int))=true:=by have:=a5.o;have h0:l.q.length≠0:=λe=>hq (List.eq_nil_of_length_eq_zero e);simp at this|-;omega
       have bq:decide (1<n1)=true:=by simp at hd|-;omega
       have u:=O (K.o w5 (s.push p now) (by rw[PS.o,if_pos hq];exact⟨A,H5.o⟩) C5.o);clear hq;go_wp2_with fail;apply Zy J;rintro w6 rfl;go_wp2_with fail;go_ret;exact⟨by rw[E0.o];rfl,u.o⟩
     .have u:=O (R.o w5 (C4.o.drew.drew.aA (bh.o z)) (by rw[E1.o];exact z));have hd:decide (D8 l.pk l.bt l.q p=0)=false:=by simpa using z
      have ap:(D8 l.pk l.bt l.q p==0)=false:=by simpa using z
      generalize D8 l.pk l.bt l.q p=er at hd ap E1|-;clear z;go_wp2_with fail;go_ret;exact⟨by rw[E1.o];rfl,u.o⟩
    .have E1:=O (show s.aQ p=Eo p.len s.most by rw[E.o,if_pos h0]);have u:=O (R.o w4 C4.o (by rw[E1.o];exact h0));have hd:decide (Eo p.len s.most=0)=false:=by simpa using h0
     have ap:(Eo p.len s.most==0)=false:=by simpa using h0
     generalize Eo p.len s.most=er at hd ap E1|-;clear h0;go_wp2_with fail;go_ret;exact⟨by rw[E1.o];rfl,u.o⟩
end
def Pm(l:List Jr):Jr:=l.headD Jr.zero
def Qhg(l:List Jr):Bool:=!l.isEmpty
theorem Qse{w}{b r d c:Nat}{l:List Jr}(h:Jz w b r d c l):
  ZW 96 #[ZP b] w (.tuple #[.agg #[ZU (Pm l).id,ZI (Pm l).cls,ZI (Pm l).len,ZU (Pm l).at_],.bool (Qhg l)]) λw'=>Qc Qb w w':=by
 cases l with
 |nil=>exact Qa9 h
 |cons p l=>exact Qba h
theorem Qpr{w}{b r q c:Nat}{l:List Jr}(h:Jz w b r q c l):
  Cl 95 #[ZP b] w λe w'=>e=.returned (.tuple #[.agg #[ZU (Pm l).id,ZI (Pm l).cls,ZI (Pm l).len,ZU (Pm l).at_],.bool (Qhg l)])/\
   Jz w' b r q c l.tail/\Qc (λk=>k=b) w w':=by
 cases l with
 |nil=>exact(Qps h).mono λe w'⟨u,d⟩=>⟨u,h.aB d (λh=>h) (λh=>h),d.mono λ_ h=>h.elim⟩
 |cons p l=>exact Qpt h
def pkA(p:Jr):Array Value:=(ZL p)
theorem Qt5(p:Jr):∀v∈(pkA p).toList,v.oneCell'=true:=by intro v c;simp only[pkA,Zu,List.not_mem_nil,or_false]at c;rcases c with rfl|rfl|rfl|rfl<;>rfl
def chA(p:Jr)(rule c:Nat):Array Value:=#[ZU p.id,ZI p.cls,ZI p.len,ZU p.at_,.int .u8 rule,ZU c]
theorem Iy(p:Jr)(r d:Nat):∀v∈(chA p r d).toList,v.oneCell'=true:=by intro v c;simp only[chA,Zu,List.not_mem_nil,or_false]at c;rcases c with rfl|rfl|rfl|rfl|rfl|rfl<;>rfl
section
variable{A:Tb}{w w1 w2:World}{F:Fp}{b a:Nat}{s:Qf}{N:Nat}{l:Qw}
theorem Qtl(l:List Jr):Qhg l=decide (l≠[]):=by cases l<;>simp[Qhg]
theorem Qi.qPop(h:Qi A w F b s){i:Int}(hl:s.leaf i=some l):∃c z,Qh w (A.ad i) #[ptr c,z] 107/\
  ∀w1,Qc Qb w w1->Cl 95 #[ptr c] w1 λe w2=>e=.returned (.tuple #[.agg (pkA (Pm l.q)),.bool (Qhg l.q)])/\
   Qc F w w2/\Qi A w2 (Qn F w w2) b (s.aR {l with q:=l.q.tail})/\Qh w2 (A.ad i) #[ptr c,z] 107/\∃r,Jz w2 c r l.pk l.bt l.q.tail:=by
 obtain⟨c,z,U,⟨G,I,u⟩,_⟩:=h.openLeaf hl;refine⟨c,z,U,λw1 B=>?_⟩;obtain⟨r,V,K,R,g3⟩:=(Lm c l.pk l.bt l.q).aB I B (Jl.none _);apply Zz (Qpr V);rintro w2⟨d,J⟩;have E:Qc G w w2:=(B.none (F:=G)).aA (J.sub λk Z=>by rcases Z with rfl;assumption);obtain⟨m1,m2,m3⟩:=u w2 l.q.tail ⟨r,d,.inl K,.inl R,((Lm c l.pk l.bt l.q).bd I).ext E⟩ E;exact⟨rfl,m2,m1,m3,r,d⟩
theorem Qi.serveDebt(h:Qi A w F b s){i:Int}(hl:s.leaf i=some l){K:Nat}{I:Value}(V:Qh w (A.ad i) #[ptr K,I] 107){d:Ju}(Z:l.debt=some d)(hn:d.run.l.length<549755813888)(hg:d.got<=Xw)(rule:Nat)(B u:Int):
  ∃q,I=ptr q/\(∀w1,Qc Qb w w1->ZW 97 #[ptr q] w1 (ZU (d.dueAt:Nat)) λw2=>w1=w2)/\
   ∀w1,Qc Qb w w1->ZW 98 #[ptr q,.int .u8 rule,ZI B,ZI u] w1 (.tuple #[]) λw2=>Qi A w2 (Qn F w w2) b (s.aR {l with debt:=some (d.serve rule B u)})/\Qc F w w2/\Qh w2 (A.ad i) #[ptr K,I] 107:=by
 obtain⟨q,hq,_⟩:=h.debtStep hl V Z;have key:∀w1,Qc Qb w w1->∃G:Fp,Ye w1 G q d/\∀w' U,Ye w' (Qn G w1 w') q U->Qc G w1 w'->Qi A w' (Qn F w1 w') b (s.aR {l with debt:=some U})/\Qc F w1 w'/\Qh w' (A.ad i) #[ptr K,I] 107:=by intro w1 z;have h1:=(Qi.obj A).aB h z (Jl.none F);obtain⟨q',c,G,E,k⟩:=h1.debtStep hl (z.blk V (λh=>h)) Z;rw[hq]at c;injection c with c;injection c with c;injection c with c _;subst c;exact⟨G,E,k⟩
 refine⟨q,hq,λw1 z=>?_,λw1 z=>?_⟩;·obtain⟨G,E,_⟩:=key w1 z;exact Cb E
 .obtain⟨G,E,k⟩:=key w1 z;apply Zz (Qgw E hn hg rule B u);rintro w2⟨J,c2⟩;obtain⟨m1,m2,m3⟩:=k w2 _ J c2;have R:Qc F w w2:=z.none.aA m2;exact⟨rfl,(Qi.obj A).more m1 (Ke z.size) (((Qi.obj A).bd h).ext R),R,m3⟩
theorem Qi.pickSent(h:Qi A w F b s){dep:Int->Nat}(V:Qs dep N s.pick)(J:N<549755813000)(i:Int)(g:Nat)(K:g<18446744073709551616)(c:Bool):
  ∀w1,Qc Qb w w1->ZW 100 #[ptr A.pb,ZI i,ZU g,.bool c] w1 (.tuple #[]) λw2=>Qi A w2 (Qn F w w2) b {s with pick:=s.pick.sent i g c}/\Qc F w w2:=by
 intro w1 k;have E:=(Qi.obj A).aB h k (Jl.none F);obtain⟨H,⟨z,I⟩,_,d⟩:=E.pickOf;apply Zz (Qlm I V J i g K c);rintro w2⟨q,B⟩;obtain⟨R,U⟩:=d w2 _ ⟨z,q⟩ B;have u:Qc F w w2:=k.none.aA U;exact⟨rfl,(Qi.obj A).more R (Ke k.size) (((Qi.obj A).bd h).ext u),u⟩
end
section
variable{A:Tb}{w w1 w2:World}{F:Fp}{b a:Nat}{s:Qf}{N:Nat}{l:Qw}
theorem Lv{d:Func}{p:Tmp}{ty:TypeId}(h:d.results=#[.cell p ty])(c:Array Value)(P:Program)(w):
  (results d c).run P w=((asAddr (c.getD p undef)).run P w).andThen λa k=>(loadVar ty a).run P k:=by
 simp only[results,h];simp[Sem.run_bind,Result.andThen]
theorem Qme(h:Qt w F b s)(ok:Xp N s)(hN:N<549755813000){id:Int}{l:Qw}(hl:s.leaf id=some l)(rule:Nat)(ay:rule<256):
  ZW 56 #[ptr b,ZI id,.int .u8 rule] w (.agg (chA (s.aX id rule).p (s.aX id rule).rule (s.aX id rule).due)) λw'=>Qt w' (Qn F w w') b (s.take id rule)/\Qc F w w':=by
 obtain⟨A,h⟩:=h;have a7:=(Qi.obj A).bd h;obtain⟨W,hW⟩:=Zx (w.alloc (.cells ZK 70));have S0:Hi (Qh W w.heap.size ZK 70):=O (by rw[hW];exact Qh.new _ _ _);have C0:Hi (Qc Qb w W):=O (by rw[hW];exact(Zg _ _).alloc _);have hP:=(Qi.obj A).aB h C0.o (Jl.none F);have NF:Hi (¬F w.heap.size):=O (λu=>by have:=a7 _ u;omega);have a9:Bd F W:=a7.later C0.o;have bm:Hi (w.heap.size<W.heap.size):=O (Qh.lt S0.o);obtain⟨qb,dv,bz,bb⟩:=hP.qPop hl;obtain⟨y0,y1⟩:=Q4 bz;have bw:=O bb;have lk:=hP.look1 id;rw[G7 hl]at lk;obtain⟨a0,a1,a2,a3,a4⟩:=Ym hP.blk;have HP:=O hP;have OK:=O ok;have HL:=O hl;have am:=O a9;have b3:=O a7;have ao:=O hN;have HR:=O ay;clear h a7 ok hP a9 hN ay bb hl bz;apply WH func56;rw[hW]at a0 a1 a2 a3 a4 y0 y1 lk;go_wp2_with fail;rw[<-hW];rw[<-hW]at a0 a1 a2 a3 a4 y0 y1 lk;clear hW;apply Zz (bw.o W (Zg _ _));rintro w2⟨c2,h2,bo,rq,b0⟩;obtain⟨W3,s3,a6,C3⟩:=Q0 (P:=prog) (vs:=pkA (Pm l.q)) (Qh.new w2 #[ZU 0,ZI 0,ZI 0,ZU 0] 31) rfl (Qt5 _);obtain⟨c,bq⟩:=Zx (Pm l.q);rw[<-bq]at s3 a6|-;have ac:=O bq;clear bq;have b2:Hi (Qc Qb w2 W3):=O (((Zg Qb w2).alloc _).trans C3 (λk e=>.inr (by omega)));have p0:=X9 (show Qh W3 w2.heap.size (ZL c) 31 from a6);obtain⟨W4,aw⟩:=Zx (W3.alloc (.cells #[ZU c.id,ZI c.cls,ZI c.len,ZU c.at_,.int .u8 rule,ZU (0:Int)] 70));have bv:Hi (Qh W4 W3.heap.size #[ZU c.id,ZI c.cls,ZI c.len,ZU c.at_,.int .u8 rule,ZU (0:Int)] 70):=O (by rw[aw];exact Qh.new _ _ _);have bs:Hi (Qc Qb W3 W4):=O (by rw[aw];exact(Zg _ _).alloc _);have CV:=O (b2.o.aA bs.o);have HH:=O (Qse (b0.aB CV.o (λh=>h) (λh=>h)));obtain⟨nx,br⟩:=Zx (Pm l.q.tail);rw[<-br]at HH;have b4:=O br;have H2:=O h2;have C2:=O c2;have bt:=O bo;have bu:=O a6;obtain⟨z0,U⟩:=Q4 (CV.o.blk bo (λh=>h));rw[aw]at z0 U;clear h2 c2 bo a6 b0 C3 a0 a1 a2 a3 a4 y0 y1 lk br;go_wp2_with fail;rw[<-aw];clear aw z0 U s3 p0;apply Zy HH;intro w5 c5;obtain⟨W6,I⟩:=Zx (w5.alloc (.cells (ZL nx) 31));have be:Hi (Qc Qb W4 W6):=O (by rw[I];exact c5.alloc _);have CN:=O (CV.o.aA be.o);have a5:Hi (Qh W6 w5.heap.size (ZL nx) 31):=O (by rw[I];exact Qh.new _ _ _);have ai:=O (be.o.blk bv.o (λh=>h));have T8:Hi (Qh W6 w2.heap.size (ZL c) 31):=O ((bs.o.aA be.o).blk bu.o (λh=>h));have T6:=O ((C2.o.aA (CN.o.none (F:=F))).blk S0.o NF.o);have B:=O (CN.o.blk bt.o (λh=>h));have H6:=O ((Qi.obj A).aB H2.o CN.o (Jl.none _));have bc:=O ((am.o.ext C2.o).later CN.o);have bg:Hi ((s.aR {l with q:=l.q.tail}).leaf id=some {l with q:=l.q.tail}):=O (Oz HL.o (Y3 (show Hn Qw.id id s.aI=some l from HL.o)).2);have bi:Hi (l.id=id):=O ((Y3 (show Hn Qw.id id s.aI=some l from HL.o)).2);have SZ:Hi (W.heap.size<=w2.heap.size/\w2.heap.size<W3.heap.size/\W3.heap.size<w5.heap.size/\w5.heap.size<W6.heap.size):=O (⟨C2.o.size,bu.o.lt,Nat.lt_of_lt_of_le bv.o.lt c5.size,a5.o.lt⟩);clear c5;have ak:Hi (∀V w7 w8 t,Qc Qb w2 V->Qi A w7 (Qn (Qn F W w2) V w7) b t->Qc (Qn F W w2) V w7->Qc (λk=>k=w.heap.size) w7 w8->Qt w8 (Qn F w w8) b t/\Qc F w w8):=O (λV w7 w8 t cV h1 h2 h3=>by
  have U:=C0.o.size;have z2:=C2.o.size;have z3:=cV.size;have z4:=h2.size;have z5:=h3.size;have z6:=bm.o;have c1:Qc F w V:=((C0.o.none (F:=F)).aA C2.o).aA cV.none;have c2:Qc F w w7:=c1.trans h2 (λk u=>u.elim .inl (λu=>.inr (by omega)));have c3:Qc F w w8:=c2.trans h3 (λk e=>.inr (by omega));have h4:=(Qi.obj A).aB h1 h3 (λk u e=>by
   subst e;rcases u with(u|u)|u;·exact NF.o u
   .omega
   .omega)
  refine⟨⟨A,(Qi.obj A).more h4 (λk u=>?_) (b3.o.ext c3)⟩,c3⟩;rcases u with(u|u)|u;·exact .inl u
  .exact .inr (by omega)
  .exact .inr (by omega))
 have bl:=O (Fd (rule:=rule) HL.o);have bj:=O (Qtl l.q.tail);have b8:Hi (∀V t,Qc Qb w2 V->Qi A V (Qn F W w2) b t->Qi A V (Qn (Qn F W w2) V V) b t):=O (λV t _ h=>(Qi.obj A).more h (λk u=>.inl u) (λk u=>u.elim ((Qi.obj A).bd h k) (λu=>u.2)));have J:=O (show 0<=c.len/\c.len<=65535 by
  rw[ac.o];have hg:=(OK.o.at HL.o).1.good;cases hq:l.q with
  |nil=>exact⟨by decide,by decide⟩
  |cons x t=>
   have:=(hg x (by rw[hq];simp)).1;exact⟨by have:=this.1;show 0<=x.len;omega,this.2⟩)
 have N8:Hi (¬Qn F W w2 w2.heap.size):=O (λu=>u.elim (λu=>by have:=am.o _ u;have:=C2.o.size;omega) (λu=>by omega));have az:Hi (¬Qn F W w2 W3.heap.size):=O (λu=>u.elim (λu=>by have:=am.o _ u;have:=SZ.o;omega) (λu=>by have:=SZ.o;omega));have N6:Hi (¬Qn F W w2 w.heap.size):=O (λu=>u.elim NF.o (λu=>by have:=bm.o;omega));cases hd:l.debt with
 |none=>
  have bp:dv=.pointer none:=H6.o.noDebt bg.o B.o hd;subst bp;obtain⟨z0,U⟩:=Q4 B.o;rw[I]at z0 U;have R:=O (show s.aX id rule=⟨c,rule,0⟩ by unfold Qf.aX;rw[HL.o,ac.o];dsimp only;rw[hd];rfl);have ag:=O (show s.owe {l with q:=l.q.tail} (λd=>d.serve rule (l.q.headD Jr.zero).len (l.q.tail.headD Jr.zero).len)=s.aR {l with q:=l.q.tail} by unfold Qf.owe;dsimp only;rw[hd]);clear hd;go_wp2_with fail;rw[<-I];clear I z0 U;have CR:=O (Zg (Qn F W w2) W6);have a0:=Ym H6.o.drew.blk;have g0:=X9 (Qc.blk CR.o.drew T8.o N8.o);have q1:=J.o.1;have q2:=J.o.2;have ab:=O (H6.o.pickSent (dep:=Xk s.tree) OK.o.pick ao.o id (c.len*256).toNat (by omega) (Qhg l.q.tail));rw[show(((c.len*256).toNat:Nat):Int)=c.len*256 from by omega]at ab;apply XB 20000000000;apply YA 0;clear a0 g0;go_wp2_with fail;apply Zz (ab.o _ (Zg Qb W6).drew);rintro w9⟨h9,c9⟩;have m1:=h9;have m2:=c9;have H9:=O m1;have Z:=O m2;clear h9 c9 m1 m2 q1 q2;go_wp2_with fail;refine Jo ?_;have t0:=Lf (Z.o.blk ai.o az.o);have u0:=Lf (Z.o.blk T6.o N6.o);have fz:=(Z.o.blk T6.o N6.o).frozen;have aa:=O (ak.o W6 w9 ((((((w9.setCell ⟨w.heap.size,0,none⟩ (ZU c.id)).setCell ⟨w.heap.size,1,none⟩ (ZI c.cls)).setCell ⟨w.heap.size,2,none⟩ (ZI c.len)).setCell ⟨w.heap.size,3,none⟩ (ZU c.at_)).setCell ⟨w.heap.size,4,none⟩ (.int .u8 rule)).setCell ⟨w.heap.size,5,none⟩ (ZU (0:Int))) _ CN.o H9.o Z.o (by
   refine(((((((Zg (λk=>k=w.heap.size) w9).setCell _ (.inl rfl)).setCell _ (.inl rfl)).setCell _ (.inl rfl)).setCell _ (.inl rfl)).setCell _ (.inl rfl)).setCell _ (.inl rfl))))
  have TB:Hi (Qh ((((((w9.setCell ⟨w.heap.size,0,none⟩ (ZU c.id)).setCell ⟨w.heap.size,1,none⟩ (ZI c.cls)).setCell ⟨w.heap.size,2,none⟩ (ZI c.len)).setCell ⟨w.heap.size,3,none⟩ (ZU c.at_)).setCell ⟨w.heap.size,4,none⟩ (.int .u8 rule)).setCell ⟨w.heap.size,5,none⟩ (ZU (0:Int))) w.heap.size #[ZU c.id,ZI c.cls,ZI c.len,ZU c.at_,.int .u8 rule,ZU (0:Int)] 70):=O (((((((Z.o.blk T6.o N6.o).set 0 _).set 1 _).set 2 _).set 3 _).set 4 _).set 5 _);go_wp2_with fail;clear t0 u0 fz;obtain⟨b1,z⟩:=Zx ((((((w9.setCell ⟨w.heap.size,0,none⟩ (ZU c.id)).setCell ⟨w.heap.size,1,none⟩ (ZI c.cls)).setCell ⟨w.heap.size,2,none⟩ (ZI c.len)).setCell ⟨w.heap.size,3,none⟩ (ZU c.at_)).setCell ⟨w.heap.size,4,none⟩ (.int .u8 rule)).setCell ⟨w.heap.size,5,none⟩ (ZU (0:Int)));rw[<-z]at TB aa|-;clear z;have r0:=Lf TB.o;refine bodyPost_ret (v:=.agg #[ZU c.id,ZI c.cls,ZI c.len,ZU c.at_,.int .u8 rule,ZU (0:Int)]) (by rw[Lv (p:=6) (ty:=70) (by kernel_rfl)];go_simp;try rfl) rfl ?_;rw[R.o];refine⟨rfl,?_⟩;rw[bl.o,ag.o,<-bj.o];have e:=ac.o;subst e;exact aa.o
 |some d=>
  obtain⟨dg,dn,_⟩:=(OK.o.at HL.o).1.debt d hd;obtain⟨q,bp,ba,E⟩:=H6.o.serveDebt bg.o B.o (d:=d) hd (by have:=ao.o;omega) dg rule c.len nx.len;have a8:=O ba;have R:=O (show s.aX id rule=⟨c,rule,if rule=1 then d.dueAt else 0⟩ by unfold Qf.aX;rw[HL.o,ac.o];dsimp only;rw[hd];rfl);have ag:=O (show s.owe {l with q:=l.q.tail} (λd=>d.serve rule (l.q.headD Jr.zero).len (l.q.tail.headD Jr.zero).len)={s.aR {l with q:=l.q.tail,debt:=some (d.serve rule c.len nx.len)}with row:=Hj s.row id (d.serve rule c.len nx.len)} by rw[ac.o,b4.o];unfold Qf.owe;dsimp only;rw[hd,bi.o];rfl);subst bp;have bf:=O (Zt hd (Zt dg dn));clear ba hd dg dn;obtain⟨z0,U⟩:=Q4 B.o;rw[I]at z0 U;by_cases ax:rule=1
  .have b5:decide ((rule:Int)=1)=true:=by simp;omega
   have b6:((rule:Int)==1)=true:=by simp;omega
   have b7:=O ax;have aq:=O (R.o.trans (by rw[if_pos ax]));clear ax E;go_wp2_with fail;rw[<-I];clear I z0 U;apply Zz (a8.o W6 (Zg _ _));rintro w7 rfl;have v0:=Lf ai.o;have fz:=ai.o.frozen;go_wp2_with fail;clear v0 fz;have NA:Hi (¬A.ad id=W3.heap.size):=O (λe=>by have:=bt.o.lt;have:=SZ.o;omega);have N5:Hi (¬w5.heap.size=W3.heap.size):=O (λe=>by have:=SZ.o;omega);have N2:Hi (¬w2.heap.size=W3.heap.size):=O (λe=>by have:=SZ.o;omega);have NW:Hi (¬w.heap.size=W3.heap.size):=O (λe=>by have:=SZ.o;have:=bm.o;omega);have CS:Hi (Qc (λk=>k=W3.heap.size) W6 (W6.setCell ⟨W3.heap.size,5,none⟩ (ZU d.dueAt))):=O ((Zg _ W6).setCell _ (.inl rfl));have ah:Hi (Qh (W6.setCell ⟨W3.heap.size,5,none⟩ (ZU d.dueAt)) W3.heap.size #[ZU c.id,ZI c.cls,ZI c.len,ZU c.at_,.int .u8 rule,ZU d.dueAt] 70):=O (ai.o.set 5 _);obtain⟨V,hV⟩:=Zx (W6.setCell ⟨W3.heap.size,5,none⟩ (ZU d.dueAt));rw[<-hV]at CS ah|-;clear hV;have ae:=O (CS.o.blk T6.o NW.o);have au:=O (CS.o.blk T8.o N2.o);have ar:=O (CS.o.blk a5.o N5.o);have K:=CS.o.blk B.o NA.o;have aj:=O (bc.o.later CS.o);have bd:=O (CN.o.trans CS.o (λk e=>.inr (by have:=SZ.o;omega)));have HV:=O ((Qi.obj A).aB H6.o CS.o (λk u e=>az.o (e▸u)));obtain⟨q',af,_,E⟩:=HV.o.serveDebt bg.o K (d:=d) bf.o.1 (by have:=ao.o;have:=bf.o.2.2;omega) bf.o.2.1 rule c.len nx.len;injection af with af;injection af with af;injection af with af _;subst af;have R:=aq;have an:=O K;have ap:=O E;have bh:Hi ((s.aR {l with q:=l.q.tail,debt:=some (d.serve rule c.len nx.len)}).leaf id=some {l with q:=l.q.tail,debt:=some (d.serve rule c.len nx.len)}):=O (Oz HL.o bi.o);clear K E;have z0:=Q4 an.o.drew;have g0:=X9 au.o.drew;have k0:=X9 ar.o.drew;apply XB 2000000000;apply YA 0;clear z0 g0 k0;go_wp2_with fail;apply Zz (ap.o _ (Zg Qb V).drew);rintro w7⟨h7,c7,av⟩;have H7:=O (show Qi A w7 (Qn (Qn F W w2) V w7) b (s.aR {l with q:=l.q.tail,debt:=some (d.serve rule c.len nx.len)}) by
    rw[<-Rz (s:=s) (l1:={l with q:=l.q.tail}) (l2:={l with q:=l.q.tail,debt:=some (d.serve rule c.len nx.len)}) rfl];exact h7)
   have C7:=O c7;have al:=O av;have bk:=O (H7.o.noteDebt bh.o al.o rfl (HP.o.row_len OK.o));clear h7 c7 av;go_wp2_with fail;refine Jo ?_;go_wp2_with fail;have a0:=Ym H7.o.drew.blk;have z0:=Q4 al.o.drew;apply XB 2000000000;apply YA 0;clear a0 z0;go_wp2_with fail;apply Zz (bk.o _ (Zg Qb w7).drew);rintro w8⟨h8,c8⟩;obtain⟨m1,m2⟩:=(Qi.obj A).two h8 aj.o C7.o c8;have H8:=O m1;have C8:=O m2;clear h8 c8 m1 m2;go_wp2_with fail;refine Jo ?_;go_wp2_with fail;have a0:=Ym H8.o.drew.blk;have g0:=X9 (Qc.blk C8.o.drew au.o N8.o);have q1:=J.o.1;have q2:=J.o.2;have ab:=O (H8.o.pickSent (dep:=Xk s.tree) OK.o.pick ao.o id (c.len*256).toNat (by omega) (Qhg l.q.tail));rw[show(((c.len*256).toNat:Nat):Int)=c.len*256 from by omega]at ab;apply XB 20000000000;apply YA 0;clear a0 g0;go_wp2_with fail;apply Zz (ab.o _ (Zg Qb w8).drew);rintro w9⟨h9,c9⟩;obtain⟨m1,m2⟩:=(Qi.obj A).two h9 aj.o C8.o c9;have H9:=O m1;have Z:=O m2;clear h9 c9 m1 m2 q1 q2;go_wp2_with fail;refine Jo ?_;have t0:=Lf (Z.o.blk ah.o az.o);have u0:=Lf (Z.o.blk ae.o N6.o);have fz:=(Z.o.blk ae.o N6.o).frozen;have aa:=O (ak.o V w9 ((((((w9.setCell ⟨w.heap.size,0,none⟩ (ZU c.id)).setCell ⟨w.heap.size,1,none⟩ (ZI c.cls)).setCell ⟨w.heap.size,2,none⟩ (ZI c.len)).setCell ⟨w.heap.size,3,none⟩ (ZU c.at_)).setCell ⟨w.heap.size,4,none⟩ (.int .u8 rule)).setCell ⟨w.heap.size,5,none⟩ (ZU d.dueAt)) _ bd.o H9.o Z.o (by
    refine(((((((Zg (λk=>k=w.heap.size) w9).setCell _ (.inl rfl)).setCell _ (.inl rfl)).setCell _ (.inl rfl)).setCell _ (.inl rfl)).setCell _ (.inl rfl)).setCell _ (.inl rfl))))
   have TB:Hi (Qh ((((((w9.setCell ⟨w.heap.size,0,none⟩ (ZU c.id)).setCell ⟨w.heap.size,1,none⟩ (ZI c.cls)).setCell ⟨w.heap.size,2,none⟩ (ZI c.len)).setCell ⟨w.heap.size,3,none⟩ (ZU c.at_)).setCell ⟨w.heap.size,4,none⟩ (.int .u8 rule)).setCell ⟨w.heap.size,5,none⟩ (ZU d.dueAt)) w.heap.size #[ZU c.id,ZI c.cls,ZI c.len,ZU c.at_,.int .u8 rule,ZU d.dueAt] 70):=O (((((((Z.o.blk ae.o N6.o).set 0 _).set 1 _).set 2 _).set 3 _).set 4 _).set 5 _);go_wp2_with fail;clear t0 u0 fz;obtain⟨b1,z⟩:=Zx ((((((w9.setCell ⟨w.heap.size,0,none⟩ (ZU c.id)).setCell ⟨w.heap.size,1,none⟩ (ZI c.cls)).setCell ⟨w.heap.size,2,none⟩ (ZI c.len)).setCell ⟨w.heap.size,3,none⟩ (ZU c.at_)).setCell ⟨w.heap.size,4,none⟩ (.int .u8 rule)).setCell ⟨w.heap.size,5,none⟩ (ZU d.dueAt));rw[<-z]at TB aa|-;clear z;have r0:=Lf TB.o;refine bodyPost_ret (v:=.agg #[ZU c.id,ZI c.cls,ZI c.len,ZU c.at_,.int .u8 rule,ZU d.dueAt]) (by rw[Lv (p:=6) (ty:=70) (by kernel_rfl)];go_simp;try rfl) rfl ?_;rw[R.o];refine⟨rfl,?_⟩;rw[bl.o,ag.o,<-bj.o];have e:=ac.o;subst e;exact aa.o
  .have b5:decide ((rule:Int)=1)=false:=by simp;omega
   have b6:((rule:Int)==1)=false:=by simp;omega
   have aq:=O (R.o.trans (by rw[if_neg ax]));clear ax;go_wp2_with fail;rw[<-I];clear I z0 R;have R:=aq;obtain⟨V,hV⟩:=Zx W6;rw[<-hV]at T6 T8 ai a5 H6 bc B CN E a8|-;clear hV;have K:=B.o;have ae:=T6;have au:=T8;have ah:=ai;have ar:=a5;have aj:=bc;have bd:=CN;have an:=O K;have ap:=O E;have bh:Hi ((s.aR {l with q:=l.q.tail,debt:=some (d.serve rule c.len nx.len)}).leaf id=some {l with q:=l.q.tail,debt:=some (d.serve rule c.len nx.len)}):=O (Oz HL.o bi.o);clear K E;have z0:=Q4 an.o.drew;have g0:=X9 au.o.drew;have k0:=X9 ar.o.drew;apply XB 2000000000;apply YA 0;clear z0 g0 k0;go_wp2_with fail;apply Zz (ap.o _ (Zg Qb V).drew);rintro w7⟨h7,c7,av⟩;have H7:=O (show Qi A w7 (Qn (Qn F W w2) V w7) b (s.aR {l with q:=l.q.tail,debt:=some (d.serve rule c.len nx.len)}) by
    rw[<-Rz (s:=s) (l1:={l with q:=l.q.tail}) (l2:={l with q:=l.q.tail,debt:=some (d.serve rule c.len nx.len)}) rfl];exact h7)
   have C7:=O c7;have al:=O av;have bk:=O (H7.o.noteDebt bh.o al.o rfl (HP.o.row_len OK.o));clear h7 c7 av;go_wp2_with fail;refine Jo ?_;go_wp2_with fail;have a0:=Ym H7.o.drew.blk;have z0:=Q4 al.o.drew;apply XB 2000000000;apply YA 0;clear a0 z0;go_wp2_with fail;apply Zz (bk.o _ (Zg Qb w7).drew);rintro w8⟨h8,c8⟩;obtain⟨m1,m2⟩:=(Qi.obj A).two h8 aj.o C7.o c8;have H8:=O m1;have C8:=O m2;clear h8 c8 m1 m2;go_wp2_with fail;refine Jo ?_;go_wp2_with fail;have a0:=Ym H8.o.drew.blk;have g0:=X9 (Qc.blk C8.o.drew au.o N8.o);have q1:=J.o.1;have q2:=J.o.2;have ab:=O (H8.o.pickSent (dep:=Xk s.tree) OK.o.pick ao.o id (c.len*256).toNat (by omega) (Qhg l.q.tail));rw[show(((c.len*256).toNat:Nat):Int)=c.len*256 from by omega]at ab;apply XB 20000000000;apply YA 0;clear a0 g0;go_wp2_with fail;apply Zz (ab.o _ (Zg Qb w8).drew);rintro w9⟨h9,c9⟩;obtain⟨m1,m2⟩:=(Qi.obj A).two h9 aj.o C8.o c9;have H9:=O m1;have Z:=O m2;clear h9 c9 m1 m2 q1 q2;go_wp2_with fail;refine Jo ?_;have t0:=Lf (Z.o.blk ah.o az.o);have u0:=Lf (Z.o.blk ae.o N6.o);have fz:=(Z.o.blk ae.o N6.o).frozen;have aa:=O (ak.o V w9 ((((((w9.setCell ⟨w.heap.size,0,none⟩ (ZU c.id)).setCell ⟨w.heap.size,1,none⟩ (ZI c.cls)).setCell ⟨w.heap.size,2,none⟩ (ZI c.len)).setCell ⟨w.heap.size,3,none⟩ (ZU c.at_)).setCell ⟨w.heap.size,4,none⟩ (.int .u8 rule)).setCell ⟨w.heap.size,5,none⟩ (ZU (0:Int))) _ bd.o H9.o Z.o (by
    refine(((((((Zg (λk=>k=w.heap.size) w9).setCell _ (.inl rfl)).setCell _ (.inl rfl)).setCell _ (.inl rfl)).setCell _ (.inl rfl)).setCell _ (.inl rfl)).setCell _ (.inl rfl))))
   have TB:Hi (Qh ((((((w9.setCell ⟨w.heap.size,0,none⟩ (ZU c.id)).setCell ⟨w.heap.size,1,none⟩ (ZI c.cls)).setCell ⟨w.heap.size,2,none⟩ (ZI c.len)).setCell ⟨w.heap.size,3,none⟩ (ZU c.at_)).setCell ⟨w.heap.size,4,none⟩ (.int .u8 rule)).setCell ⟨w.heap.size,5,none⟩ (ZU (0:Int))) w.heap.size #[ZU c.id,ZI c.cls,ZI c.len,ZU c.at_,.int .u8 rule,ZU (0:Int)] 70):=O (((((((Z.o.blk ae.o N6.o).set 0 _).set 1 _).set 2 _).set 3 _).set 4 _).set 5 _);go_wp2_with fail;clear t0 u0 fz;obtain⟨b1,z⟩:=Zx ((((((w9.setCell ⟨w.heap.size,0,none⟩ (ZU c.id)).setCell ⟨w.heap.size,1,none⟩ (ZI c.cls)).setCell ⟨w.heap.size,2,none⟩ (ZI c.len)).setCell ⟨w.heap.size,3,none⟩ (ZU c.at_)).setCell ⟨w.heap.size,4,none⟩ (.int .u8 rule)).setCell ⟨w.heap.size,5,none⟩ (ZU (0:Int)));rw[<-z]at TB aa|-;clear z;have r0:=Lf TB.o;refine bodyPost_ret (v:=.agg #[ZU c.id,ZI c.cls,ZI c.len,ZU c.at_,.int .u8 rule,ZU (0:Int)]) (by rw[Lv (p:=6) (ty:=70) (by kernel_rfl)];go_simp;try rfl) rfl ?_;rw[R.o];refine⟨rfl,?_⟩;rw[bl.o,ag.o,<-bj.o];have e:=ac.o;subst e;exact aa.o
end
section
variable{A:Tb}{w w1 w2:World}{F:Fp}{b a:Nat}{s:Qf}{N:Nat}{l:Qw}
theorem Qcl(h:Qi A w F b s){q u:Nat}(c:Qh w q #[ptr b] 48)(now:Nat)(d:Qh w u #[ZU now] 22):
  ZW 52 #[ZP q,ZP u] w (.tuple #[ZI ((Jt now s.row).getD (0,0)).2,.bool (Jt now s.row).isSome]) λw'=>Qc Qb w w':=by
 have k:Hi (ZW 53 #[ptr A.rb,ZU now] w.drew (.tuple #[ZI ((Jt now s.row).getD (0,0)).2,.bool (Jt now s.row).isSome]) λw'=>Qc Qb w.drew w'):=O (by
  obtain⟨G,U,_⟩:=h.drew.rowOf;exact Qka U now)
 have E:=Ym h.drew.blk;have V:=Jf c.drew;have Z:=Jf d.drew;generalize((Jt now s.row).getD (0,0)).2=id at k|-;generalize(Jt now s.row).isSome=ok at k|-;clear h c d;apply WH func52;go_wp2_with fail;apply XB 2200200000;apply YA 0;clear E V Z;go_wp2_with fail;apply Zy k;intro w1 z;have B:Hi (Qc Qb w w1):=O ((Zg Qb w).drew.aA z);clear z;go_wp2_with fail;apply YA 0;go_wp2_with fail;apply YI 0;exact WD B
theorem Qbm(h:Qi A w F b s)(B:Xp N s){q u:Nat}(c:Qh w q #[ptr b] 48)(now:Nat)(d:Qh w u #[ZU now] 22):
  ZW 54 #[ZP q,ZP u] w (.tuple #[ZI ((s.pick.next now 10 0).getD 0),.bool (s.pick.next now 10 0).isSome]) λw'=>Qc Qb w w':=by
 have k:Hi (ZW 55 #[ptr A.pb,ZU now] w.drew (.tuple #[ZI ((s.pick.next now 10 0).getD 0),.bool (s.pick.next now 10 0).isSome]) λw'=>Qc Qb w.drew w'):=O (by
  obtain⟨G,⟨AP,V⟩,_⟩:=h.drew.pickOf;exact Qll V B.pick now)
 have I:=Ym h.drew.blk;have Z:=Jf c.drew;have x1:=Jf d.drew;generalize(s.pick.next now 10 0).getD 0=id at k|-;generalize(s.pick.next now 10 0).isSome=kk at k|-;clear h c d B;apply WH func54;go_wp2_with fail;apply XB 2200200000;apply YA 0;clear I Z x1;go_wp2_with fail;apply Zy k;intro w1 z;have E:Hi (Qc Qb w w1):=O ((Zg Qb w).drew.aA z);clear z;go_wp2_with fail;apply YA 0;go_wp2_with fail;apply YI 0;exact WD E
end
end Go.Proofs.YtigcnnkagkbflaaGreat
