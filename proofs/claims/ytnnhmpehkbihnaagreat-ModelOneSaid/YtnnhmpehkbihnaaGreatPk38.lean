/- A part of the proof: no condition. -/
import Derived.Test.YtnnhmpehkbihnaaGreatPk36
import Derived.Test.YtnnhmpehkbihnaaGreatPk37
namespace Go.Proofs.YtnnhmpehkbihnaaGreat
set_option linter.unusedVariables false
set_option maxRecDepth 100000
set_option maxHeartbeats 4000000
open Go.RowKit
open Go.Proofs.Tryz
section
variable{h:Qm}
theorem Oq(ok:J8 h){i:Int}{c:Vm}(hc:h.at i=some c):(c.sp.par=0∧Xk h i=1)∨∃q,h.at c.sp.par=some q∧q.sp.leaf=false∧Xk h i=Xk h c.sp.par+1:=by rw[V7 hc];refine(ok.par c (Qm.aE hc).1).imp id fun⟨q,d,hl,e⟩=>⟨q,d,hl,?_⟩;rw[V7 d];exact e
theorem Qhi(ok:J8 h):∀{n:Nat}{i j:Int},j∈h.path n i→Xk h j≤Xk h i∧∃c,h.at j=some c
 |0,i,j,d=>by rw[Qm.path]at d;cases d
 |n+1,i,j,d=>by
  rw[Qm.path]at d;cases hc:h.at i with
  |none=>rw[hc]at d;cases d
  |some c=>
   rw[hc]at d;dsimp only at d;rcases Zu.1 d with rfl|d;·exact⟨Zv _,c,hc⟩
   ·obtain⟨h1,k⟩:=Qhi ok d;refine⟨?_,k⟩;rcases Oq ok hc with⟨e,_⟩|⟨q,_,_,e⟩;·have:Xk h c.sp.par=0:=Kr (ok.zero (by omega));omega
    ·omega
theorem Fx(ok:J8 h):∀(n:Nat)(i:Int),(h.path n i).Pairwise fun a b=>Xk h b<Xk h a
 |0,i=>by rw[Qm.path];exact List.Pairwise.nil
 |n+1,i=>by
  rw[Qm.path];cases hc:h.at i with
  |none=>exact List.Pairwise.nil
  |some c=>
   dsimp only;refine List.pairwise_cons.2 ⟨fun j d=>?_,Fx ok n _⟩;have h1:=(Qhi ok d).1;rcases Oq ok hc with⟨e,e1⟩|⟨q,_,_,e⟩;·have:Xk h c.sp.par=0:=Kr (ok.zero (by omega));omega
   ·omega
theorem Qkk(ok:J8 h){n:Nat}{i a b:Int}(ha:a∈h.path n i)(q:b∈h.path n i)(e:Xk h a=Xk h b):a=b:=by
 have hf:=Fx ok n i;generalize h.path n i=l at ha q hf;induction l with
 |nil=>cases ha
 |cons x l z=>
  obtain⟨h1,u⟩:=List.pairwise_cons.1 hf;rcases Zu.1 ha with e1|d
  ·rcases Zu.1 q with k|c;·exact e1.trans k.symm
   ·have:=h1 b c;rw[←e1]at this;omega
  ·rcases Zu.1 q with k|c;·have:=h1 a d;rw[←k]at this;omega
   ·exact z d c u
theorem P7:∀{n:Nat}{i k:Int},k∈h.path n i→k≠i→∃a c,a∈h.path n i∧h.at a=some c∧c.sp.par=k
 |0,i,k,q,_=>by rw[Qm.path]at q;cases q
 |n+1,i,k,q,hne=>by
  rw[Qm.path]at q⊢;cases hc:h.at i with
  |none=>rw[hc]at q;cases q
  |some c=>
   rw[hc]at q;dsimp only at q⊢;rcases Zu.1 q with rfl|q;·exact absurd rfl hne
   ·by_cases e:k=c.sp.par;·exact⟨i,c,List.mem_cons_self,hc,e.symm⟩
    ·obtain⟨a,d,h1,u,z⟩:=P7 q e;exact⟨a,d,Zr _ h1,u,z⟩
theorem Qdc(ok:J8 h):∀{n:Nat}{i:Int}{c:Vm},h.at i=some c→Xk h i≤n→∃a d,a∈h.path n i∧h.at a=some d∧d.sp.par=0
 |0,i,c,hc,hd=>by have:=(ok.dep c (Qm.aE hc).1).1;rw[V7 hc]at hd;omega
 |n+1,i,c,hc,hd=>by
  rw[Qm.path,hc];dsimp only;rcases Oq ok hc with⟨e,_⟩|⟨q,z,_,e⟩;·exact⟨i,c,List.mem_cons_self,hc,e⟩
  ·obtain⟨a,d,h1,k,u⟩:=Qdc ok (n:=n) z (by omega);exact⟨a,d,Zr _ h1,k,u⟩
theorem Nl(ok:J8 h){i:Int}{c:Vm}(hc:h.at i=some c):Xk h i≤8:=by rw[V7 hc];exact(ok.dep c (Qm.aE hc).1).2
theorem Dv{i y:Int}:y∈h.aM i↔∃c∈h,c.sp.id=y∧c.sp.par=i:=by refine⟨Sx,fun⟨c,hc,e1,d⟩=>?_⟩;exact Z3.2 ⟨c,List.mem_filter.2 ⟨hc,by simpa using d⟩,e1⟩
theorem Np(ok:J8 h){id:Int}(hl:∀c,h.at id=some c→c.sp.leaf=false){x:Int}:x∈h.aI id↔∃a∈h.aM id,x∈h.aI a:=by
 rw[Y8];constructor
 ·rintro⟨c,hc,rfl,q,u⟩;have k:=Da ok.sorted hc;have key:∃a d,a∈h.path 9 c.sp.id∧h.at a=some d∧d.sp.par=id:=by
   rcases u with rfl|u;·exact Qdc ok k (by have:=Nl ok k;omega)
   ·refine P7 u ?_;rintro rfl;have:=hl c k;rw[q]at this;cases this
  obtain⟨a,d,ha,z,B⟩:=key;obtain⟨I,E⟩:=Qm.aE z;exact⟨a,Dv.2 ⟨d,I,E,B⟩,Y8.2 ⟨c,hc,rfl,q,.inr ha⟩⟩
 ·rintro⟨a,ha,J⟩;obtain⟨d,z,rfl,B⟩:=Dv.1 ha;obtain⟨c,hc,rfl,q,u⟩:=Y8.1 J;have k:=Da ok.sorted hc;refine⟨c,hc,rfl,q,?_⟩;by_cases h0:id=0;·exact .inl h0
  ·right;rcases u with u|u;·have:=(Cq (ok.may d z)).1;omega
   ·have:=Qhj ok (Nat.lt_succ_of_le (Nl ok k)) u (Da ok.sorted z) (by rw[B];exact h0);rwa[B]at this
theorem No(ok:J8 h){id a b x:Int}(ha:a∈h.aM id)(hb:b∈h.aM id)(I:x∈h.aI a)(J:x∈h.aI b):a=b:=by
 obtain⟨d,K,rfl,hp⟩:=Dv.1 ha;obtain⟨U,u,rfl,E⟩:=Dv.1 hb;obtain⟨c,hc,rfl,ab,h1⟩:=Y8.1 I;obtain⟨c',aa,e,_,B⟩:=Y8.1 J;have i1:=(Cq (ok.may d K)).1;have i2:=(Cq (ok.may U u)).1;have h1:=h1.resolve_left (by omega);have B:=B.resolve_left (by omega);refine Qkk ok h1 B ?_;have k1:=Oq ok (Da ok.sorted K);have k2:=Oq ok (Da ok.sorted u);rw[hp]at k1;rw[E]at k2;rcases k1 with⟨e1,V⟩|⟨q,R,_,V⟩
 ·rcases k2 with⟨_,z⟩|⟨q',k,_,z⟩;·omega
  ·rw[e1,ok.zero (by decide)]at k;cases k
 ·rcases k2 with⟨Z,z⟩|⟨q',k,_,z⟩;·rw[Z,ok.zero (by decide)]at R;cases R
  ·omega
theorem Pe:∀{a b:List Int},a.Pairwise (· < ·)→b.Pairwise (· < ·)→(∀x,x∈a↔x∈b)→a=b
 |[],[],_,_,_=>rfl
 |[],y::b,_,_,h=>by have:=(h y).2 List.mem_cons_self;cases this
 |x::a,[],_,_,h=>by have:=(h x).1 List.mem_cons_self;cases this
 |x::a,y::b,ha,hb,h=>by
  obtain⟨a1,d⟩:=List.pairwise_cons.1 ha;obtain⟨b1,b2⟩:=List.pairwise_cons.1 hb;have e:x=y:=by
   rcases Zu.1 ((h x).1 List.mem_cons_self)with e|k;·exact e
   ·rcases Zu.1 ((h y).2 List.mem_cons_self)with e|q;·exact e.symm
    ·have:=b1 x k;have:=a1 y q;omega
  subst e;congr 1;refine Pe d b2 fun z=>⟨fun c=>?_,fun c=>?_⟩
  ·rcases Zu.1 ((h z).1 (Zr _ c))with rfl|h';·have:=a1 z c;omega
   ·exact h'
  ·rcases Zu.1 ((h z).2 (Zr _ c))with rfl|h';·have:=b1 z c;omega
   ·exact h'
theorem Qhp(ok:J8 h){id:Int}(hl:∀c,h.at id=some c→c.sp.leaf=false):((h.aM id).flatMap h.aI).mergeSort (fun x y=>decide (x≤y))=h.aI id:=by
 have z:((h.aM id).flatMap h.aI).Pairwise (· ≠ ·):=by
  refine List.pairwise_flatMap.2 ⟨fun a _=>(Ut ok a).imp fun{x y}K e=>by omega,?_⟩;have hs:=Gk ok.sorted id;have:∀l:List Int,l.Pairwise (· < ·)→(∀a∈l,a∈h.aM id)→l.Pairwise fun a b=>∀x∈h.aI a,∀y∈h.aI b,x≠y:=by
   intro l;induction l with
   |nil=>intro _ _;exact List.Pairwise.nil
   |cons a l V=> intro I u;obtain⟨p1,Z⟩:=List.pairwise_cons.1 I;refine List.pairwise_cons.2 ⟨fun b E x J y U e=>?_,V Z fun a ha=>u a (Zr _ ha)⟩;subst e;have:=No ok (u a List.mem_cons_self) (u b (Zr _ E)) J U;have:=p1 b E;omega
  exact this _ hs fun a ha=>ha
 have d:=List.mergeSort_perm ((h.aM id).flatMap h.aI) (fun x y=>decide (x≤y));have q:=List.pairwise_mergeSort (le:=fun x y:Int=>decide (x≤y)) (fun a b c h1 k=>by simp only[decide_eq_true_eq]at*;omega) (fun a b=>by simp only[Bool.or_eq_true,decide_eq_true_eq];omega) ((h.aM id).flatMap h.aI);have B:=(d.pairwise_iff (R:=(· ≠ ·)) (fun h e=>h e.symm)).2 z;refine Pe ?_ (Ut ok id) fun x=>?_
 ·refine(q.and B).imp fun{a b}⟨h1,k⟩=>?_;have:a≤b:=by simpa using h1
  have k:a≠b:=k;omega
 ·rw[d.mem_iff,List.mem_flatMap,Np ok hl]
theorem Rf(ok:J8 h){id:Int}{c:Vm}(hc:h.at id=some c)(hl:c.sp.leaf=true):h.aI id=[id]:=by
 have E:=ok.pos hc;refine Pe (Ut ok id) (by simp) fun x=>?_;rw[Y8];constructor
 ·rintro⟨d,U,rfl,J,B⟩;have B:=B.resolve_left (by omega);by_cases e:id=d.sp.id;·simp[e]
  ·obtain⟨a,q,ha,K,k⟩:=P7 B e;rcases Oq ok K with⟨e1,_⟩|⟨z,I,u,_⟩;·omega
   ·rw[k,hc]at I;obtain rfl:=Zs I;rw[hl]at u;cases u
 ·intro R;obtain rfl:x=id:=by simpa using R
  refine⟨c,E.2.2.2.2.2,E.2.2.2.2.1,hl,.inr ?_⟩;rw[Qm.path,hc];exact List.mem_cons_self
end
section
attribute [local go_sem] Qp
attribute [local irreducible] Kl J9 Xo
section
variable{h:Qm}
theorem Db(h:Qm)(i:Int):(h.aI i).length≤h.length:=by unfold Qm.aI;rw[List.length_map];exact List.length_filter_le _ _
theorem Qm7(h:Qm)(l:List Int):(l.flatMap h.aI).length≤l.length*h.length:=by
 induction l with
 |nil=>simp
 |cons x l c=> rw[List.flatMap_cons,List.length_append,Zm,Nat.add_mul];have:=Db h x;omega
theorem Ec(h:Qm){i:Int}{c:Vm}(hc:h.at i=some c):h.get i=c:=by unfold Qm.get;rw[hc];rfl
theorem Ot(ok:J8 h):∀(n:Nat){w}{F:Fp}{b:Nat}(hh:Q9 w F b h)(id:Int),9≤Xk h id+n→
  Cl 14 #[ptr b,.int .i64 id] w fun e w'=>∃v,e=.returned v∧Q6 w' v (h.aI id)∧(∀k,v.ownBlock=some k→w.heap.size≤k)∧Qc Qb w w'
 |0,w,F,b,hh,id,hd=>by
  exfalso;cases hc:h.at id with
  |none=>rw[Kr hc]at hd;omega
  |some c=>have:=Nl ok hc;omega
 |n+1,w,F,b,hh,id,hd=>by
  have IH:=O (fun(w)(F:Fp)(b:Nat)(hh:Q9 w F b h)(id:Int)(hd:9≤Xk h id+n)=>Ot ok n hh id hd);have J:=O (fun w'(c:Qc Qb w w')=>Q9.obj.aB hh c (Jl.none F));have HG:=O (Ob hh id);have K:=ok.many;have V:=O (show∀i,(h.aM i).length≤64 from fun i=>by
   have:(h.aM i).length≤h.length:=by unfold Qm.aM;rw[List.length_map];exact List.length_filter_le _ _
   omega)
  have ST:Hi (∀w1,Qc Qb w w1→∃d,Qc Qb w d∧w1.heap.size<d.heap.size∧d.cell? ⟨w1.heap.size,2,none⟩=some (.bool (h.get id).sp.leaf)∧
    (storeCells ⟨w1.heap.size,0,none⟩ (Es (h.get id).sp).toList 0).run prog (w1.alloc (.cells Z5 40))=.ok () d):=O (by
   intro w1 c1;obtain⟨d,s2,ak,C2⟩:=Q0 (P:=prog) (vs:=Es (h.get id).sp) (Qh.new w1 Z5 40) rfl (Hl _);have s1:=c1.size;refine⟨d,c1.aA (((Zg Qb w1).alloc _).trans C2 fun k e=>.inr (by omega)),ak.lt,?_,?_⟩;·rw[ak.cell];rfl
   ·exact s2)
  by_cases B:∃c,h.at id=some c∧c.sp.leaf=true
  ·obtain⟨c,hc,Z⟩:=B;have a0:(h.get id).sp.leaf=true:=by rw[Ec h hc];exact Z
   have R:(h.at id).isSome=true:=by rw[hc];rfl
   have LV:=O (Rf ok hc Z);have E:Hi (∀d,Qc Qb w d→Q6 (d.alloc (.cells #[.int .i64 id] 3)) (.slice (some ⟨d.heap.size,0,none⟩) 1 1) (h.aI id)∧(∀k,(Value.slice (some ⟨d.heap.size,0,none⟩) 1 1).ownBlock=some k→w.heap.size≤k)∧Qc Qb w (d.alloc (.cells #[.int .i64 id] 3))):=O (by
    intro d c2;rw[LV.o];refine⟨Q6.mk (l:=[id]) (Qh.new d #[.int .i64 id] 3) rfl (Zv _) (by decide) (fun k y hk=>?_),fun k hk=>?_,c2.alloc _⟩
    ·cases k with
     |zero=>obtain rfl:=Zs hk;rfl
     |succ k=>cases hk
    ·have e:d.heap.size=k:=Zs hk;have:=c2.size;omega)
   rw[R]at HG;unfold ptr at*;clear IH J hc Z hd R hh;go_enter func14,ntmps14;go_wp2_with fail;refine Zy HG ?_;intro w1 c1;obtain⟨d,C2,Xg,z,ba⟩:=ST.o w1 c1;rw[a0]at z;have FF:=O (E.o d C2);clear c1 C2 Xg ST E;go_wp2_with fail;go_ret;exact⟨_,rfl,FF.o⟩
  ·have hl:∀c,h.at id=some c→c.sp.leaf=false:=fun c hc=>by
    cases e:c.sp.leaf with
    |false=>rfl
    |true=>exact absurd ⟨c,hc,e⟩ B
   have LS:=O (Qhp ok hl);have u:((h.at id).isSome&&(h.get id).sp.leaf)=false:=by
    cases hc:h.at id with
    |none=>rfl
    |some c=>rw[Ec h hc,hl c hc];rfl
   have CH:Hi (∀x∈h.aM id,9≤Xk h x+n):=O (fun x hx=>by
    obtain⟨c,hc,rfl,hp⟩:=Dv.1 hx;rcases Oq ok (Da ok.sorted hc)with⟨e1,e2⟩|⟨q,hq,_,e2⟩;·have:Xk h id=0:=Kr (ok.zero (by omega));omega
    ·rw[hp]at e2;omega)
   have HU:=O (fun w'(c:Qc Qb w w')=>P8 (J.o w' c) id (by have:=V.o id;omega));have I:=O K;generalize a7:(h.at id).isSome=ah at HG u;unfold ptr at*;clear hd B hl hh K a7;go_enter func14,ntmps14;go_wp2_with fail;refine Zy HG ?_;intro w1 c1;obtain⟨d,C2,Xg,z,ba⟩:=ST.o w1 c1;have ai:=O C2;generalize a1:(h.get id).sp.leaf=lf at z u;clear c1 C2 Xg ST;have a8:ah=false∨(ah=true∧lf=false):=by
    cases ah with
    |false=>exact .inl rfl
    |true=>exact .inr ⟨rfl,by simpa using u⟩
   clear u a1;rcases a8 with rfl|⟨rfl,rfl⟩;all_goals
    go_wp2_with fail;refine(HU.o d ai.o).mono ?_;rintro e w3⟨uv,rfl,hI,ao,c3⟩;obtain⟨a,cap,rfl,am,_,_⟩:=hI.row intT.hc;have HI:=O hI;have C3:=O (ai.o.aA c3);obtain⟨n0,ag⟩:=Zx ((h.aM id).length);have af:=O ag;rw[←ag]at am⊢;clear hI ao c3 ag;go_wp2_with fail;go_loopw [7,9,27] (fun tv _ ti wr=>∃(k:Nat),ti=.int .i64 k∧k≤n0∧Q6 wr tv (((h.aM id).take k).flatMap h.aI)∧(∀j,tv.ownBlock=some j→w3.heap.size≤j)∧Qc Qb w3 wr) (fun _ _ ti _=>n0-(intOf ti).toNat);case atStart=>exact⟨0,rfl,Nat.zero_le _,Q6.nil _,nofun,Zg _ _⟩
    case round=>
     obtain⟨k,rfl,hk,hA,hO,hc⟩:=hrel;have HA:=O hA;have HO:=O hO;have HC:=O hc;clear hA hO hc;by_cases bg:k<n0
     ·have hd:decide ((k:Int)<(n0:Int))=true:=by simp;omega
      have aa:k<(h.aM id).length:=by have:=af.o;omega
      have an:h.aM id≠[]:=fun e=>by rw[e]at aa;simp at aa
      obtain⟨g,bd,be,a9,hB,bb,ab,_,_⟩:=HI.o.opn an;injection a9 with h1 h2 h3;subst h1;obtain⟨x,hx⟩:∃x,(h.aM id)[k]? =some x:=⟨_,List.getElem?_eq_getElem aa⟩;have Z:wr.cell? ⟨g,k,none⟩=some (.int .i64 x):=by rw[(HC.o.blk hB (fun h=>h)).cell];exact ab k x hx
      have av:x∈h.aM id:=List.mem_of_getElem? hx;have HL:=O (IH.o wr F b (J.o wr (C3.o.aA HC.o)) x (CH.o x av));have bf:IntKind.i64.wrap ((k:Int)+1)=(k:Int)+1:=by have h4:=V.o id;have h5:=af.o;rw[IntWalk.i64_in _ (by omega)]
      have TK:=O (show(h.aM id).take (k+1)=(h.aM id).take k++[x] by rw[List.take_add_one,hx];rfl);have LN:=O (show(((h.aM id).take k).flatMap h.aI).length+(h.aI x).length≤4096+64 from by
       have h1:=Qm7 h ((h.aM id).take k);have h2:=Db h x;have h3:=I.o;have h4:=V.o id;have h5:((h.aM id).take k).length≤64:=by rw[List.length_take];omega
       have h6:((h.aM id).take k).length*h.length≤64*64:=Nat.mul_le_mul h5 h3;omega)
      unfold ptr at*;clear aa an hB bb ab hx av h2 h3;go_wp2_with fail;refine Zo HL ?_;rintro e w4⟨vx,rfl,au,bc,c4⟩;obtain⟨ax,cx,rfl,_,aj,ap⟩:=au.row intT.hc;have ay:=O ap;have C4:=O c4;have aw:=O aj;clear au bc c4 ap aj HL;go_wp2_with (at_builtin;refine Jj intT rfl (.tmp 31) (.tmp 34) rfl _ (((h.aM id).take k).flatMap h.aI) rfl (Q6.aB HA.o C4.o (fun _ _ h=>h)) _ _ (h.aI x) rfl ?a2 ?a3 ?a4 ?a5 ?a6);case a2=>exact aw.o
      case a3=>exact ay.o
      case a4=>have:=LN.o;simp only[maxLen];omega
      case a5=>have:=LN.o;omega
      case a6=>
       intro v' w5 ae al ar;have C5:Hi (Qc Qb w3 w5):=O ((HC.o.aA C4.o).trans al (fun j U=>.inr (HO.o j U)));have O5:Hi (∀j,v'.ownBlock=some j→w3.heap.size≤j):=O (fun j U=>by
        rcases ar with e|e;·rw[e]at U;exact HO.o j U
        ·rw[e]at U;have e2:w4.heap.size=j:=Zs U;have:=HC.o.size;have:=C4.o.size;omega)
       have az:=O ae;clear ae al ar;go_wp2;go_roundw;case measure=>simp only[intOf];omega
       case rel=> refine⟨k+1,by rw[←Int.natCast_one,←Int.natCast_add],by omega,?_,O5.o,C5.o⟩;have:=az.o;rw[TK.o,List.flatMap_append];simpa using this
     ·have hd:decide ((k:Int)<(n0:Int))=false:=by simp;omega
      have ac:k=(h.aM id).length:=by have:=af.o;omega
      have HS:=O (N7 HA.o (by
       have h1:=Qm7 h ((h.aM id).take k);have h3:=I.o;have h4:=V.o id;have h5:((h.aM id).take k).length≤64:=by rw[List.length_take];omega
       have h6:((h.aM id).take k).length*h.length≤64*64:=Nat.mul_le_mul h5 h3;omega))
      have TK:=O (show(h.aM id).take k=h.aM id by rw[ac,List.take_length]);clear ac;go_wp2_with fail;refine Zy HS ?_;rintro w4⟨aq,c4⟩;have E:=O (Zt aq c4);clear aq c4 HS;go_wp2;go_ret;refine⟨_,rfl,?_,?_,?_⟩;·have:=E.o.1;rw[TK.o,LS.o]at this;exact this
      ·intro j U;have:=HO.o j U;have:=C3.o.size;omega
      ·exact C3.o.aA (HC.o.trans E.o.2 fun j U=>.inr (HO.o j U))
end
end
section
variable{N:Nat}{s:Qf}
theorem Qem{c:Yk}(h:s.aO c≠0):s.add c=s:=by unfold Qf.add;rw[if_neg h]
theorem Sj{c:Yk}(h:s.aG c≠0):s.change c=s:=by unfold Qf.change;rw[if_neg h]
theorem I0{i:Int}(h:s.aP i≠0):s.drop i=s:=by unfold Qf.drop;rw[if_neg h]
theorem Qnm{p:Jr}{now:Nat}(h:s.aQ p≠0):s.push p now=s:=by unfold Qf.push;rw[if_neg h]
theorem Qbc{i:Int}(h:s.leaf i=none):s.qOf i=[]:=by unfold Qf.qOf;rw[h];rfl
theorem Xp.leaf_none(h:Xp N s){i:Int}(hn:s.tree.at i=none):s.leaf i=none:=by
 cases hl:s.leaf i with
 |none=>rfl
 |some l=> obtain⟨k,d,_⟩:=h.at hl;obtain⟨c,hc,_⟩:=k.sp;rw[d,hn]at hc;cases hc
theorem Xp.leaf_at(h:Xp N s){i:Int}{l:Qw}(hl:s.leaf i=some l):∃c,s.tree.at i=some c∧c.sp.leaf=true:=by obtain⟨k,q,_⟩:=h.at hl;obtain⟨c,hc,d,_⟩:=k.sp;rw[q]at hc;exact⟨c,hc,d⟩
theorem Qdq(h:Xp N s){i:Int}{c:Vm}(hc:s.tree.at i=some c)(d:c.sp.leaf=true):s.many i=((s.qOf i).length:Int)∧s.bytes i=Jn (s.qOf i):=by unfold Qf.many Qf.bytes;rw[Rf h.tree hc d];simp
theorem G8(h:Xp N s){x:Int}:x∈s.tree.aI 0↔∃l,s.leaf x=some l:=by
 rw[Y8];constructor;·rintro⟨c,hc,rfl,hl,_⟩;exact h.lv _ c (Da h.tree.sorted hc) hl
 ·rintro⟨l,hl⟩;obtain⟨c,hc,d⟩:=h.leaf_at hl;obtain⟨k,hi⟩:=Qm.aE hc;exact⟨c,k,hi,d,.inl rfl⟩
end
section
attribute [local go_sem] Qp
def quS(b pk bt:Nat)(q:List Jr):Ya:=fun w F=>∃r,Jz w b r pk bt q∧F b∧F r∧Bd F w
theorem Lm(b pk bt:Nat)(q:List Jr):Uy (quS b pk bt q) where
 bd:=fun⟨r,_,_,_,h⟩=>h
 aB:=fun⟨r,h,h1,c,d⟩hc k=>⟨r,h.aB hc (k _ h1) (k _ c),h1,c,d.later hc⟩
 more:=fun⟨r,h,h1,c,d⟩hs u=>⟨r,h,hs _ h1,hs _ c,u⟩
def Qrs(b qb:Nat)(dv:Value)(l:Qw):List Ya:=[Tv b #[ptr qb,dv] 85,quS qb l.pk l.bt l.q,fun w F=>Kv w F dv l.debt]
theorem U5(b qb:Nat)(dv:Value)(l:Qw):∀P∈Qrs b qb dv l,Uy P:=by
 intro P c;simp only[Qrs,Zu,List.not_mem_nil,or_false]at c;rcases c with rfl|rfl|rfl;·exact Ks _ _ _
 ·exact Lm _ _ _ _
 ·exact Kv.good _ _
def Yj(w:World)(F:Fp)(b:Nat)(l:Qw):Prop:=∃qb dv,Oh (Qrs b qb dv l) w F
theorem Yj.obj:Hf Yj where
 bd:=fun⟨qb,dv,h⟩=>(Je (U5 _ _ _ _)).bd h
 own:=fun⟨qb,dv,h⟩=>by obtain⟨G,h1,c⟩:=J6 (U5 _ _ _ _) 0 rfl h;exact c _ h1.2.1
 aB:=fun⟨qb,dv,h⟩hc k=>⟨qb,dv,(Je (U5 _ _ _ _)).aB h hc k⟩
 more:=fun⟨qb,dv,h⟩hs d=>⟨qb,dv,(Je (U5 _ _ _ _)).more h hs d⟩
structure Tb where
 tb:Nat
 m:Nat
 rb:Nat
 pb:Nat
 ad:Int→Nat
def Qfq(A:Tb)(s:Qf):Array Value:=#[.int .i64 s.most,ptr A.tb,.map (some A.m),ptr A.rb,ptr A.pb]
def Lw(A:Tb)(b:Nat)(L:List Qw)(s:Qf):List Ya:=
 [Tv b (Qfq A s) 79,fun w F=>Q9 w F A.tb s.tree,fun w F=>Yn Qw.id Yj w F A.m A.ad L,fun w F=>Yq w F A.rb s.row,fun w F=>Yr w F A.pb s.pick]
theorem Ua(A:Tb)(b:Nat)(L:List Qw)(s:Qf):∀P∈Lw A b L s,Uy P:=by
 intro P c;simp only[Lw,Zu,List.not_mem_nil,or_false]at c;rcases c with rfl|rfl|rfl|rfl|rfl;·exact Ks _ _ _
 ·exact Q9.obj.good _ _
 ·exact Sm Yj.obj _ _ _
 ·exact Yq.obj.good _ _
 ·exact Yr.obj.good _ _
def Qi(A:Tb)(w:World)(F:Fp)(b:Nat)(s:Qf):Prop:=∃L:List Qw,L.Perm s.aI∧Oh (Lw A b L s) w F
theorem Qi.obj(A:Tb):Hf (Qi A) where
 bd:=fun⟨L,_,h⟩=>(Je (Ua A _ L _)).bd h
 own:=fun⟨L,_,h⟩=>by obtain⟨G,h1,d⟩:=J6 (Ua A _ L _) 0 rfl h;exact d _ h1.2.1
 aB:=fun⟨L,c,h⟩hc q=>⟨L,c,(Je (Ua A _ L _)).aB h hc q⟩
 more:=fun⟨L,c,h⟩hs k=>⟨L,c,(Je (Ua A _ L _)).more h hs k⟩
def Qt(w:World)(F:Fp)(b:Nat)(s:Qf):Prop:=∃A,Qi A w F b s
theorem Qt.obj:Hf Qt where
 bd:=fun⟨A,h⟩=>(Qi.obj A).bd h
 own:=fun⟨A,h⟩=>(Qi.obj A).own h
 aB:=fun⟨A,h⟩hc d=>⟨A,(Qi.obj A).aB h hc d⟩
 more:=fun⟨A,h⟩hs c=>⟨A,(Qi.obj A).more h hs c⟩
section
variable{A:Tb}{w:World}{F:Fp}{b:Nat}{s:Qf}
theorem Qi.is(h:Qi A w F b s):Qt w F b s:=⟨A,h⟩
theorem Qi.drew(h:Qi A w F b s):Qi A w.drew F b s:=(Qi.obj A).aB h (Zg Qb w).drew (Jl.none F)
theorem Qi.blk(h:Qi A w F b s):Qh w b (Qfq A s) 79:=by obtain⟨L,c,h⟩:=h;obtain⟨G,h1,_⟩:=J6 (Ua A b L s) 0 rfl h;exact h1.1
theorem Qi.part(h:Qi A w F b s)(i:Nat){R:List Qw→Ya}(hi:∀L,(Lw A b L s)[i]? =some (R L)):
  ∃L,L.Perm s.aI∧∃G:Fp,R L w G∧(∀k,G k→F k)∧∀w' L' s' Q,L'.Perm s'.aI→Lw A b L' s'=(Lw A b L s).set i Q→Q w' (Qn G w w')→Qc G w w'→Qi A w' (Qn F w w') b s'∧Qc F w w':=by
 obtain⟨L,B,h⟩:=h;obtain⟨G,u,q,_,z⟩:=Xv i (Ua A b L s) (hi L) h;refine⟨L,B,G,u,q,fun w' L' s' Q d hs E c=>⟨⟨L',d,?_⟩,c.sub q⟩⟩;rw[hs];exact z w' Q c E
theorem Qi.treeOf(h:Qi A w F b s):∃G:Fp,Q9 w G A.tb s.tree∧(∀k,G k→F k)∧∀w' t,Q9 w' (Qn G w w') A.tb t→Qc G w w'→Qi A w' (Qn F w w') b {s with tree:=t}∧Qc F w w':=by obtain⟨L,u,G,h1,d,q⟩:=h.part 1 (R:=fun _ w F=>Q9 w F A.tb s.tree) (fun _=>rfl);exact⟨G,h1,d,fun w' t ht c=>q w' L {s with tree:=t} _ u rfl ht c⟩
theorem Qi.rowOf(h:Qi A w F b s):∃G:Fp,Yq w G A.rb s.row∧(∀k,G k→F k)∧∀w' t,Yq w' (Qn G w w') A.rb t→Qc G w w'→Qi A w' (Qn F w w') b {s with row:=t}∧Qc F w w':=by obtain⟨L,u,G,h1,d,q⟩:=h.part 3 (R:=fun _ w F=>Yq w F A.rb s.row) (fun _=>rfl);exact⟨G,h1,d,fun w' t ht c=>q w' L {s with row:=t} _ u rfl ht c⟩
theorem Qi.pickOf(h:Qi A w F b s):∃G:Fp,Yr w G A.pb s.pick∧(∀k,G k→F k)∧∀w' t,Yr w' (Qn G w w') A.pb t→Qc G w w'→Qi A w' (Qn F w w') b {s with pick:=t}∧Qc F w w':=by obtain⟨L,u,G,h1,d,q⟩:=h.part 4 (R:=fun _ w F=>Yr w F A.pb s.pick) (fun _=>rfl);exact⟨G,h1,d,fun w' t ht c=>q w' L {s with pick:=t} _ u rfl ht c⟩
theorem Qi.collOf(h:Qi A w F b s):∃L,L.Perm s.aI∧∃G:Fp,Yn Qw.id Yj w G A.m A.ad L∧(∀k,G k→F k)∧
  ∀w' L' s',L'.Perm s'.aI→s'.most=s.most→s'.tree=s.tree→s'.row=s.row→s'.pick=s.pick→Yn Qw.id Yj w' (Qn G w w') A.m A.ad L'→Qc G w w'→Qi A w' (Qn F w w') b s'∧Qc F w w':=by
 obtain⟨L,J,G,h1,B,E⟩:=h.part 2 (R:=fun L w F=>Yn Qw.id Yj w F A.m A.ad L) (fun _=>rfl);refine⟨L,J,G,h1,B,fun w' L' s' d q e1 u z I c=>E w' L' s' (fun w F=>Yn Qw.id Yj w F A.m A.ad L') d ?_ I c⟩;unfold Lw Qfq;rw[q,e1,u,z];rfl
theorem So{L:List Qw}(c:L.Perm s.aI)(hn:(L.map Qw.id).Nodup)(i:Int):s.leaf i=Hn Qw.id i L:=(Mz c hn i).symm
theorem Qi.leafOf(h:Qi A w F b s){i:Int}{l:Qw}(hl:s.leaf i=some l):
  ∃G:Fp,Yj w G (A.ad i) l∧(∀k,G k→F k)∧∀w' l',l'.id=i→Yj w' (Qn G w w') (A.ad i) l'→Qc G w w'→Qi A w' (Qn F w w') b (s.setLeaf l')∧Qc F w w':=by
 obtain⟨L,E,G,B,I,q⟩:=h.collOf;rw[So E B.nodup]at hl;obtain⟨J,c⟩:=Y3 hl;subst c;obtain⟨K,k1,k2,R⟩:=B.focus Yj.obj J;refine⟨K,k1,fun k u=>I k (k2 k u).1,fun w' l' c z d=>?_⟩;have:=R w' l' c z d;exact q w' _ (s.setLeaf l') (E.map _) rfl rfl rfl rfl this (d.sub fun k u=>(k2 k u).1)
def Qad(A:Tb)(s:Qf)(i:Int):Value:=match s.leaf i with
 |none=>.pointer none
 |some _=>ptr (A.ad i)
theorem Qf7(w):(zeroValue 80).run prog w=.ok (.pointer none) w:=by go_simp
theorem Qi.look1(h:Qi A w F b s)(i:Int):(Instr.lookup 75 (.map (some A.m)) (.int .i64 i) false).run prog w=.ok (Qad A s i) w:=by
 obtain⟨L,k,G,c,_,_⟩:=h.collOf;have d:=Du (P:=prog) c.map underlying75 underlying3 (Qf7 w) i;rw[c.look i,←So k c.nodup]at d;have q:((s.leaf i).map fun _=>ptr (A.ad i)).getD (.pointer none)=Qad A s i:=by unfold Qad;cases s.leaf i<;>rfl
 rw[q]at d;exact d
theorem G7{i:Int}{l:Qw}(hl:s.leaf i=some l):Qad A s i=ptr (A.ad i):=by unfold Qad;rw[hl]
theorem Qae{i:Int}(hl:s.leaf i=none):Qad A s i=.pointer none:=by unfold Qad;rw[hl]
theorem Qi.nodup(h:Qi A w F b s):(s.aI.map Qw.id).Nodup:=by obtain⟨L,d,G,c,_⟩:=h.collOf;exact((d.map _).nodup_iff).1 c.nodup
theorem Qi.once(h:Qi A w F b s):∃p G,Qh w A.rb #[ptr p] 135∧Jg w G p s.row:=by obtain⟨G,h1,_⟩:=h.rowOf;obtain⟨p,c,k,d,_⟩:=h1.ex;exact⟨p,c,k,d⟩
variable{l:Qw}{a:Nat}
theorem Yj.cells(h:Yj w F a l):∃qb dv,Qh w a #[ptr qb,dv] 85∧(∃r,Jz w qb r l.pk l.bt l.q)∧∃G,Kv w G dv l.debt:=by obtain⟨qb,dv,h⟩:=h;obtain⟨k,h0,_⟩:=J6 (U5 a qb dv l) 0 rfl h;obtain⟨q,⟨r,h1,_⟩,_⟩:=J6 (U5 a qb dv l) 1 rfl h;obtain⟨c,d,_⟩:=J6 (U5 a qb dv l) 2 rfl h;exact⟨qb,dv,h0.1,⟨r,h1⟩,c,d⟩
theorem Yj.opn(h:Yj w F a l):∃qb dv,Qh w a #[ptr qb,dv] 85∧
  (∃G:Fp,quS qb l.pk l.bt l.q w G∧(∀k,G k→F k)∧¬G a∧∀w' q',quS qb l.pk l.bt q' w' (Qn G w w')→Qc G w w'→Yj w' (Qn F w w') a {l with q:=q'}∧Qc F w w')∧
  (∃G:Fp,Kv w G dv l.debt∧(∀k,G k→F k)∧¬G a∧∀w' d',Kv w' (Qn G w w') dv d'→Qc G w w'→Yj w' (Qn F w w') a {l with debt:=d'}∧Qc F w w'):=by
 obtain⟨qb,dv,h⟩:=h;have hh:=h;obtain⟨u,G0,R0,K,⟨ab,B,R1,g1,⟨ac,E,R2,g2,_,_,s4,_⟩,d1,s2,s3⟩,d0,s0,s1⟩:=hh;have n1:¬B a:=fun c=>d0 a K.2.1 (s2 _ c);have n2:¬E a:=fun c=>d0 a K.2.1 (s3 _ (s4 _ c));have U:∀k,B k→F k:=fun k c=>s1 _ (s2 _ c);have V:∀k,E k→F k:=fun k c=>s1 _ (s3 _ (s4 _ c));have I:Jl B E:=fun k c aa=>d1 k c (s4 _ aa);have ga:F a:=s0 _ K.2.1;have J:Bd B w:=u.sub U;have z:Bd E w:=u.sub V;refine⟨qb,dv,K.1,⟨B,g1,U,n1,fun w' q' hq d=>?_⟩,⟨E,g2,V,n2,fun w' d' hd d=>?_⟩⟩
 ·have R:=d.sub U;refine⟨⟨qb,dv,?_⟩,R⟩;have Z:Qh w' a #[ptr qb,dv] 85:=d.blk K.1 n1;refine Q7 (G:=fun k=>k=a) (H:=fun k=>Qn B w w' k∨E k) ⟨Z,rfl,fun k e=>e▸Z.lt⟩ ?_ ?_ (fun k e=>.inl (e▸ga)) ?_ (u.ext R);·refine Q7 (G:=Qn B w w') (H:=E) hq (Y6 ((Kv.good dv l.debt).aB g2 d I.symm) (z.later d)) (Jl.extL I z) (fun k c=>.inl c) (fun k c=>.inr c) ?_;exact fun k c=>c.elim (J.ext d k) (z.later d k)
  ·rintro k rfl(c|c);·exact c.elim n1 fun c=>by have:=u _ ga;omega
   ·exact n2 c
  ·exact fun k c=>c.elim (Qn.mono U k) fun c=>.inl (V k c)
 ·have R:=d.sub V;refine⟨⟨qb,dv,?_⟩,R⟩;have Z:Qh w' a #[ptr qb,dv] 85:=d.blk K.1 n2;refine Q7 (G:=fun k=>k=a) (H:=fun k=>B k∨Qn E w w' k) ⟨Z,rfl,fun k e=>e▸Z.lt⟩ ?_ ?_ (fun k e=>.inl (e▸ga)) ?_ (u.ext R);·refine Q7 (G:=B) (H:=Qn E w w') ((Lm qb l.pk l.bt l.q).aB g1 d I) (Y6 hd (z.ext d)) (Jl.extR I J) (fun k c=>.inl c) (fun k c=>.inr c) ?_;exact fun k c=>c.elim (J.later d k) (z.ext d k)
  ·rintro k rfl(c|c);·exact n1 c
   ·exact c.elim n2 fun c=>by have:=u _ ga;omega
  ·exact fun k c=>c.elim (fun c=>.inl (U k c)) (Qn.mono V k)
end
end
section
attribute [local go_sem] Qp
attribute [local irreducible] Kl J9 Xo
section
variable{A:Tb}{w:World}{F:Fp}{b:Nat}{s:Qf}
theorem Ku(h:Qi A w F b s)(q:1≤s.most):Cl 30 #[ptr b] w fun e w'=>e=.returned (.bool false)∧w=w':=by
 obtain⟨k,_⟩:=Ym h.blk;have d:(s.most==0)=false:=by
  have:s.most≠0:=by omega
  simpa using this
 have c:decide (s.most=0)=false:=by
  have:s.most≠0:=by omega
  simpa using this
 unfold ptr;clear h;go_enter func30,ntmps30;go_wp2;go_ret;exact⟨rfl,rfl⟩
theorem Qiz(most:Int)(w)(h:most<1∨65536≤most):Cl 26 #[.int .i64 most] w fun e w'=>e=.returned (.tuple #[.pointer none,.int .i64 2])∧Qc Qb w w':=by
 have C:=O (Zg Qb w).drew;by_cases h1:most<1
 ·have c:decide (most<1)=true:=by simpa using h1
  go_enter func26,ntmps26;go_wp2;go_ret2;refine⟨rfl,?_⟩;(repeat' (first|(with_reducible first|exact Zg _ _|assumption|refine Zh ?_ _|refine Zi ?_ _|refine Zj ?_|refine Zk ?_ _ ?_|(apply Or.inl;rfl))|(apply Or.inl;simp;done)|(apply Or.inr;simp;first|done|omega)))
 ·have d:65536≤most:=h.resolve_left h1;have c:decide (most<1)=false:=by simp;omega
  have k:decide (65536≤most)=true:=by simpa using d
  go_enter func26,ntmps26;go_wp2;go_ret2;refine⟨rfl,?_⟩;(repeat' (first|(with_reducible first|exact Zg _ _|assumption|refine Zh ?_ _|refine Zi ?_ _|refine Zj ?_|refine Zk ?_ _ ?_|(apply Or.inl;rfl))|(apply Or.inl;simp;done)|(apply Or.inr;simp;first|done|omega)))
theorem Qeb(most:Int)(h1:1≤most)(h2:most<65536)(w):Cl 26 #[.int .i64 most] w fun e w'=>∃b,e=.returned (.tuple #[ptr b,.int .i64 0])∧Qt w' (Qn Qb w w') b (Qf.new most)∧Qc Qb w w':=by
 have HN:=O Qos;have EN:=O Qod;have PN:=O Qpk;have aa:=@run_makeMap prog;have d1:decide (most<1)=false:=by simp;omega
 have d2:decide (65536≤most)=false:=by simp;omega
 have q:Hi (∀w1 w3 w4 tb rb pb,Qc Qb w w1→Q9 w1 (Qn Qb w w1) tb []→Qc Qb (w1.alloc (.map #[] 0)) w3→Yq w3 (Qn Qb (w1.alloc (.map #[] 0)) w3) rb []→Qc Qb w3 w4→Yr w4 (Qn Qb w3 w4) pb Qe.new→
   Qt (w4.alloc (.cells #[.int .i64 most,ptr tb,.map (some w1.heap.size),ptr rb,ptr pb] 79)) (Qn Qb w (w4.alloc (.cells #[.int .i64 most,ptr tb,.map (some w1.heap.size),ptr rb,ptr pb] 79))) w4.heap.size (Qf.new most)∧Qc Qb w (w4.alloc (.cells #[.int .i64 most,ptr tb,.map (some w1.heap.size),ptr rb,ptr pb] 79))):=O (by
  intro w1 w3 w4 tb rb pb u I d B c E;have Z:Qc Qb w1 (w1.alloc (.map #[] 0)):=(Zg _ _).alloc _;have V:Xq (w1.alloc (.map #[] 0)) w1.heap.size []:=Xq.new w1;have hz:(w1.alloc (.map #[] 0)).heap.size=w1.heap.size+1:=by simp
  generalize w1.alloc (.map #[] 0)=w2 at*;have z:Qc Qb w4 (w4.alloc (.cells #[.int .i64 most,ptr tb,.map (some w1.heap.size),ptr rb,ptr pb] 79)):=(Zg _ _).alloc _;have hB:Qh (w4.alloc (.cells #[.int .i64 most,ptr tb,.map (some w1.heap.size),ptr rb,ptr pb] 79)) w4.heap.size #[.int .i64 most,ptr tb,.map (some w1.heap.size),ptr rb,ptr pb] 79:=Qh.new _ _ _;generalize w4.alloc (.cells #[.int .i64 most,ptr tb,.map (some w1.heap.size),ptr rb,ptr pb] 79)=w5 at*;have s1:=u.size;have s3:=d.size;have s4:=c.size;have s5:=hB.lt;refine⟨⟨⟨tb,w1.heap.size,rb,pb,fun _=>0⟩,[],List.Perm.refl _,?_⟩,(((u.aA Z).aA d).aA c).aA z⟩;have t5:Q9 w5 (Qn Qb w w1) tb []:=Q9.obj.aB I (((Z.aA d).aA c).aA z) (Jl.none _);have m5:Xq w5 w1.heap.size []:=V.aB ((d.aA c).aA z) (fun h=>h);have e5:Yq w5 (Qn Qb w2 w3) rb []:=Yq.obj.aB B (c.aA z) (Jl.none _);have p5:Yr w5 (Qn Qb w3 w4) pb Qe.new:=Yr.obj.aB E z (Jl.none _);have K:Bd (Qn Qb w w5) w5:=fun k R=>((Qr k).1 R).2;have bd:∀{U:Fp},(∀k,U k→w.heap.size≤k∧k<w5.heap.size)→Bd U w5:=fun h k R=>(h k R).2;refine Q7 (G:=fun k=>k=w4.heap.size) (H:=fun k=>w.heap.size≤k∧k<w4.heap.size) ⟨hB,rfl,fun k e=>e▸s5⟩ ?_ (fun k e h=>by omega) (fun k e=>(Qr k).2 (by omega)) (fun k h=>(Qr k).2 (by omega)) K;refine Q7 (G:=Qn Qb w w1) (H:=fun k=>w1.heap.size≤k∧k<w4.heap.size) t5 ?_ (fun k e h=>by have:=(Qr k).1 e;omega) (fun k e=>by have:=(Qr k).1 e;omega) (fun k h=>by omega) (bd fun k h=>by omega);refine Q7 (G:=fun k=>k=w1.heap.size) (H:=fun k=>w2.heap.size≤k∧k<w4.heap.size) (Yn.new m5 (fun k e=>by rw[e];exact m5.lt) rfl) ?_ (fun k e h=>by omega) (fun k e=>by omega) (fun k h=>by omega) (bd fun k h=>by omega);refine Q7 (G:=Qn Qb w2 w3) (H:=Qn Qb w3 w4) e5 (Y6 p5 (Yr.obj.bd p5)) (fun k e h=>by have:=(Qr k).1 e;have:=(Qr k).1 h;omega) (fun k e=>by have:=(Qr k).1 e;omega) (fun k h=>by have:=(Qr k).1 h;omega) (bd fun k h=>by omega))
 unfold ptr at*;go_enter func26,ntmps26;go_wp2_with fail;refine(HN.o _).mono ?_;rintro e w1⟨tb,rfl,I,u⟩;have J:=O (Zt u I);clear u I;go_wp2_with fail;refine(EN.o _).mono ?_;rintro e w3⟨rb,rfl,B,d⟩;have T3:=O (Zt d B);clear d B;go_wp2_with fail;refine(PN.o _).mono ?_;rintro e w4⟨pb,rfl,E,c⟩;have FF:=O (q.o w1 w3 w4 tb rb pb J.o.1 J.o.2 T3.o.1 T3.o.2 c E);clear c E q J T3;unfold ptr at*;go_wp2;go_ret2;exact⟨_,rfl,FF.o⟩
end
theorem Qjd{f:Int→Int}{l:List Int}{k:Nat}{x:Int}(c:l[k]? =some x):((l.take (k+1)).map f).sum=((l.take k).map f).sum+f x:=by rw[List.take_add_one,c];simp
theorem Qmn{f:Int→Int}{B:Int}:∀{l:List Int},(∀x∈l,0≤f x∧f x≤B)→0≤(l.map f).sum∧(l.map f).sum≤l.length*B
 |[],_=>by simp
 |x::l,h=>by
  have h1:=h x (by simp);have d:=Qmn (l:=l) (fun y c=>h y (by simp[c]));rw[List.map_cons,List.sum_cons,Zm];have:((l.length+1:Nat):Int)*B=(l.length:Int)*B+B:=by rw[Int.natCast_add,Int.add_mul];simp
  omega
section
variable{A:Tb}{w:World}{F:Fp}{b:Nat}{s:Qf}{N:Nat}
theorem Qi.leafQ(h:Qi A w F b s){i:Int}{l:Qw}(hl:s.leaf i=some l):∃qb dv,Qh w (A.ad i) #[ptr qb,dv] 85∧(∃r,Jz w qb r l.pk l.bt l.q)∧∃G,Kv w G dv l.debt:=by obtain⟨G,h1,_⟩:=h.leafOf hl;exact h1.cells
theorem Qi.bounds(h:Qi A w F b s)(i:Int):(0≤((s.qOf i).length:Int)∧((s.qOf i).length:Int)≤4096)∧0≤Jn (s.qOf i)∧Jn (s.qOf i)≤16777216:=by
 cases hl:s.leaf i with
 |none=>rw[Qbc hl];exact⟨⟨by simp,by simp⟩,by simp[Jn],by simp[Jn]⟩
 |some l=> rw[Ov hl];obtain⟨qb,dv,_,⟨r,c⟩,_⟩:=h.leafQ hl;have h1:=c.many;have k:=c.pk2;have q:=c.held;have u:=c.bt2;have d:=Hd _ c.good;exact⟨⟨by omega,by omega⟩,d,by omega⟩
theorem Dn(h:Qi A w F b s)(ok:Xp N s)(id:Int):Cl 11 #[ptr b,.int .i64 id] w fun e w'=>e=.returned (.tuple #[.int .i64 (s.many id),.int .i64 (s.bytes id)])∧Qc Qb w w':=by
 have J:=O (fun w'(c:Qc Qb w w')=>(Qi.obj A).aB h c (Jl.none F));have HN:=O (Ku h ok.most.1);obtain⟨a0,a1,a2,a3,a4⟩:=Ym h.blk;obtain⟨Gt,ht,_⟩:=h.treeOf;have af:=O (Ot ok.tree 9 ht id (by omega));have BD:=O h.bounds;have K:=O (show(s.tree.aI id).length≤64 from Zp (Db _ _) ok.tree.many);have LF:Hi (∀x∈s.tree.aI id,∃l,s.leaf x=some l):=O (fun x I=>by
  obtain⟨c,hc,rfl,aa,_⟩:=Y8.1 I;exact ok.lv _ c (Da ok.tree.sorted hc) aa)
 unfold Qf.many Qf.bytes;unfold ptr at*;clear h ok ht;go_enter func11,ntmps11;go_wp2_with fail;refine Zy HN ?_;rintro w1 rfl;go_wp2_with fail;refine Zo af ?_;rintro e w2⟨uv,rfl,hI,_,c2⟩;obtain⟨a,cap,rfl,Z,_,_⟩:=hI.row intT.hc;have HI:=O hI;have C2:=O c2;obtain⟨n0,E⟩:=Zx ((s.tree.aI id).length);have z:=O E;rw[←E]at Z⊢;clear hI c2 E a0 a1 a2 a3 a4;go_wp2_with fail;go_loopw [4,5,7,17] (fun t4 t5 _ ti wr=>∃(k:Nat),ti=.int .i64 k∧k≤n0∧t4=.int .i64 ((((s.tree.aI id).take k).map fun x=>((s.qOf x).length:Int)).sum)∧t5=.int .i64 ((((s.tree.aI id).take k).map fun x=>Jn (s.qOf x)).sum)∧Qc Qb w2 wr) (fun _ _ _ ti _=>n0-(intOf ti).toNat);case atStart=>exact⟨0,rfl,Nat.zero_le _,rfl,rfl,Zg _ _⟩
 case round=>
  obtain⟨k,rfl,hk,rfl,rfl,hc⟩:=hrel;have HC:=O hc;clear hc;by_cases aq:k<n0
  ·have hd:decide ((k:Int)<(n0:Int))=true:=by simp;omega
   have d:k<(s.tree.aI id).length:=by have:=z.o;omega
   have ab:s.tree.aI id≠[]:=fun e=>by rw[e]at d;simp at d
   obtain⟨g,al,am,aj,hB,ak,q,_,_⟩:=HI.o.opn ab;injection aj with h1 h2 h3;subst h1;obtain⟨x,I⟩:∃x,(s.tree.aI id)[k]? =some x:=⟨_,List.getElem?_eq_getElem d⟩;have aa:wr.cell? ⟨g,k,none⟩=some (.int .i64 x):=by rw[(HC.o.blk hB (fun h=>h)).cell];exact q k x I
   have ac:x∈s.tree.aI id:=List.mem_of_getElem? I;obtain⟨l,hl⟩:=LF.o x ac;have hS:=J.o wr (C2.o.aA HC.o);obtain⟨b0,b1,b2,b3,b4⟩:=Ym hS.blk;have ai:=hS.look1 x;rw[G7 hl]at ai;obtain⟨qb,dv,V,⟨r,hq⟩,_⟩:=hS.leafQ hl;obtain⟨l0,l1⟩:=Q4 V;have QL:=O (Qin hq);have QB:=O (Qls hq);have ap:IntKind.i64.wrap ((k:Int)+1)=(k:Int)+1:=by have h4:=K.o;have h5:=z.o;rw[IntWalk.i64_in _ (by omega)]
   have T1:=O (Qjd (f:=fun x=>((s.qOf x).length:Int)) I);have T2:=O (Qjd (f:=fun x=>Jn (s.qOf x)) I);have QO:=O (Ov hl);have R:=Qmn (f:=fun x=>((s.qOf x).length:Int)) (B:=4096) (l:=(s.tree.aI id).take k) (fun x _=>(BD.o x).1);have U:=Qmn (f:=fun x=>Jn (s.qOf x)) (B:=16777216) (l:=(s.tree.aI id).take k) (fun x _=>(BD.o x).2);have tl:((s.tree.aI id).take k).length≤64:=by have:=K.o;rw[List.length_take];omega
   have bx:=BD.o x;rw[QO.o]at bx;generalize ag:(((s.tree.aI id).take k).map fun x=>((s.qOf x).length:Int)).sum=P1 at*;generalize ah:(((s.tree.aI id).take k).map fun x=>Jn (s.qOf x)).sum=P2 at*;have an:IntKind.i64.wrap (P1+(l.q.length:Int))=P1+(l.q.length:Int):=by rw[IntWalk.i64_in _ (by omega)]
   have ao:IntKind.i64.wrap (P2+Jn l.q)=P2+Jn l.q:=by rw[IntWalk.i64_in _ (by omega)]
   unfold ptr at*;clear d ab hB ak q I ac h2 h3 hl hS V hq R U tl bx ag ah;go_wp2_with fail;refine Zy QL ?_;rintro w4 rfl;go_wp2_with fail;refine Zy QB ?_;rintro w4 rfl;go_wp2_with fail;go_roundw;case measure=>simp only[intOf];omega
   case rel=>
    refine⟨k+1,by rw[←Int.natCast_one,←Int.natCast_add],by omega,?_,?_,HC.o⟩;·have:=T1.o;rw[QO.o]at this;rw[this]
    ·have:=T2.o;rw[QO.o]at this;rw[this]
  ·have hd:decide ((k:Int)<(n0:Int))=false:=by simp;omega
   have u:k=(s.tree.aI id).length:=by have:=z.o;omega
   have TK:=O (show(s.tree.aI id).take k=s.tree.aI id by rw[u,List.take_length]);have ae:=O (C2.o.aA HC.o);rw[TK.o];clear u;go_wp2;go_ret2;exact⟨rfl,ae.o⟩
end
end
section
attribute [local go_sem] Qp
attribute [local go_sem ↓] X8 Yd
attribute [local irreducible] Kl J9 Xo
section
variable{A:Tb}{w:World}{F:Fp}{b:Nat}{s:Qf}{N:Nat}
theorem Qbl(h:Qi A w F b s)(ok:Xp N s)(id:Int):Cl 107 #[ptr b,.int .i64 id] w fun e w'=>e=.returned (.bool (decide (0<s.many id)))∧Qc Qb w w':=by have d:=O (Dn h ok id);generalize s.many id=m at d⊢;generalize s.bytes id=q at d;unfold ptr at*;clear h ok;go_enter func107,ntmps107;go_wp2_with fail;refine Zy d ?_;intro w1 k;have c:=O k;clear k;go_wp2;go_ret;exact⟨rfl,c.o⟩
theorem Uu(h:Qi A w F b s)(ok:Xp N s):Cl 12 #[ptr b] w fun e w'=>∃b',e=.returned (ptr b')∧Q9 w' (Qn Qb w w') b' s.tree∧Qc Qb w w':=by have u:=O (Ku h ok.most.1);obtain⟨z,a1,B,E,I⟩:=Ym h.blk;obtain⟨Gt,ht,_⟩:=h.treeOf;have q:=O (Ww ht (by have:=ok.tree.many;omega));unfold ptr at*;clear h ok ht;go_enter func12,ntmps12;go_wp2_with fail;refine Zy u ?_;rintro w1 rfl;go_wp2_with fail;refine Zo q ?_;rintro e w2⟨b',rfl,k,d⟩;have c:=O (Zt k d);clear k d;go_wp2;go_ret;exact⟨_,rfl,c.o⟩
theorem Qbo(h:Qi A w F b s)(ok:Xp N s):Cl 18 #[ptr b] w fun e w'=>e=.returned (.int .u64 ((s.tick:Nat):Int))∧Qc Qb w w':=by
 have V:=O (Ku h ok.most.1);have q:=O h.blk;obtain⟨Gr,hr,_⟩:=h.rowOf;obtain⟨Gp,⟨R,J⟩,_⟩:=h.pickOf;have z:=O (Qkc (Yq.obj.aB hr (Zg Qb w).drew (Jl.none _)));have u:=O (fun w'(c:Qc Qb w w')=>Qln ((Qo.obj R).aB J c (Jl.none _)) ok.pick);unfold Qf.tick;generalize Hk s.row=x at z⊢;generalize s.pick.tick=y at u⊢;obtain⟨Z,a1,a2,a3,a4⟩:=Ym q.o.drew;unfold ptr at*;clear h ok hr J;go_enter func18,ntmps18;go_wp2_with fail;refine Zy V ?_;rintro w1 rfl;go_wp2_with fail;refine Jp [(0,0),(0,1),(0,2),(0,3),(1,5),(1,6),(1,7),(1,8),(2,4),(3,9),(0,10),(3,11)] (fun k=>Qc (Qb) (w) k) Zq (by kernel_rfl) (fun _ _ _ _ _ h=>h) (by(repeat' (first|(with_reducible first|exact Zg _ _|assumption|refine Zh ?_ _|refine Zi ?_ _|refine Zj ?_|refine Zk ?_ _ ?_|(apply Or.inl;rfl))|(apply Or.inl;simp;done)|(apply Or.inr;simp;first|done|omega)))) ?_;simp only[Jk,Zf,Ze,Zd];iterate 4 (refine Xe (by kernel_rfl) (by go_simp;try rfl) ?_)
 iterate 3 (refine Qy (by kernel_rfl) (fun k K=>by go_simp;try rfl) ?_;try simp only[Act.put,Za,Zc,Zb])
 iterate 1 (refine Qy (by kernel_rfl) (fun k K=>by(obtain⟨z0,z1,z2,z3,z4⟩:=Ym (K.blk q.o (fun h=>h)));go_simp;try rfl) ?_;try simp only[Act.put,Za,Zc,Zb])
 clear Z a1 a2 a3 a4;refine Yb ?_;go_wp2_with fail;refine Zy z ?_;intro w2 B;have d:=O B.undrew;clear B;go_wp2_with fail;refine⟨d.o,?_⟩;refine Km ?_;go_wp2_with fail;refine Zz (u.o _ d.o) ?_;intro w3 I;have U:=O (d.o.aA I);have E:=O (show((min x y:Nat):Int)=min (x:Int) (y:Int) by omega);clear I;go_wp2_with fail;refine Xe (by kernel_rfl) (by go_simp;try rfl) ?_;refine Km ?_;go_wp2_with fail;refine Ky ?_;go_wp2;go_ret;exact⟨by rw[E.o];rfl,U.o⟩
end
end
section
attribute [local go_sem] Qp
attribute [local irreducible] Kl J9 Xo
section
variable{A:Tb}{w w1 w2:World}{F:Fp}{b:Nat}{s:Qf}{N:Nat}
theorem Qi.delLeaf(h:Qi A w F b s)(i:Int)(I ty:TypeId):
  ∃w',(Builtin.delete_ #[75,I] ty #[.map (some A.m),.int .i64 i]).run prog w=.ok (.tuple #[]) w'∧Qi A w' (Qn F w w') b {s with aI:=s.aI.filter fun l=>!decide (l.id=i)}∧Qc F w w':=by
 obtain⟨L,J,G,u,U,d⟩:=h.collOf;obtain⟨w',q,B,c⟩:=Di (P:=prog) u.map underlying75 underlying3 I ty i;have E:Qc G w w':=c.sub fun k z=>z▸u.at_;have h1:Yn Qw.id Yj w' (Qn G w w') A.m A.ad (Kp Qw.id i L):=(u.del Yj.obj i B c).more (fun k z=>.inl z) (u.bd.ext E);obtain⟨K,R⟩:=d w' _ {s with aI:=s.aI.filter fun l=>!decide (l.id=i)} (J.filter _) rfl rfl rfl rfl h1 E;exact⟨w',q,K,R⟩
theorem Qhe(sp:Yk)(w1):∃c,Qc Qb w1 c∧Qh c w1.heap.size (Es sp) 40∧
  (storeCells ⟨w1.heap.size,0,none⟩ (Es sp).toList 0).run prog (w1.alloc (.cells Z5 40))=.ok () c:=by
 obtain⟨c,s2,d,q⟩:=Q0 (P:=prog) (vs:=Es sp) (Qh.new w1 Z5 40) rfl (Hl _);exact⟨c,((Zg Qb w1).alloc _).trans q (fun k e=>.inr (by omega)),d,s2⟩
theorem Qmd(h:Qt w F b s)(ok:Xp N s)(id:Int):
  Cl 52 #[ptr b,.int .i64 id] w fun e w'=>e=.returned (.int .i64 (s.aP id))∧Qt w' (Qn F w w') b (s.drop id)∧Qc F w w':=by
 obtain⟨A,h⟩:=h;have R:=(Qi.obj A).bd h;have I:=O (fun w'(c:Qc Qb w w')=>(Qi.obj A).aB h c (Jl.none F));have NO:Hi (∀w',Qc Qb w w'→s.aP id≠0→Qt w' (Qn F w w') b (s.drop id)∧Qc F w w'):=O (fun w' c h0=>by rw[I0 h0];exact Qt.obj.same ⟨A,h⟩ c);have HN:=O (Ku h ok.most.1);obtain⟨U,a1,V,Z,a4⟩:=Ym h.blk;have HG:Hi (Cl 13 #[ptr A.tb,.int .i64 id] w fun e w'=>e=.returned (.tuple #[.agg (Es (s.tree.get id).sp),.bool (s.tree.at id).isSome])∧Qc Qb w w'):=O (by
  obtain⟨G,hT,_⟩:=h.treeOf;exact Ob hT id)
 have B:=O (show s.aP id=if(s.tree.at id).isNone then 81 else if s.tree.aM id≠[]then 161 else if 0<s.many id then 230 else 0 from rfl);cases hc:s.tree.at id with
 |none=> have E:=O (show s.aP id=81 by rw[B.o,hc];rfl);rw[hc]at HG;dsimp only[Option.isSome_none]at HG;unfold ptr at*;clear h ok R hc B;go_enter func52,ntmps52;go_wp2_with fail;refine Zy HN ?_;rintro w1 rfl;go_wp2_with fail;refine Zy HG ?_;intro w1 c1;obtain⟨W2,c2,_,aj⟩:=Qhe (s.tree.get id).sp w1;have u:=O (NO.o W2 (c1.aA c2) (by rw[E.o];decide));clear c1 c2 NO;go_wp2_with fail;go_ret;exact⟨by rw[E.o];rfl,u.o⟩
 |some c=>
  have HU:Hi (∀w',Qc Qb w w'→Cl 35 #[ptr A.tb,.int .i64 id] w' fun e al=>∃v,e=.returned v∧Q6 al v (s.tree.aM id)∧(∀k,v.ownBlock=some k→w'.heap.size≤k)∧Qc Qb w' al):=O (fun w' cc=>by
   obtain⟨G,hT,_⟩:=(I.o w' cc).treeOf;exact P8 hT id (by have:=Qj1 s.tree id;have:=ok.tree.many;omega))
  have z:=O (fun w'(cc:Qc Qb w w')=>Qbl (I.o w' cc) ok id);have d:Hi (s.aP id=0→∀w3,Qc Qb w w3→Cl 110 #[ptr A.tb,.int .i64 id] w3 fun e w4=>e=.returned (.int .i64 0)∧Qc F w w4∧Qi A w4 (Qn F w w4) b {s with tree:=s.tree.drop id}∧
    Cl 111 #[ptr A.pb,.int .i64 id] w4 fun e w5=>e=.returned (.bool true)∧Qi A w5 (Qn F w w5) b {s with tree:=s.tree.drop id,pick:=s.pick.drop id}∧
     ∃w6,(Builtin.delete_ #[75,3] 0 #[.map (some A.m),.int .i64 id]).run prog w5=.ok (.tuple #[]) w6∧Qt w6 (Qn F w w6) b (s.drop id)∧Qc F w w6):=O (fun h0 w3 c3=>by
   obtain⟨J,ah⟩:=Ng h0;obtain⟨c',ao,K⟩:=Tz ah;have ha:=ok.asleep J;obtain⟨x,q,hx,i1,ar,hq,aq,_⟩:=ok.mt.drop ok.tree ok.pick ah ha;have h3:=I.o w3 c3;obtain⟨G,hT,_,ai⟩:=h3.treeOf;refine Zz (Qkl hT ao K (by have:=Qj1 s.tree c'.sp.par;have:=ok.tree.many;omega)) ?_;rintro w4⟨an,c4⟩;obtain⟨m1,m2⟩:=ai w4 _ an c4;have af:Qc F w w4:=c3.none.aA m2;have ak:=(Qi.obj A).more m1 (Ke c3.size) (R.ext af);refine⟨rfl,af,ak,?_⟩;obtain⟨Gp,⟨AP,hP⟩,_,ae⟩:=ak.pickOf;refine Zz (Qlj hP ok.pick i1 hx ar ha hq aq) ?_;rintro w5⟨am,c5⟩;obtain⟨n1,n2⟩:=ae w5 _ ⟨AP,am⟩ c5;obtain⟨p1,p2⟩:=(Qi.obj A).two n1 R af n2;refine⟨rfl,p1,?_⟩;obtain⟨w6,r6,h6,c6⟩:=p1.delLeaf id 3 0;obtain⟨q1,q2⟩:=(Qi.obj A).two h6 R p2 c6;refine⟨w6,r6,?_,q2⟩;have e:s.drop id={s with tree:=s.tree.drop id,pick:=s.pick.drop id,aI:=s.aI.filter fun l=>!decide (l.id=id)}:=by unfold Qf.drop;rw[if_pos h0]
   rw[e];exact⟨A,q1⟩)
  have HA:=O h.blk;rw[hc]at HG B;dsimp only[Option.isSome_some,Option.isNone_some]at HG B;obtain⟨m,J⟩:=Zx (s.many id);rw[←J]at B z;unfold ptr at*;clear h ok hc J;go_enter func52,ntmps52;go_wp2_with fail;refine Zy HN ?_;rintro w1 rfl;go_wp2_with fail;refine Zy HG ?_;intro w1 c1;obtain⟨W2,c2,_,aj⟩:=Qhe (s.tree.get id).sp w1;have C2:=O (c1.aA c2);clear c1 c2 U a1 V Z a4;obtain⟨U,a1,V,Z,a4⟩:=Ym (C2.o.blk HA.o (fun h=>h));unfold ptr at*;go_wp2_with fail;clear aj;refine(HU.o W2 C2.o).mono ?_;rintro e w3⟨uv,rfl,hI,_,c3⟩;obtain⟨ua,cap,rfl,_,_,_⟩:=hI.row intT.hc;have C3:=O (C2.o.aA c3);obtain⟨n0,ac⟩:=Zx ((s.tree.aM id).length);have ag:=O ac;rw[←ac];clear hI c3 ac U a1 V Z a4;by_cases K:s.tree.aM id=[]
  ·have hz:n0=0:=by rw[ag.o,K];rfl
   subst hz;by_cases J:0<m
   ·have E:=O (show s.aP id=230 by rw[B.o,if_neg (by decide),if_neg (by simpa using K),if_pos J]);have dm:decide (0<m)=true:=by simpa using J
    rw[dm]at z;clear J K dm B d;go_wp2_with fail;refine Zz (z.o w3 C3.o) ?_;intro w4 c4;have u:=O (NO.o w4 (C3.o.aA c4) (by rw[E.o];decide));clear c4;go_wp2_with fail;go_ret;exact⟨by rw[E.o];rfl,u.o⟩
   ·have E:=O (show s.aP id=0 by rw[B.o,if_neg (by decide),if_neg (by simpa using K),if_neg J]);have dm:decide (0<m)=false:=by simpa using J
    rw[dm]at z;have ST:=O (d.o E.o);clear J K dm B d NO;go_wp2_with fail;refine Zz (z.o w3 C3.o) ?_;intro w4 c4;have C4:=O (C3.o.aA c4);clear c4;obtain⟨U,a1,V,Z,a4⟩:=Ym (C4.o.blk HA.o (fun h=>h));unfold ptr at*;go_wp2_with fail;clear U a1 V Z a4;refine Zz (ST.o w4 C4.o) ?_;rintro w5⟨c5,h5,hP⟩;have HP:=O hP;obtain⟨U,a1,V,Z,a4⟩:=Ym h5.blk;clear hP c5 h5 ST;unfold ptr at*;go_wp2_with fail;clear U a1 V Z a4;refine Zy HP ?_;rintro w6⟨h6,w7,r7,ab,aa⟩;obtain⟨U,a1,V,Z,a4⟩:=Ym h6.blk;have u:=O (Zt ab aa);clear h6 ab aa HP;unfold ptr at*;go_wp2_with fail;go_ret;exact⟨by rw[E.o];rfl,u.o⟩
  ·have ap:n0≠0:=fun e=>K (List.eq_nil_of_length_eq_zero (by rw[←ag.o,e]));have E:=O (show s.aP id=161 by rw[B.o,if_neg (by decide),if_pos K]);have dn:decide ((0:Int)<(n0:Int))=true:=by simp;omega
   have au:decide (0<n0)=true:=by simp;omega
   have u:=O (NO.o w3 C3.o (by rw[E.o];decide));clear K ap B d NO;go_wp2_with fail;go_ret;exact⟨by rw[E.o];rfl,u.o⟩
end
end
end Go.Proofs.YtnnhmpehkbihnaaGreat
