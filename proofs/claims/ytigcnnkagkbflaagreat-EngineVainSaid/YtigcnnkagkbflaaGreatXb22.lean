/- A part of the proof: no condition. -/
import Derived.Test.YtigcnnkagkbflaaGreatXb21
namespace Go.Proofs.YtigcnnkagkbflaaGreat
set_option linter.unusedVariables false
set_option maxRecDepth 100000
set_option maxHeartbeats 4000000
open Go.RowKit
open Go.Proofs.Tryz
attribute [local go_sem] Qp
attribute [local irreducible] Kl J9 Xo
section
variable{A:Tb}{w:World}{F:Fp}{b:Nat}{s:Qf}
theorem Ku(h:Qi A w F b s)(q:1≤s.most):ZW 41 #[ptr b] w (.bool false) fun w'=>w=w':=by
 obtain⟨k,_⟩:=Ym h.blk;have d:(s.most==0)=false:=by
  have:s.most≠0:=by omega
  simpa using this
 have c:decide (s.most=0)=false:=by
  have:s.most≠0:=by omega
  simpa using this
 unfold ptr;clear h;go_enter func41,ntmps41;go_wp2;go_ret;exact⟨rfl,rfl⟩
theorem Qiz(c:Int)(w)(h:c<1∨65536≤c):ZW 30 #[ZI c] w (.tuple #[.pointer none,ZI 2]) fun w'=>Qc Qb w w':=by
 have C:=O (Zg Qb w).drew;by_cases d:c<1
 ·have k:decide (c<1)=true:=by simpa using d
  go_enter func30,ntmps30;go_wp2;go_ret2;refine⟨rfl,?_⟩;(exact Z0)
 ·have q:65536≤c:=h.resolve_left d;have k:decide (c<1)=false:=by simp;omega
  have u:decide (65536≤c)=true:=by simpa using q
  go_enter func30,ntmps30;go_wp2;go_ret2;refine⟨rfl,?_⟩;(exact Z0)
theorem Qeb(c:Int)(h1:1≤c)(h2:c<65536)(w):Cl 30 #[ZI c] w fun e w'=>∃b,e=.returned (.tuple #[ptr b,ZI 0])∧Qt w' (Qn Qb w w') b (Qf.new c)∧Qc Qb w w':=by
 have HN:=O Qos;have EN:=O Qod;have PN:=O Qpk;have ae:=@run_makeMap prog;have d1:decide (c<1)=false:=by simp;omega
 have d2:decide (65536≤c)=false:=by simp;omega
 have aa:Hi (∀w1 w3 d z u q,Qc Qb w w1→Q9 w1 (Qn Qb w w1) z []→Qc Qb (w1.alloc (.map #[] 0)) w3→Yq w3 (Qn Qb (w1.alloc (.map #[] 0)) w3) u []→Qc Qb w3 d→Yr d (Qn Qb w3 d) q Qe.new→
   Qt (d.alloc (.cells #[ZI c,ptr z,.map (some w1.heap.size),ptr u,ptr q] 97)) (Qn Qb w (d.alloc (.cells #[ZI c,ptr z,.map (some w1.heap.size),ptr u,ptr q] 97))) d.heap.size (Qf.new c)∧Qc Qb w (d.alloc (.cells #[ZI c,ptr z,.map (some w1.heap.size),ptr u,ptr q] 97))):=O (by
  intro w1 w3 d z u q J Z I R B V;have c2:Qc Qb w1 (w1.alloc (.map #[] 0)):=(Zg _ _).alloc _;have ac:Xq (w1.alloc (.map #[] 0)) w1.heap.size []:=Xq.new w1;have hz:(w1.alloc (.map #[] 0)).heap.size=w1.heap.size+1:=by simp
  generalize w1.alloc (.map #[] 0)=w2 at*;have K:Qc Qb d (d.alloc (.cells #[ZI c,ptr z,.map (some w1.heap.size),ptr u,ptr q] 97)):=(Zg _ _).alloc _;have hB:Qh (d.alloc (.cells #[ZI c,ptr z,.map (some w1.heap.size),ptr u,ptr q] 97)) d.heap.size #[ZI c,ptr z,.map (some w1.heap.size),ptr u,ptr q] 97:=Qh.new _ _ _;generalize d.alloc (.cells #[ZI c,ptr z,.map (some w1.heap.size),ptr u,ptr q] 97)=E at*;have s1:=J.size;have s3:=I.size;have s4:=B.size;have s5:=hB.lt;refine⟨⟨⟨z,w1.heap.size,u,q,fun _=>0⟩,[],List.Perm.refl _,?_⟩,(((J.aA c2).aA I).aA B).aA K⟩;have t5:Q9 E (Qn Qb w w1) z []:=Q9.obj.aB Z (((c2.aA I).aA B).aA K) (Jl.none _);have m5:Xq E w1.heap.size []:=ac.aB ((I.aA B).aA K) (fun h=>h);have e5:Yq E (Qn Qb w2 w3) u []:=Yq.obj.aB R (B.aA K) (Jl.none _);have p5:Yr E (Qn Qb w3 d) q Qe.new:=Yr.obj.aB V K (Jl.none _);have ab:Bd (Qn Qb w E) E:=fun k hk=>((Qr k).1 hk).2;have bd:∀{U:Fp},(∀k,U k→w.heap.size≤k∧k<E.heap.size)→Bd U E:=fun h k hk=>(h k hk).2;refine Q7 (G:=fun k=>k=d.heap.size) (H:=fun k=>w.heap.size≤k∧k<d.heap.size) ⟨hB,rfl,fun k e=>e▸s5⟩ ?_ (fun k e h=>by omega) (fun k e=>(Qr k).2 (by omega)) (fun k h=>(Qr k).2 (by omega)) ab;refine Q7 (G:=Qn Qb w w1) (H:=fun k=>w1.heap.size≤k∧k<d.heap.size) t5 ?_ (fun k e h=>by have:=(Qr k).1 e;omega) (fun k e=>by have:=(Qr k).1 e;omega) (fun k h=>by omega) (bd fun k h=>by omega);refine Q7 (G:=fun k=>k=w1.heap.size) (H:=fun k=>w2.heap.size≤k∧k<d.heap.size) (Yn.new m5 (fun k e=>by rw[e];exact m5.lt) rfl) ?_ (fun k e h=>by omega) (fun k e=>by omega) (fun k h=>by omega) (bd fun k h=>by omega);refine Q7 (G:=Qn Qb w2 w3) (H:=Qn Qb w3 d) e5 (Y6 p5 (Yr.obj.bd p5)) (fun k e h=>by have:=(Qr k).1 e;have:=(Qr k).1 h;omega) (fun k e=>by have:=(Qr k).1 e;omega) (fun k h=>by have:=(Qr k).1 h;omega) (bd fun k h=>by omega))
 go_enter func30,ntmps30;go_wp2_with fail;refine(HN.o _).mono ?_;rintro e w1⟨z,rfl,Z,J⟩;have T1:=O (Zt J Z);clear J Z;go_wp2_with fail;refine(EN.o _).mono ?_;rintro e w3⟨u,rfl,R,I⟩;have T3:=O (Zt I R);clear I R;go_wp2_with fail;refine(PN.o _).mono ?_;rintro e d⟨q,rfl,V,B⟩;have FF:=O (aa.o w1 w3 d z u q T1.o.1 T1.o.2 T3.o.1 T3.o.2 B V);clear B V;go_wp2;go_ret2;exact⟨_,rfl,FF.o⟩
end
section
variable{h:Qm}
theorem Db(h:Qm)(i:Int):(h.aI i).length≤h.length:=by unfold Qm.aI;rw[List.length_map];exact List.length_filter_le _ _
theorem Qm7(h:Qm)(l:List Int):(l.flatMap h.aI).length≤l.length*h.length:=by
 induction l with
 |nil=>simp
 |cons x l c=> rw[List.flatMap_cons,List.length_append,Zm,Nat.add_mul];have:=Db h x;omega
theorem Ec(h:Qm){i:Int}{c:Vm}(d:h.at i=some c):h.get i=c:=by unfold Qm.get;rw[d];rfl
theorem Ot(ok:J8 h):∀(n:Nat){w}{F:Fp}{b:Nat}(hh:Q9 w F b h)(id:Int),9≤Xk h id+n→
  Cl 47 #[ptr b,ZI id] w fun e w'=>∃v,e=.returned v∧Q6 w' v (h.aI id)∧(∀k,v.ownBlock=some k→w.heap.size≤k)∧Qc Qb w w'
 |0,w,F,b,hh,id,hd=>by
  exfalso;cases z:h.at id with
  |none=>rw[Kr z]at hd;omega
  |some c=>have:=Nl ok z;omega
 |n+1,w,F,b,hh,id,hd=>by
  have IH:=O (fun(w)(F:Fp)(b:Nat)(hh:Q9 w F b h)(id:Int)(hd:9≤Xk h id+n)=>Ot ok n hh id hd);have ab:=O (fun w'(c:Qc Qb w w')=>Q9.obj.aB hh c (Jl.none F));have HG:=O (Ob hh id);have J:=ok.many;have V:Hi (∀i,(h.aM i).length≤64):=O (fun i=>by
   have:(h.aM i).length≤h.length:=by unfold Qm.aM;rw[List.length_map];exact List.length_filter_le _ _
   omega)
  have ST:Hi (∀w1,Qc Qb w w1→∃d,Qc Qb w d∧w1.heap.size<d.heap.size∧d.cell? ⟨w1.heap.size,2,none⟩=some (.bool (h.get id).sp.leaf)∧
    (storeCells ⟨w1.heap.size,0,none⟩ (Es (h.get id).sp).toList 0).run prog (w1.alloc (.cells Z5 29))=.ok () d):=O (by
   intro w1 c1;obtain⟨d,s2,al,C2⟩:=Q0 (P:=prog) (vs:=Es (h.get id).sp) (Qh.new w1 Z5 29) rfl (Hl _);have s1:=c1.size;refine⟨d,c1.aA (((Zg Qb w1).alloc _).trans C2 fun k e=>.inr (by omega)),al.lt,?_,?_⟩;·rw[al.cell];rfl
   ·exact s2)
  by_cases E:∃c,h.at id=some c∧c.sp.leaf=true
  ·obtain⟨c,z,Z⟩:=E;have a1:(h.get id).sp.leaf=true:=by rw[Ec h z];exact Z
   have K:(h.at id).isSome=true:=by rw[z];rfl
   have LV:=O (Rf ok z Z);have U:Hi (∀d,Qc Qb w d→Q6 (d.alloc (.cells #[ZI id] 3)) (.slice (some ⟨d.heap.size,0,none⟩) 1 1) (h.aI id)∧(∀k,(Value.slice (some ⟨d.heap.size,0,none⟩) 1 1).ownBlock=some k→w.heap.size≤k)∧Qc Qb w (d.alloc (.cells #[ZI id] 3))):=O (by
    intro d c2;rw[LV.o];refine⟨Q6.mk (l:=[id]) (Qh.new d #[ZI id] 3) rfl (Zv _) (by decide) (fun k y hk=>?_),fun k hk=>?_,c2.alloc _⟩
    ·cases k with
     |zero=>obtain rfl:=Zs hk;rfl
     |succ k=>cases hk
    ·have e:d.heap.size=k:=Zs hk;have:=c2.size;omega)
   rw[K]at HG;clear z Z hd K hh;go_enter func47,ntmps47;go_wp2_with fail;refine Zy HG ?_;intro w1 c1;obtain⟨d,C2,Xg,B,bb⟩:=ST.o w1 c1;rw[a1]at B;have FF:=O (U.o d C2);clear c1 C2 Xg;go_wp2_with fail;go_ret;exact⟨_,rfl,FF.o⟩
  ·have hl:∀c,h.at id=some c→c.sp.leaf=false:=fun c z=>by
    cases e:c.sp.leaf with
    |false=>rfl
    |true=>exact absurd ⟨c,z,e⟩ E
   have LS:=O (Qhp ok hl);have u:((h.at id).isSome&&(h.get id).sp.leaf)=false:=by
    cases z:h.at id with
    |none=>rfl
    |some c=>rw[Ec h z,hl c z];rfl
   have CH:Hi (∀x∈h.aM id,9≤Xk h x+n):=O (fun x hx=>by
    obtain⟨c,z,rfl,hp⟩:=Dv.1 hx;rcases Oq ok (Da ok.sorted z)with⟨e1,e2⟩|⟨q,hq,_,e2⟩;·have:Xk h id=0:=Kr (ok.zero (by omega));omega
    ·rw[hp]at e2;omega)
   have HU:=O (fun w'(c:Qc Qb w w')=>P8 (ab.o w' c) id (by have:=V.o id;omega));have I:=O J;generalize a8:(h.at id).isSome=ai at HG u;clear hd E hl hh J a8;go_enter func47,ntmps47;go_wp2_with fail;refine Zy HG ?_;intro w1 c1;obtain⟨d,C2,Xg,B,bb⟩:=ST.o w1 c1;have aj:=O C2;generalize a7:(h.get id).sp.leaf=lf at B u;clear c1 C2 Xg;have a9:ai=false∨(ai=true∧lf=false):=by
    cases ai with
    |false=>exact .inl rfl
    |true=>exact .inr ⟨rfl,by simpa using u⟩
   clear u a7;rcases a9 with rfl|⟨rfl,rfl⟩;all_goals
    go_wp2_with fail;refine(HU.o d aj.o).mono ?_;rintro e w3⟨uv,rfl,hI,ap,c3⟩;obtain⟨a,cap,rfl,an,_,_⟩:=hI.row intT.hc;have HI:=O hI;have C3:=O (aj.o.aA c3);obtain⟨n0,ah⟩:=Zx ((h.aM id).length);have ag:=O ah;rw[←ah]at an⊢;clear hI ap c3 ah;go_wp2_with fail;go_loopw [7,9,27] (fun tv _ ti wr=>∃(k:Nat),ti=ZI k∧k≤n0∧Q6 wr tv (((h.aM id).take k).flatMap h.aI)∧(∀j,tv.ownBlock=some j→w3.heap.size≤j)∧Qc Qb w3 wr) (fun _ _ ti _=>n0-(intOf ti).toNat);case atStart=>exact⟨0,rfl,Nat.zero_le _,Q6.nil _,nofun,Zg _ _⟩
    case round=>
     obtain⟨k,rfl,hk,hA,hO,z⟩:=hrel;have HA:=O hA;have HO:=O hO;have HC:=O z;clear hA hO z;by_cases bh:k<n0
     ·have hd:decide ((k:Int)<(n0:Int))=true:=by simp;omega
      have aa:k<(h.aM id).length:=by have:=ag.o;omega
      have ao:h.aM id≠[]:=fun e=>by rw[e]at aa;simp at aa
      obtain⟨g,be,bf,ba,hB,bc,ac,_,_⟩:=HI.o.opn ao;injection ba with h1 h2 h3;subst h1;obtain⟨x,hx⟩:∃x,(h.aM id)[k]? =some x:=⟨_,List.getElem?_eq_getElem aa⟩;have Z:wr.cell? ⟨g,k,none⟩=some (ZI x):=by rw[(HC.o.blk hB (fun h=>h)).cell];exact ac k x hx
      have aw:x∈h.aM id:=List.mem_of_getElem? hx;have HL:=O (IH.o wr F b (ab.o wr (C3.o.aA HC.o)) x (CH.o x aw));have bg:IntKind.i64.wrap ((k:Int)+1)=(k:Int)+1:=by have h4:=V.o id;have h5:=ag.o;rw[IntWalk.i64_in _ (by omega)]
      have TK:=O (show(h.aM id).take (k+1)=(h.aM id).take k++[x] by rw[List.take_add_one,hx];rfl);have LN:Hi ((((h.aM id).take k).flatMap h.aI).length+(h.aI x).length≤4096+64):=O (by
       have h1:=Qm7 h ((h.aM id).take k);have h2:=Db h x;have h3:=I.o;have h4:=V.o id;have h5:((h.aM id).take k).length≤64:=by rw[List.length_take];omega
       have h6:((h.aM id).take k).length*h.length≤64*64:=Nat.mul_le_mul h5 h3;omega)
      clear aa ao hB bc ac hx aw h2 h3;go_wp2_with fail;refine Zo HL ?_;rintro e w4⟨vx,rfl,av,bd,c4⟩;obtain⟨ax,cx,rfl,_,ak,aq⟩:=av.row intT.hc;have az:=O aq;have C4:=O c4;have ay:=O ak;clear av bd c4 aq ak;go_wp2_with (at_builtin;refine Jj intT rfl (.tmp 31) (.tmp 34) rfl _ (((h.aM id).take k).flatMap h.aI) rfl (Q6.aB HA.o C4.o (fun _ _ h=>h)) _ _ (h.aI x) rfl ?a2 ?a3 ?a4 ?a5 ?a6);case a2=>exact ay.o
      case a3=>exact az.o
      case a4=>have:=LN.o;simp only[maxLen];omega
      case a5=>have:=LN.o;omega
      case a6=>
       intro v' w5 af am au;have C5:Hi (Qc Qb w3 w5):=O ((HC.o.aA C4.o).trans am (fun j R=>.inr (HO.o j R)));have O5:Hi (∀j,v'.ownBlock=some j→w3.heap.size≤j):=O (fun j R=>by
        rcases au with e|e;·rw[e]at R;exact HO.o j R
        ·rw[e]at R;have e2:w4.heap.size=j:=Zs R;have:=HC.o.size;have:=C4.o.size;omega)
       have a0:=O af;clear af am au;go_wp2;go_roundw;case measure=>simp only[intOf];omega
       case rel=> refine⟨k+1,by rw[←Int.natCast_one,←Int.natCast_add],by omega,?_,O5.o,C5.o⟩;have:=a0.o;rw[TK.o,List.flatMap_append];simpa using this
     ·have hd:decide ((k:Int)<(n0:Int))=false:=by simp;omega
      have ae:k=(h.aM id).length:=by have:=ag.o;omega
      have HS:=O (N7 HA.o (by
       have h1:=Qm7 h ((h.aM id).take k);have h3:=I.o;have h4:=V.o id;have h5:((h.aM id).take k).length≤64:=by rw[List.length_take];omega
       have h6:((h.aM id).take k).length*h.length≤64*64:=Nat.mul_le_mul h5 h3;omega))
      have TK:=O (show(h.aM id).take k=h.aM id by rw[ae,List.take_length]);clear ae;go_wp2_with fail;refine Zy HS ?_;rintro w4⟨ar,c4⟩;have U:=O (Zt ar c4);clear ar c4;go_wp2;go_ret;refine⟨_,rfl,?_,?_,?_⟩;·have:=U.o.1;rw[TK.o,LS.o]at this;exact this
      ·intro j R;have:=HO.o j R;have:=C3.o.size;omega
      ·exact C3.o.aA (HC.o.trans U.o.2 fun j R=>.inr (HO.o j R))
end
theorem Qjd{f:Int→Int}{l:List Int}{k:Nat}{x:Int}(c:l[k]? =some x):((l.take (k+1)).map f).sum=((l.take k).map f).sum+f x:=by rw[List.take_add_one,c];simp
theorem Qmn{f:Int→Int}{B:Int}:∀{l:List Int},(∀x∈l,0≤f x∧f x≤B)→0≤(l.map f).sum∧(l.map f).sum≤l.length*B
 |[],_=>by simp
 |x::l,h=>by
  have d:=h x (by simp);have k:=Qmn (l:=l) (fun y c=>h y (by simp[c]));rw[List.map_cons,List.sum_cons,Zm];have:((l.length+1:Nat):Int)*B=(l.length:Int)*B+B:=by rw[Int.natCast_add,Int.add_mul];simp
  omega
section
variable{A:Tb}{w:World}{F:Fp}{b:Nat}{s:Qf}{N:Nat}
theorem Qi.leafQ(h:Qi A w F b s){i:Int}{l:Qw}(d:s.leaf i=some l):∃qb dv,Qh w (A.ad i) #[ptr qb,dv] 107∧(∃r,Jz w qb r l.pk l.bt l.q)∧∃G,Kv w G dv l.debt:=by obtain⟨G,c,_⟩:=h.leafOf d;exact c.cells
theorem Qi.bounds(h:Qi A w F b s)(i:Int):(0≤((s.qOf i).length:Int)∧((s.qOf i).length:Int)≤4096)∧0≤Jn (s.qOf i)∧Jn (s.qOf i)≤16777216:=by
 cases d:s.leaf i with
 |none=>rw[Qbc d];exact⟨⟨by simp,by simp⟩,by simp[Jn],by simp[Jn]⟩
 |some l=> rw[Ov d];obtain⟨I,q,_,⟨r,c⟩,_⟩:=h.leafQ d;have u:=c.many;have z:=c.pk2;have B:=c.held;have E:=c.bt2;have k:=Hd _ c.good;exact⟨⟨by omega,by omega⟩,k,by omega⟩
theorem Dn(h:Qi A w F b s)(J:Xp N s)(id:Int):ZW 20 #[ptr b,ZI id] w (.tuple #[ZI (s.many id),ZI (s.bytes id)]) fun w'=>Qc Qb w w':=by
 have K:=O (fun w'(c:Qc Qb w w')=>(Qi.obj A).aB h c (Jl.none F));have HN:=O (Ku h J.most.1);obtain⟨a0,a1,a2,a3,a4⟩:=Ym h.blk;obtain⟨Gt,ht,_⟩:=h.treeOf;have ag:=O (Ot J.tree 9 ht id (by omega));have BD:=O h.bounds;have R:Hi ((s.tree.aI id).length≤64):=O (Zp (Db _ _) J.tree.many);have LF:Hi (∀x∈s.tree.aI id,∃l,s.leaf x=some l):=O (fun x I=>by
  obtain⟨c,hc,rfl,ab,_⟩:=Y8.1 I;exact J.lv _ c (Da J.tree.sorted hc) ab)
 unfold Qf.many Qf.bytes;clear h J ht;go_enter func20,ntmps20;go_wp2_with fail;refine Zy HN ?_;rintro w1 rfl;go_wp2_with fail;refine Zo ag ?_;rintro e w2⟨uv,rfl,hI,_,c2⟩;obtain⟨a,cap,rfl,aa,_,_⟩:=hI.row intT.hc;have HI:=O hI;have C2:=O c2;obtain⟨n0,E⟩:=Zx ((s.tree.aI id).length);have z:=O E;rw[←E]at aa⊢;clear hI c2 E a0 a1 a2 a3 a4;go_wp2_with fail;go_loopw [4,5,7,17] (fun t4 t5 _ ti wr=>∃(k:Nat),ti=ZI k∧k≤n0∧t4=ZI ((((s.tree.aI id).take k).map fun x=>((s.qOf x).length:Int)).sum)∧t5=ZI ((((s.tree.aI id).take k).map fun x=>Jn (s.qOf x)).sum)∧Qc Qb w2 wr) (fun _ _ _ ti _=>n0-(intOf ti).toNat);case atStart=>exact⟨0,rfl,Nat.zero_le _,rfl,rfl,Zg _ _⟩
 case round=>
  obtain⟨k,rfl,hk,rfl,rfl,hc⟩:=hrel;have HC:=O hc;clear hc;by_cases ap:k<n0
  ·have hd:decide ((k:Int)<(n0:Int))=true:=by simp;omega
   have d:k<(s.tree.aI id).length:=by have:=z.o;omega
   have ac:s.tree.aI id≠[]:=fun e=>by rw[e]at d;simp at d
   obtain⟨g,am,an,ak,hB,al,q,_,_⟩:=HI.o.opn ac;injection ak with h1 h2 h3;subst h1;obtain⟨x,I⟩:∃x,(s.tree.aI id)[k]? =some x:=⟨_,List.getElem?_eq_getElem d⟩;have ab:wr.cell? ⟨g,k,none⟩=some (ZI x):=by rw[(HC.o.blk hB (fun h=>h)).cell];exact q k x I
   have ae:x∈s.tree.aI id:=List.mem_of_getElem? I;obtain⟨l,hl⟩:=LF.o x ae;have hS:=K.o wr (C2.o.aA HC.o);obtain⟨b0,b1,b2,b3,b4⟩:=Ym hS.blk;have aj:=hS.look1 x;rw[G7 hl]at aj;obtain⟨qb,dv,Z,⟨r,hq⟩,_⟩:=hS.leafQ hl;obtain⟨l0,l1⟩:=Q4 Z;have QL:=O (Qin hq);have QB:=O (Qls hq);have ao:IntKind.i64.wrap ((k:Int)+1)=(k:Int)+1:=by have h4:=R.o;have h5:=z.o;rw[IntWalk.i64_in _ (by omega)]
   have T1:=O (Qjd (f:=fun x=>((s.qOf x).length:Int)) I);have T2:=O (Qjd (f:=fun x=>Jn (s.qOf x)) I);have QO:=O (Ov hl);have U:=Qmn (f:=fun x=>((s.qOf x).length:Int)) (B:=4096) (l:=(s.tree.aI id).take k) (fun x _=>(BD.o x).1);have V:=Qmn (f:=fun x=>Jn (s.qOf x)) (B:=16777216) (l:=(s.tree.aI id).take k) (fun x _=>(BD.o x).2);have tl:((s.tree.aI id).take k).length≤64:=by have:=R.o;rw[List.length_take];omega
   have bx:=BD.o x;rw[QO.o]at bx;generalize ah:(((s.tree.aI id).take k).map fun x=>((s.qOf x).length:Int)).sum=P1 at*;generalize ai:(((s.tree.aI id).take k).map fun x=>Jn (s.qOf x)).sum=P2 at*;have ew1:IntKind.i64.wrap (P1+(l.q.length:Int))=P1+(l.q.length:Int):=by rw[IntWalk.i64_in _ (by omega)]
   have ew2:IntKind.i64.wrap (P2+Jn l.q)=P2+Jn l.q:=by rw[IntWalk.i64_in _ (by omega)]
   clear d ac hB al q I ae h2 h3 hl hS Z hq U V tl bx ah ai;go_wp2_with fail;refine Zy QL ?_;rintro w4 rfl;go_wp2_with fail;refine Zy QB ?_;rintro w4 rfl;go_wp2_with fail;go_roundw;case measure=>simp only[intOf];omega
   case rel=>
    refine⟨k+1,by rw[←Int.natCast_one,←Int.natCast_add],by omega,?_,?_,HC.o⟩;·have:=T1.o;rw[QO.o]at this;rw[this]
    ·have:=T2.o;rw[QO.o]at this;rw[this]
  ·have hd:decide ((k:Int)<(n0:Int))=false:=by simp;omega
   have u:k=(s.tree.aI id).length:=by have:=z.o;omega
   have TK:=O (show(s.tree.aI id).take k=s.tree.aI id by rw[u,List.take_length]);have af:=O (C2.o.aA HC.o);rw[TK.o];clear u;go_wp2;go_ret2;exact⟨rfl,af.o⟩
end
theorem Qk0{w}{b:Nat}{L:List (Int×Value)}(h:Xq w b L):ZW 88 #[.map (some b)] w (.map (some w.heap.size)) fun w'=>Xq w' w.heap.size L∧Qc Qb w w':=by obtain⟨q,d,u,c⟩:=h;have k:=O c;have z:=fun w=>run_eql_map_nil_sl (P:=prog) w 111 _ _ (some b) underlying111;clear c;go_enter func88,ntmps88;go_wp2;rw[run_callFunc_extern func144 (by kernel_rfl) (by kernel_rfl) (by kernel_rfl) (e:=Extern.MapsClone.clone) (by kernel_rfl),run_maps_clone_sl w 111 u];simp only[Result.andThen];rw[Oper.upon_value];go_wp2;rw[run_typeAssert_map_sl _ 111 _ _ _ _ underlying111];simp only[Result.andThen];rw[Oper.upon_value];go_wp2;go_ret;exact⟨rfl,⟨q,d,(MapKept.heap_alloc w _).1,k.o⟩,(Zg _ _).alloc _⟩
theorem Qhy{w}{b:Nat}{L:List (Int×Value)}(h:Xq w b L):ZW 89 #[.map (some b)] w (.map (some w.heap.size)) fun w'=>Xq w' w.heap.size L∧Qc Qb w w':=by obtain⟨q,d,u,c⟩:=h;have k:=O c;have z:=fun w=>run_eql_map_nil_sl (P:=prog) w 112 _ _ (some b) underlying112;clear c;go_enter func89,ntmps89;go_wp2;rw[run_callFunc_extern func144 (by kernel_rfl) (by kernel_rfl) (by kernel_rfl) (e:=Extern.MapsClone.clone) (by kernel_rfl),run_maps_clone_sl w 112 u];simp only[Result.andThen];rw[Oper.upon_value];go_wp2;rw[run_typeAssert_map_sl _ 112 _ _ _ _ underlying112];simp only[Result.andThen];rw[Oper.upon_value];go_wp2;go_ret;exact⟨rfl,⟨q,d,(MapKept.heap_alloc w _).1,k.o⟩,(Zg _ _).alloc _⟩
structure Ai(w:World)(h:Qm)(l:List Vm)(b' ma mu r:Nat)(wr:World)(vsr left:List (Int×Value)):Prop where
 it:Kj wr mu r vsr left
 chg:Qc Qb w wr
 blk:Qh wr b' #[.map (some ma),.map (some mu)] 114
 mall:Xq wr ma (Us l)
 has:∀p∈vsr,Q6 wr p.2 (h.aM p.1)
 own:∀p∈vsr,∀k,p.2.ownBlock=some k→(p∈left∧k<w.heap.size)∨(w.heap.size≤k∧k<wr.heap.size∧k≠b'∧k≠ma∧k≠mu∧k≠r)
 dis:∀p∈vsr,∀q∈vsr,∀k,p.2.ownBlock=some k→q.2.ownBlock=some k→p.1=q.1
 miss:∀i,(∀p∈vsr,p.1≠i)→h.aM i=[]
 ne:b'≠ma∧b'≠mu∧ma≠mu∧r≠b'∧r≠ma∧r≠mu
 lo:w.heap.size≤b'∧w.heap.size≤ma∧w.heap.size≤mu∧w.heap.size≤r
section
variable{w wr w2 w3:World}{h:Qm}{l:List Vm}{b' ma mu r:Nat}{vsr left:List (Int×Value)}
theorem Ai.fin(C:Ai w h l b' ma mu r wr vsr [])(q:l.Perm h):Q9 wr (Qn Qb w wr) b' h∧Qc Qb w wr:=by
 have z:=C.it.map;obtain⟨I,J,K,Z,n5,n6⟩:=C.ne;obtain⟨E,R,U,V⟩:=C.lo;have d:∀p∈vsr,∀k,p.2.ownBlock=some k→w.heap.size≤k∧k<wr.heap.size∧k≠b'∧k≠ma∧k≠mu∧k≠r:=fun p q k c=>(C.own p q k c).resolve_left fun e=>by cases e.1
 refine⟨⟨ma,mu,l,vsr,q,?_⟩,C.chg⟩;have B:Bd (Qn Qb w wr) wr:=fun k c=>c.elim (fun h=>h.elim) (fun h=>h.2);have u:Y7 wr (fun k=>k=mu∨∃p∈vsr,p.2.ownBlock=some k) mu vsr h:=⟨z,fun k c=>c.elim (fun e=>e▸z.lt) (fun⟨p,q,c⟩=>(d p q k c).2.1),.inl rfl,C.has,fun p q k c=>⟨.inr ⟨p,q,c⟩,(d p q k c).2.2.2.2.1⟩,C.dis,C.miss⟩;refine Q7 (G:=fun k=>k=b') (H:=fun k=>k=ma∨k=mu∨∃p∈vsr,p.2.ownBlock=some k) ⟨C.blk,rfl,fun k e=>e▸C.blk.lt⟩ ?_ ?_ ?_ ?_ B
 ·refine Q7 (G:=fun k=>k=ma) (H:=fun k=>k=mu∨∃p∈vsr,p.2.ownBlock=some k) ⟨C.mall,rfl,fun k e=>e▸C.mall.lt⟩ (Y6 u u.bd) ?_ (fun k e=>.inl e) (fun k c=>.inr c) ?_
  ·rintro k rfl(e|⟨p,q,c⟩);·exact K e
   ·exact(d p q _ c).2.2.2.1 rfl
  ·exact fun k c=>c.elim (fun e=>e▸C.mall.lt) (u.bd k)
 ·rintro k rfl(e|e|⟨p,q,c⟩);·exact I e
  ·exact J e
  ·exact(d p q _ c).2.2.1 rfl
 ·rintro k rfl;exact .inr ⟨E,C.blk.lt⟩
 ·rintro k(e|e|⟨p,q,c⟩);·exact .inr ⟨by omega,e▸C.mall.lt⟩
  ·exact .inr ⟨by omega,e▸z.lt⟩
  ·exact .inr ⟨(d p q k c).1,(d p q k c).2.1⟩
theorem Ai.step(C:Ai w h l b' ma mu r wr vsr left){p:Int×Value}(hp:p∈left)(ab:Kj w2 mu r vsr (Vu p.1 left))(c2:Qc (fun j=>j=r) wr w2)(c3:Qc Qb w2 w3){K:Value}(hv:Q6 w3 K (h.aM p.1))(hn:∀k,K.ownBlock=some k→w2.heap.size≤k):
  ∃w4,(Instr.mapUpdate 112 (.map (some mu)) (ZI p.1) K).run prog w3=.ok () w4∧Ai w h l b' ma mu r w4 (Oi p.1 K vsr) (Vu p.1 left):=by
 obtain⟨n1,n2,n3,n4,n5,n6⟩:=C.ne;obtain⟨l1,l2,l3,l4⟩:=C.lo;have ac:p∈vsr:=C.it.sub.subset hp;have B:=C.it.map.nodup;have ai:r<wr.heap.size:=by obtain⟨es,aa,ae,_,_,_,_,_,h6,_⟩:=C.it;exact(Z2.1 h6).1
 obtain⟨w4,V,R,c4⟩:=Qbi (P:=prog) (ab.aB c3 (fun h=>h) (fun h=>h)) underlying112 underlying3 p.1 K ⟨p,ac,rfl⟩ (fun q d=>by have:=(List.mem_filter.1 d).2;simpa using this);have s2:=c2.size;have s3:=c3.size;have s4:=c4.size;have ag:=C.blk.lt;have af:=C.mall.lt;have ah:=C.it.map.lt;have E:Qc (fun j=>j=r∨j=mu) wr w4:=((c2.mono fun k c=>.inl (.inl c)).trans c3 fun k c=>c.elim).trans c4 fun k c=>.inl (.inr c);refine⟨w4,V,R,C.chg.trans E fun k c=>.inr (c.elim (fun e=>by omega) (fun e=>by omega)),E.blk C.blk (fun e=>e.elim (fun e=>n4 e.symm) (fun e=>n2 e)),C.mall.aB E (fun e=>e.elim (fun e=>n5 e.symm) (fun e=>n3 e)),fun q d=>?_,fun q d k c=>?_,fun q d q' u k c I=>?_,fun i hi=>?_,C.ne,C.lo⟩
 ·rcases Hu B d with rfl|⟨d,J⟩;·refine hv.aB c4 fun k c e=>?_;have:=hn k c;omega
  ·refine(C.has q d).aB E fun k c e=>?_;rcases C.own q d k c with⟨_,z⟩|⟨_,_,_,_,h5,h6⟩;·rcases e with e|e<;>omega
   ·exact e.elim h6 h5
 ·rcases Hu B d with rfl|⟨d,J⟩;·have z:=hn k c;have h2:=hv.lt k c;exact .inr ⟨by omega,by omega,by omega,by omega,by omega,by omega⟩
  ·rcases C.own q d k c with⟨h0,z⟩|⟨z,h2,h3⟩;·exact .inl ⟨List.mem_filter.2 ⟨h0,by simpa using J⟩,z⟩
   ·exact .inr ⟨z,by omega,h3⟩
 ·have Z:∀q∈vsr,∀k,q.2.ownBlock=some k→k<wr.heap.size:=fun q d k c=>by
   rcases C.own q d k c with⟨_,z⟩|⟨_,h2,_⟩;·have:=C.chg.size;omega
   ·exact h2
  rcases Hu B d with rfl|⟨d,J⟩
  ·rcases Hu B u with rfl|⟨u,U⟩;·rfl
   ·have z:=hn k c;have:=Z q' u k I;omega
  ·rcases Hu B u with rfl|⟨u,U⟩;·have z:=hn k I;have:=Z q d k c;omega
   ·exact C.dis q d q' u k c I
 ·refine C.miss i fun q d e=>?_;by_cases z:q.1=p.1;·exact hi _ (Qbr p.1 K vsr) (z.symm.trans e)
  ·exact hi q (Qbs d z) e
end
theorem Ww{w}{F:Fp}{b:Nat}{h:Qm}(hh:Q9 w F b h)(hl:h.length<1099511627776):
  Cl 50 #[ptr b] w fun e w'=>∃b',e=.returned (ptr b')∧Q9 w' (Qn Qb w w') b' h∧Qc Qb w w':=by
 obtain⟨ma,mu,l,vs,G,q,hn,aa,ac,E,fb,fm,fG,au,av,aw,ae,_⟩:=hh.opn;have HL:∀i,(h.aM i).length<1099511627776:=fun i=>by
  have:(h.aM i).length≤h.length:=by unfold Qm.aM;rw[List.length_map];exact List.length_filter_le _ _
  omega
 have ai:=O (fun w'(c:Qc Qb w w')=>Qk0 (ac.aB c (fun h=>h)));have aj:=O (fun w'(c:Qc Qb w w')=>Qhy (E.map.aB c (fun h=>h)));have HB:=O aa;have K:Hi (∀w0 w1 w2 w3,Qc Qb w w0→Qc Qb w0 w1→Qc Qb w1 w2→Xq w1 w0.heap.size (Us l)→Xq w2 w1.heap.size vs→w3=w2.alloc (.cells #[.map (some w0.heap.size),.map (some w1.heap.size)] 114)→
   ∃o,(Instr.range 112 (.map (some w1.heap.size))).run prog w3=.ok (.pointer (some ⟨w3.heap.size,0,none⟩)) (w3.alloc o)∧Qh w3 w2.heap.size #[.map (some w0.heap.size),.map (some w1.heap.size)] 114∧Ai w h l w2.heap.size w0.heap.size w1.heap.size w3.heap.size (w3.alloc o) vs vs):=O (by
  rintro w0 w1 w2 w3 c0 c1 U u z rfl;have c3:Qc Qb w2 (w2.alloc (.cells #[.map (some w0.heap.size),.map (some w1.heap.size)] 114)):=(Zg _ _).alloc _;have d:Qh (w2.alloc (.cells #[.map (some w0.heap.size),.map (some w1.heap.size)] 114)) w2.heap.size #[.map (some w0.heap.size),.map (some w1.heap.size)] 114:=Qh.new _ _ _;obtain⟨w3,ar⟩:=Zx (w2.alloc (.cells #[.map (some w0.heap.size),.map (some w1.heap.size)] 114));rw[←ar]at c3 d⊢;obtain⟨o,R,ap⟩:=Er (P:=prog) (z.aB c3 (fun h=>h)) underlying112;have c4:Qc Qb w3 (w3.alloc o):=(Zg _ _).alloc _;have cA:Qc Qb w (w3.alloc o):=(((c0.aA c1).aA U).aA c3).aA c4;have s0:=c0.size;have z1:=u.lt;have z2:=z.lt;have z3:=d.lt;have s1:=c1.size;have s2:=U.size;have hU:=E.aB cA (Jl.none G);exact⟨o,R,d,ap,cA,c4.blk d (fun h=>h),(u.aB U (fun h=>h)).aB (c3.aA c4) (fun h=>h),hU.has,fun p q k hk=>.inl ⟨q,ae k (fG k (E.own p q k hk).1)⟩,hU.dis,hU.miss,⟨by omega,by omega,by omega,by omega,by omega,by omega⟩,⟨by omega,by omega,by omega,by omega⟩⟩)
 have HP:=O q;have am:=O HL;clear hh q hn ac E fb fm fG au av aw ae hl HL;obtain⟨a0,a1⟩:=Q4 (HB.o.drew);clear aa;go_enter func50,ntmps50;go_wp2_with fail;refine ZC [0,1,2,3,105,106,107,108,204,309,10,311,312] (fun wv=>Qc (Qb) (w) wv) ?_;simp only[Z8,Zf,Ze,Zd];iterate 4 (refine Xe (h:=?_))
 iterate 3 (refine Qy (h:=?_);try simp only[Act.put,Za,Zc,Zb])
 iterate 1 (refine Qy (by kernel_rfl) (fun wv hv=>by(obtain⟨z0,z1⟩:=Q4 (hv.blk HB.o (fun h=>h)));go_simp;try rfl) ?_;try simp only[Act.put,Za,Zc,Zb])
 clear a0 a1;refine Yb ?_;go_wp2_with fail;refine Zz (ai.o w.drew (Zg Qb w).drew) ?_;rintro w1⟨u,c1⟩;have T1:=O (Zt u c1);clear u c1;go_wp2_with fail;refine⟨((Zg Qb w).drew.aA T1.o.2),?_⟩;refine Km ?_;go_wp2_with fail;refine Zz (aj.o w1 ((Zg Qb w).drew.aA T1.o.2)) ?_;rintro w2⟨z,U⟩;obtain⟨o,R,d,B⟩:=K.o w.drew w1 w2 _ (Zg Qb w).drew T1.o.2 U T1.o.1 z rfl;have ez:w.drew.heap.size=w.heap.size:=rfl;rw[ez]at R d B;rw[show(w2.alloc (.cells #[.map (some w.heap.size),.map (some w1.heap.size)] 114)).heap.size=w2.heap.size+1 by simp]at R B;clear ez;have ak:=O B;have e1:=(Q4 d).2;clear z U B d;go_wp2_with fail;refine Xe (h:=?_);refine Km ?_;go_wp2_with fail;refine Km ?_;go_wp2_with fail;refine Ky ?_;go_wp2_with fail;go_loopw [4,5] (fun _ _ wr=>∃vsr left,Ai w h l w2.heap.size w.heap.size w1.heap.size (w2.heap.size+1) wr vsr left) (fun _ _ wr=>Dq wr (w2.heap.size+1));case atStart=>exact⟨_,_,ak.o⟩
 case round=>
  obtain⟨vsr,left,C⟩:=hrel;obtain⟨e1,e2⟩:=Q4 C.blk;rcases Rx (P:=prog) C.it 0 with⟨h0,R⟩|⟨p,q,w4,R,J,I,ao⟩;·subst h0;have ah:=O (C.fin HP.o);clear C;go_wp2_with fail;go_ret;exact⟨_,rfl,ah.o⟩
  ·have al:=O J;have C4:=O I;have CC:=O C;have B4:=O (I.blk C.blk (fun e=>by have:=C.ne.2.2.2.1;omega));have ax:=O (C.it.sub.subset q);have an:=O q;have Z:Hi ((Vu p.1 left).length<left.length):=O (by
    unfold Vu;exact List.length_filter_lt_length_iff_exists.2 ⟨p,q,by simp⟩)
   have LW:=O C.it.left_eq;have HV:=O ((C.has p (C.it.sub.subset q)).aB I (fun k hk e=>by
    rcases C.own p (C.it.sub.subset q) k hk with⟨_,h1⟩|⟨_,_,_,_,_,h6⟩;·have:=C.lo.2.2.2;omega
    ·exact h6 e))
   clear C J I q;go_wp2_with fail;clear R ao e1 e2;obtain⟨z0,z1⟩:=Q4 (B4.o.drew);refine ZC [100,101,102,103,104,5,206,307] (fun wv=>Qc (Qb) (w4) wv) ?_;simp only[Z8,Zf,Ze,Zd];iterate 3 (refine Qy (h:=?_);try simp only[Act.put,Za,Zc,Zb])
   iterate 1 (refine Qy (by kernel_rfl) (fun wv hv=>by(obtain⟨ay,az⟩:=Q4 (hv.blk B4.o (fun h=>h)));go_simp;try rfl) ?_;try simp only[Act.put,Za,Zc,Zb])
   (refine Qy (h:=?_);try simp only[Act.put,Za,Zc,Zb]);refine Xe (h:=?_);clear z0 z1;refine Yb ?_;go_wp2_with fail;refine(Fy p.2 _ w4.drew (Q6.aB HV.o (Zg Qb w4).drew (fun _ _ h=>h)) (am.o p.1)).mono ?_;rintro e w5⟨v',rfl,ag,c5,af,_⟩;have C5:=O c5.aT;obtain⟨w6,aq,ab⟩:=CC.o.step an.o al.o C4.o c5.aT ag af;have V:=O ab;clear ag c5 af ab;go_wp2_with fail;refine⟨C5.o,?_⟩;refine Km ?_;go_wp2_with fail;refine Ky ?_;clear aq;go_wp2_with fail;go_roundw;case measure=> rw[V.o.it.left_eq,CC.o.it.left_eq];exact Z.o
   case rel=>exact⟨_,_,V.o⟩
section
attribute [local go_sem ↓] X8 Yd
section
variable{A:Tb}{w:World}{F:Fp}{b:Nat}{s:Qf}{N:Nat}
theorem Qbl(h:Qi A w F b s)(u:Xp N s)(id:Int):ZW 118 #[ptr b,ZI id] w (.bool (decide (0<s.many id))) fun w'=>Qc Qb w w':=by have d:=O (Dn h u id);generalize s.many id=m at d⊢;generalize s.bytes id=q at d;clear h u;go_enter func118,ntmps118;go_wp2_with fail;refine Zy d ?_;intro w1 k;have c:=O k;clear k;go_wp2;go_ret;exact⟨rfl,c.o⟩
theorem Qbo(h:Qi A w F b s)(k:Xp N s):ZW 17 #[ptr b] w (ZU ((s.tick:Nat):Int)) fun w'=>Qc Qb w w':=by
 have Z:=O (Ku h k.most.1);have q:=O h.blk;obtain⟨Gr,K,_⟩:=h.rowOf;obtain⟨Gp,⟨U,J⟩,_⟩:=h.pickOf;have z:=O (Qkc (Yq.obj.aB K (Zg Qb w).drew (Jl.none _)));have u:=O (fun w'(c:Qc Qb w w')=>Qln ((Qo.obj U).aB J c (Jl.none _)) k.pick);unfold Qf.tick;generalize Hk s.row=x at z⊢;generalize s.pick.tick=y at u⊢;obtain⟨a0,a1,a2,a3,a4⟩:=Ym q.o.drew;clear h k K J;go_enter func17,ntmps17;go_wp2_with fail;refine Zy Z ?_;rintro w1 rfl;go_wp2_with fail;refine ZC [0,1,2,3,105,106,107,108,204,309,10,311] (fun R=>Qc (Qb) (w) R) ?_;simp only[Z8,Zf,Ze,Zd];iterate 4 (refine Xe (h:=?_))
 iterate 3 (refine Qy (h:=?_);try simp only[Act.put,Za,Zc,Zb])
 iterate 1 (refine Qy (by kernel_rfl) (fun R hv=>by(obtain⟨z0,z1,z2,z3,z4⟩:=Ym (hv.blk q.o (fun h=>h)));go_simp;try rfl) ?_;try simp only[Act.put,Za,Zc,Zb])
 clear a0 a1 a2 a3 a4;refine Yb ?_;go_wp2_with fail;refine Zy z ?_;intro w2 B;have d:=O B.aT;clear B;go_wp2_with fail;refine⟨d.o,?_⟩;refine Km ?_;go_wp2_with fail;refine Zz (u.o _ d.o) ?_;intro w3 I;have V:=O (d.o.aA I);have E:=O (show((min x y:Nat):Int)=min (x:Int) (y:Int) by omega);clear I;go_wp2_with fail;refine Xe (h:=?_);refine Km ?_;go_wp2_with fail;refine Ky ?_;go_wp2;go_ret;exact⟨by rw[E.o];rfl,V.o⟩
end
end
section
variable{A:Tb}{w w1 w2:World}{F:Fp}{b:Nat}{s:Qf}{N:Nat}
theorem Qi.delLeaf(h:Qi A w F b s)(i:Int)(I ty:TypeId):
  ∃w',(Builtin.delete_ #[93,I] ty #[.map (some A.m),ZI i]).run prog w=.ok (.tuple #[]) w'∧Qi A w' (Qn F w w') b {s with aI:=s.aI.filter fun l=>!decide (l.id=i)}∧Qc F w w':=by
 obtain⟨L,K,G,u,V,d⟩:=h.collOf;obtain⟨w',q,B,c⟩:=Di (P:=prog) u.map underlying93 underlying3 I ty i;have E:Qc G w w':=c.sub fun k z=>z▸u.at_;have J:Yn Qw.id Yj w' (Qn G w w') A.m A.ad (Kp Qw.id i L):=(u.del Yj.obj i B c).more (fun k z=>.inl z) (u.bd.ext E);obtain⟨R,U⟩:=d w' _ {s with aI:=s.aI.filter fun l=>!decide (l.id=i)} (K.filter _) rfl rfl rfl rfl J E;exact⟨w',q,R,U⟩
theorem Qhe(q:Yk)(w1):∃c,Qc Qb w1 c∧Qh c w1.heap.size (Es q) 29∧
  (storeCells ⟨w1.heap.size,0,none⟩ (Es q).toList 0).run prog (w1.alloc (.cells Z5 29))=.ok () c:=by
 obtain⟨c,s2,d,u⟩:=Q0 (P:=prog) (vs:=Es q) (Qh.new w1 Z5 29) rfl (Hl _);exact⟨c,((Zg Qb w1).alloc _).trans u (fun k e=>.inr (by omega)),d,s2⟩
theorem Qmd(h:Qt w F b s)(I:Xp N s)(id:Int):
  ZW 67 #[ptr b,ZI id] w (ZI (s.aP id)) fun w'=>Qt w' (Qn F w w') b (s.drop id)∧Qc F w w':=by
 obtain⟨A,h⟩:=h;have R:=(Qi.obj A).bd h;have z:=O (fun w'(c:Qc Qb w w')=>(Qi.obj A).aB h c (Jl.none F));have NO:Hi (∀w',Qc Qb w w'→s.aP id≠0→Qt w' (Qn F w w') b (s.drop id)∧Qc F w w'):=O (fun w' c h0=>by rw[I0 h0];exact Qt.obj.same ⟨A,h⟩ c);have HN:=O (Ku h I.most.1);obtain⟨U,V,Z,a3,a4⟩:=Ym h.blk;have HG:Hi (ZW 23 #[ptr A.tb,ZI id] w (.tuple #[.agg (Es (s.tree.get id).sp),.bool (s.tree.at id).isSome]) fun w'=>Qc Qb w w'):=O (by
  obtain⟨G,hT,_⟩:=h.treeOf;exact Ob hT id)
 have HE:Hi (s.aP id=if(s.tree.at id).isNone then 81 else if s.tree.aM id≠[]then 161 else if 0<s.many id then 230 else 0):=O (rfl);cases hc:s.tree.at id with
 |none=> have E:=O (show s.aP id=81 by rw[HE.o,hc];rfl);rw[hc]at HG;dsimp only[Option.isSome_none]at HG;clear h I R hc;go_enter func67,ntmps67;go_wp2_with fail;refine Zy HN ?_;rintro w1 rfl;go_wp2_with fail;refine Zy HG ?_;intro w1 c1;obtain⟨W2,c2,_,ak⟩:=Qhe (s.tree.get id).sp w1;have d:=O (NO.o W2 (c1.aA c2) (by rw[E.o];decide));clear c1 c2;go_wp2_with fail;go_ret;exact⟨by rw[E.o];rfl,d.o⟩
 |some c=>
  have HU:Hi (∀w',Qc Qb w w'→Cl 85 #[ptr A.tb,ZI id] w' fun e am=>∃v,e=.returned v∧Q6 am v (s.tree.aM id)∧(∀k,v.ownBlock=some k→w'.heap.size≤k)∧Qc Qb w' am):=O (fun w' cc=>by
   obtain⟨G,hT,_⟩:=(z.o w' cc).treeOf;exact P8 hT id (by have:=Qwe s.tree id;have:=I.tree.many;omega))
  have u:=O (fun w'(cc:Qc Qb w w')=>Qbl (z.o w' cc) I id);have ac:Hi (s.aP id=0→∀w3,Qc Qb w w3→Cl 121 #[ptr A.tb,ZI id] w3 fun e J=>e=.returned (ZI 0)∧Qc F w J∧Qi A J (Qn F w J) b {s with tree:=s.tree.drop id}∧
    ZW 122 #[ptr A.pb,ZI id] J (.bool true) fun w5=>Qi A w5 (Qn F w w5) b {s with tree:=s.tree.drop id,pick:=s.pick.drop id}∧
     ∃w6,(Builtin.delete_ #[93,3] 0 #[.map (some A.m),ZI id]).run prog w5=.ok (.tuple #[]) w6∧Qt w6 (Qn F w w6) b (s.drop id)∧Qc F w w6):=O (fun h0 w3 c3=>by
   obtain⟨B,ai⟩:=Ng h0;obtain⟨c',ap,K⟩:=Tz ai;have ha:=I.asleep B;obtain⟨x,q,hx,i1,au,hq,ar,_⟩:=I.mt.drop I.tree I.pick ai ha;have h3:=z.o w3 c3;obtain⟨G,hT,_,aj⟩:=h3.treeOf;refine Zz (Qkl hT ap K (by have:=Qwe s.tree c'.sp.par;have:=I.tree.many;omega)) ?_;rintro J⟨ao,c4⟩;obtain⟨m1,m2⟩:=aj J _ ao c4;have ag:Qc F w J:=c3.none.aA m2;have al:=(Qi.obj A).more m1 (Ke c3.size) (R.ext ag);refine⟨rfl,ag,al,?_⟩;obtain⟨Gp,⟨AP,hP⟩,_,af⟩:=al.pickOf;refine Zz (Qlj hP I.pick i1 hx au ha hq ar) ?_;rintro w5⟨an,c5⟩;obtain⟨n1,n2⟩:=af w5 _ ⟨AP,an⟩ c5;obtain⟨p1,p2⟩:=(Qi.obj A).two n1 R ag n2;refine⟨rfl,p1,?_⟩;obtain⟨w6,r6,h6,c6⟩:=p1.delLeaf id 3 0;obtain⟨q1,q2⟩:=(Qi.obj A).two h6 R p2 c6;refine⟨w6,r6,?_,q2⟩;have e:s.drop id={s with tree:=s.tree.drop id,pick:=s.pick.drop id,aI:=s.aI.filter fun l=>!decide (l.id=id)}:=by unfold Qf.drop;rw[if_pos h0]
   rw[e];exact⟨A,q1⟩)
  have HA:=O h.blk;rw[hc]at HG HE;dsimp only[Option.isSome_some,Option.isNone_some]at HG HE;obtain⟨m,B⟩:=Zx (s.many id);rw[←B]at HE u;clear h I hc B;go_enter func67,ntmps67;go_wp2_with fail;refine Zy HN ?_;rintro w1 rfl;go_wp2_with fail;refine Zy HG ?_;intro w1 c1;obtain⟨W2,c2,_,ak⟩:=Qhe (s.tree.get id).sp w1;have C2:=O (c1.aA c2);clear c1 c2 U V Z a3 a4;obtain⟨U,V,Z,a3,a4⟩:=Ym (C2.o.blk HA.o (fun h=>h));go_wp2_with fail;clear ak;refine(HU.o W2 C2.o).mono ?_;rintro e w3⟨uv,rfl,hI,_,c3⟩;obtain⟨ua,cap,rfl,_,_,_⟩:=hI.row intT.hc;have C3:=O (C2.o.aA c3);obtain⟨n0,ae⟩:=Zx ((s.tree.aM id).length);have ah:=O ae;rw[←ae];clear hI c3 ae U V Z a3 a4;by_cases K:s.tree.aM id=[]
  ·have hz:n0=0:=by rw[ah.o,K];rfl
   subst hz;by_cases B:0<m
   ·have E:=O (show s.aP id=230 by rw[HE.o,if_neg (by decide),if_neg (by simpa using K),if_pos B]);have dm:decide (0<m)=true:=by simpa using B
    rw[dm]at u;clear B K dm;go_wp2_with fail;refine Zz (u.o w3 C3.o) ?_;intro J c4;have d:=O (NO.o J (C3.o.aA c4) (by rw[E.o];decide));clear c4;go_wp2_with fail;go_ret;exact⟨by rw[E.o];rfl,d.o⟩
   ·have E:=O (show s.aP id=0 by rw[HE.o,if_neg (by decide),if_neg (by simpa using K),if_neg B]);have dm:decide (0<m)=false:=by simpa using B
    rw[dm]at u;have ST:=O (ac.o E.o);clear B K dm;go_wp2_with fail;refine Zz (u.o w3 C3.o) ?_;intro J c4;have C4:=O (C3.o.aA c4);clear c4;obtain⟨U,V,Z,a3,a4⟩:=Ym (C4.o.blk HA.o (fun h=>h));go_wp2_with fail;clear U V Z a3 a4;refine Zz (ST.o J C4.o) ?_;rintro w5⟨c5,h5,hP⟩;have HP:=O hP;obtain⟨U,V,Z,a3,a4⟩:=Ym h5.blk;clear hP c5 h5;go_wp2_with fail;clear U V Z a3 a4;refine Zy HP ?_;rintro w6⟨h6,w7,r7,ab,aa⟩;obtain⟨U,V,Z,a3,a4⟩:=Ym h6.blk;have d:=O (Zt ab aa);clear h6 ab aa;go_wp2_with fail;go_ret;exact⟨by rw[E.o];rfl,d.o⟩
  ·have aq:n0≠0:=fun e=>K (List.eq_nil_of_length_eq_zero (by rw[←ah.o,e]));have E:=O (show s.aP id=161 by rw[HE.o,if_neg (by decide),if_pos K]);have dn:decide ((0:Int)<(n0:Int))=true:=by simp;omega
   have av:decide (0<n0)=true:=by simp;omega
   have d:=O (NO.o w3 C3.o (by rw[E.o];decide));clear K aq;go_wp2_with fail;go_ret;exact⟨by rw[E.o];rfl,d.o⟩
end
section
@[irreducible]def Qr5(c d k q u z B E I s1 s2 s3 J K R U V Z:Int):Bool:=!(c==s1&&(d==s2&&(k==s3&&(q==J&&(u==K&&(z==R&&(B==U&&(E==V&&I==Z))))))))
theorem Qlb{c d k q u z B E I s1 s2 s3 J K R U V Z:Int}(h:Qr5 c d k q u z B E I s1 s2 s3 J K R U V Z=false):c=s1∧d=s2∧k=s3∧q=J∧u=K∧z=R∧B=U∧E=V∧I=Z:=by unfold Qr5 at h;simpa using h
theorem Qma(i p k t d K R U V Z r6 r7 r8 r9 s1 s2 s3 s4 s5 s6 s7 s8 s9:Int)(b:Bool)(w):
  (binOp .neq 109 (.agg #[ZI i,ZI p,.bool b,ZU K,ZU R,ZU U,ZU V,ZU Z,ZU r6,ZU r7,ZU r8,ZU r9,ZI k,ZI t,ZI d]) (.agg #[ZI i,ZI p,.bool b,ZU s1,ZU s2,ZU s3,ZU s4,ZU s5,ZU s6,ZU s7,ZU s8,ZU s9,ZI k,ZI t,ZI d])).run prog w=
   .ok (.bool (Qr5 K R U V Z r6 r7 r8 r9 s1 s2 s3 s4 s5 s6 s7 s8 s9)) w:=by
 unfold Qr5;go_simp;by_cases c:K=s1;case neg=>simp[c]
 by_cases q:R=s2;case neg=>simp[c,q]
 by_cases u:U=s3;case neg=>simp[c,q,u]
 by_cases z:V=s4;case neg=>simp[c,q,u,z]
 by_cases B:Z=s5;case neg=>simp[c,q,u,z,B]
 by_cases E:r6=s6;case neg=>simp[c,q,u,z,B,E]
 by_cases I:r7=s7;case neg=>simp[c,q,u,z,B,E,I]
 by_cases J:r8=s8;case neg=>simp[c,q,u,z,B,E,I,J]
 by_cases h9:r9=s9;case neg=>simp[c,q,u,z,B,E,I,J,h9]
 simp[c,q,u,z,B,E,I,J,h9]
end
def Qc0(a b:Jy):Bool:=(a.f:Int)==(b.f:Int)&&((a.l:Int)==(b.l:Int)&&(a.r:Int)==(b.r:Int))
theorem Tx{a b:Jy}(h:Qc0 a b=true):a=b:=by obtain⟨c,d,k⟩:=a;obtain⟨q,u,z⟩:=b;unfold Qc0 at h;simp only[Zw,beq_iff_eq]at h;obtain⟨B,E,I⟩:=h;congr 1<;>omega
def Qfo(a s:Yk):Bool:=Qc0 a.real s.real&&(Qc0 a.share s.share&&Qc0 a.aN s.aN)
theorem Qiy{a s:Yk}(h:Qfo a s=true):a.aK s=a:=by unfold Qfo at h;simp only[Zw]at h;obtain⟨c,d,k⟩:=h;unfold Yk.aK;rw[←Tx c,←Tx d,←Tx k]
section
variable{w:World}{F:Fp}{b:Nat}{h:Qm}
theorem Fq{s:Yk}(c:h.aG s≠0):h.change s=h:=by unfold Qm.change;rw[if_neg c]
theorem Qgt{s:Yk}{c:Vm}(z:J8 h)(k:h.at s.id=some c)(q:Qfo c.sp s=true):h.change s=h:=by
 unfold Qm.change;split
 ·have:∀x∈h,(if x.sp.id=s.id then(⟨x.sp.aK s,x.d⟩:Vm)else x)=x:=fun x u=>by
   split;·rename_i e;have d:=Da z.sorted u;rw[e,k]at d;obtain rfl:=Zs d;rw[Qiy q]
   ·rfl
  calc h.map (fun x=>if x.sp.id=s.id then(⟨x.sp.aK s,x.d⟩:Vm)else x)=h.map id:=List.map_congr_left this
   _=h:=List.map_id h
 ·rfl
theorem Qp9{l:List Vm}{c:Vm}(i:Int)(q:(l.map Vm.id).Nodup)(u:∃x∈l,x.sp.id=c.sp.id):Oi c.sp.id (.agg (P0 c)) (Us l)=Us (l.map fun x=>if x.sp.id=c.sp.id then c else x):=by
 induction l with
 |nil=>obtain⟨x,d,_⟩:=u;cases d
 |cons y l B=>
  simp only[List.map_cons,List.nodup_cons]at q;show Oi c.sp.id (.agg (P0 c)) ((y.sp.id,.agg (P0 y))::Us l)=_;rw[Oi];by_cases e:y.sp.id=c.sp.id
  ·rw[if_pos e.symm];have:l.map (fun x=>if x.sp.id=c.sp.id then c else x)=l:=by
    have:∀x∈l,(if x.sp.id=c.sp.id then c else x)=x:=fun x d=>if_neg fun k=>q.1 (Z3.2 ⟨x,d,k.trans e.symm⟩)
    calc l.map (fun x=>if x.sp.id=c.sp.id then c else x)=l.map id:=List.map_congr_left this
     _=l:=List.map_id l
   rw[List.map_cons,this,if_pos e];rfl
  ·rw[if_neg (fun z=>e z.symm),List.map_cons,if_neg e,B q.2 (by
    obtain⟨x,d,k⟩:=u;rcases Zu.1 d with rfl|d;·exact absurd k e
    ·exact⟨x,d,k⟩)]
   rfl
theorem Qev(hh:Q9 w F b h){s:Yk}(h0:h.aG s=0){c:Vm}(hc:h.at s.id=some c):
  ∃ma mu,Qh w b #[.map (some ma),.map (some mu)] 114∧∀w3,Qc Qb w w3→
   ∃q,(Instr.mapUpdate 111 (.map (some ma)) (ZI s.id) (.agg (P0 ⟨c.sp.aK s,c.d⟩))).run prog w3=.ok () q∧Q9 q (Qn F w q) b (h.change s)∧Qc F w q:=by
 obtain⟨ma,mu,l,vs,G,hp,hn,U,V,E,fb,fm,fG,ae,ab,af,ac,K⟩:=hh.opn;refine⟨ma,mu,U,fun w3 u=>?_⟩;obtain⟨q,r4,B,z⟩:=X6 (P:=prog) (V.aB u (fun h=>h)) underlying111 underlying3 s.id (.agg (P0 ⟨c.sp.aK s,c.d⟩));refine⟨q,r4,?_⟩;obtain⟨aa,I⟩:=Qm.aE hc;have Z:=((E.aB u (Jl.none G)).aB z (fun k d e=>ab (e▸d))).same (h':=h.change s) (fun i=>by
  unfold Qm.change;rw[if_pos h0];exact Ik h s i)
 have cA:Qc (fun k=>k=ma∨G k) w q:=u.none.aA (z.mono fun k d=>.inl (.inl d));have J:c∈l:=hp.mem_iff.2 aa;have R:Bd G w:=E.bd;refine K q (l.map fun x=>if x.sp.id=s.id then⟨x.sp.aK s,x.d⟩else x) vs _ ?_ ?_ ((Y7.good mu vs _).more Z (fun k d=>.inl d) (fun k d=>d.elim (fun d=>Nat.lt_of_lt_of_le (R k d) cA.size) (fun d=>d.2))) cA;·unfold Qm.change;rw[if_pos h0];exact hp.map _
 ·have e1:s.id=(⟨c.sp.aK s,c.d⟩:Vm).sp.id:=I.symm;have e2:=Qp9 (c:=⟨c.sp.aK s,c.d⟩) s.id hn ⟨c,J,rfl⟩;rw[←e1]at e2;rw[e2]at B;have e3:(l.map fun x=>if x.sp.id=s.id then(⟨c.sp.aK s,c.d⟩:Vm)else x)=l.map fun x=>if x.sp.id=s.id then⟨x.sp.aK s,x.d⟩else x:=by
   refine List.map_congr_left fun x hx=>?_;split
   ·rename_i e;have:x=c:=by have h1:=Ls (key:=Vm.id) hn hx e;have h2:=Ls (key:=Vm.id) hn J I;exact Zs (h1.symm.trans h2)
    rw[this]
   ·rfl
  rw[←e3];exact B
end
section
attribute [local go_sem ↓] Qma
section
variable{w:World}{F:Fp}{b:Nat}{h:Qm}
theorem Qda(h:Qm){i:Int}{c:Vm}(d:h.at i=some c):h.get i=c:=by unfold Qm.get;rw[d];rfl
theorem Qe1(hh:Q9 w F b h)(ok:J8 h)(s:Yk):
  ZW 119 #[ptr b,Fb s] w (ZI (h.aG s)) fun w'=>Q9 w' (Qn F w w') b (h.change s)∧Qc F w w':=by
 have aq:=O (fun w'(c:Qc Qb w w')=>Q9.obj.aB hh c (Jl.none F));have NO:Hi (∀w',Qc Qb w w'→h.aG s≠0→Q9 w' (Qn F w w') b (h.change s)∧Qc F w w'):=O (fun w' c h0=>by rw[Fq h0];exact Q9.obj.same hh c);have ar:Hi (∀w',Qc Qb w w'→h.change s=h→Q9 w' (Qn F w w') b (h.change s)∧Qc F w w'):=O (fun w' c h0=>by rw[h0];exact Q9.obj.same hh c);obtain⟨W,hW⟩:=Zx (w.alloc (.cells (Z4 s.leaf s) 29));have S0:Hi (Xx W w.heap.size s):=O (by rw[hW];exact Xx.new w s);have C0:Hi (Qc Qb w W):=O (by rw[hW];exact(Zg _ _).alloc _);have a7:Hi (w.heap.size<W.heap.size):=O (Qh.lt S0.o);have HN:=O (Gz (aq.o W C0.o));obtain⟨ma,mu,l,vs,G,hp,hn,ah,ai,aw,fb,fm,fG,az,a0,a1,ax,_⟩:=hh.opn;have ag:=O ah;have LK:=O (fun(w')(cc:Qc Qb w w')=>show(Instr.lookup 111 (.map (some ma)) (ZI s.id) true).run prog w'=.ok (.tuple #[.agg (P0 (h.get s.id)),.bool (h.at s.id).isSome]) w' by
  have hL:=Dj (P:=prog) (ai.aB cc (fun h=>h)) underlying111 underlying3 (Sf w') s.id;rw[Ed s.id l hn,←Qm.at_perm hp hn]at hL;rw[hL];unfold Qm.get;cases h.at s.id<;>rfl)
 have a5:=O (fun(w')(cc:Qc Qb w w')(c:Vm)(hc:h.at s.id=some c)=>show(Instr.lookup 111 (.map (some ma)) (ZI s.id) false).run prog w'=.ok (.agg (P0 c)) w' by
  have hL:=Du (P:=prog) (ai.aB cc (fun h=>h)) underlying111 underlying3 (Sf w') s.id;rw[Ed s.id l hn,←Qm.at_perm hp hn,hc]at hL;exact hL)
 cases hc:h.at s.id with
 |none=>
  have E:=O (show h.aG s=81 by unfold Qm.aG;rw[hc]);have J:h.get s.id=Qto:=by unfold Qm.get;rw[hc];rfl
  rw[hc,J]at LK;obtain⟨c,ay⟩:=Zx Qto;rw[←ay]at LK;dsimp only[Option.isSome_none]at LK;unfold Fb ptr at*;clear hh ok ah ai aw hp hn fb fm fG az a0 a1 ax hc J ay;go_enter func119,ntmps119;go_wp2_with fail;rw[←hW];clear hW;refine Zy HN ?_;rintro w1 rfl;go_wp2_with fail;refine ZC [100,101,102,103,104,105,106,107,108,109,210,211,312] (fun K=>Qc (Qb) (W) K) ?_;simp only[Z8,Zf,Ze,Zd];iterate 3 (refine Qy (h:=?_);try simp only[Act.put,Za,Zc,Zb])
  iterate 1 (refine Qy (by kernel_rfl) (fun K hv=>by(obtain⟨z0,z1⟩:=Q4 (hv.blk (C0.o.blk ag.o (fun h=>h)) (fun h=>h)));go_simp;try rfl) ?_;try simp only[Act.put,Za,Zc,Zb])
  (refine Qy (h:=?_);try simp only[Act.put,Za,Zc,Zb]);iterate 2 (refine Qy (by kernel_rfl) (fun K hv=>by(obtain⟨z0,_⟩:=(show Xx K w.heap.size s from S0.o.aB hv).cells;have lk:=LK.o K (C0.o.aA hv));go_simp;try rfl) ?_;try simp only[Act.put,Za,Zc,Zb])
  iterate 3 (refine Qy (h:=?_);try simp only[Act.put,Za,Zc,Zb])
  refine Yb ?_;go_wp2_with fail;refine⟨((Zg Qb W).alloc _).drew,?_⟩;have V:Qh (W.alloc (.cells Z6 109)).drew W.heap.size Z6 109:=(Qh.new _ _ _).drew;have D1:Qc Qb W (W.alloc (.cells Z6 109)).drew:=((Zg Qb W).alloc _).drew;generalize(W.alloc (.cells Z6 109)).drew=W1 at V D1⊢;obtain⟨W2,s2,af,C2⟩:=Q0 (P:=prog) (vs:=P0 c) V rfl (Sn c);have R:Qc Qb W W2:=D1.trans C2 (fun k e=>.inr (by omega));have Z:=O R;have ab:=O af;have am:=O (C0.o.aA R);clear V D1 af C2 R;refine Yb ?_;go_wp2_with fail;refine⟨Z.o,?_⟩;refine Km ?_;go_wp2_with fail;refine Ky ?_;clear s2;have U:=O (NO.o W2 am.o (by rw[E.o];decide));go_wp2_with fail;go_ret;exact⟨by rw[E.o];rfl,U.o⟩
 |some c=>
  have J:h.get s.id=c:=Qda h hc;rw[hc,J]at LK;dsimp only[Option.isSome_some]at LK;have a6:=O (fun w' cc=>a5.o w' cc c hc);have av:h.aG s=if(c.sp.aK s).mayE≠0 then 130 else 0:=by unfold Qm.aG;rw[hc]
  have EE:=O av;have a4:=O (Qgt ok hc);have au:Hi (h.aG s=0→∀w3,Qc Qb w w3→∃w4,(Instr.mapUpdate 111 (.map (some ma)) (ZI s.id) (.agg (P0 ⟨c.sp.aK s,c.d⟩))).run prog w3=.ok () w4∧Q9 w4 (Qn F w w4) b (h.change s)∧Qc F w w4):=O (fun h0=>by
   obtain⟨bg,bl,be,k⟩:=Qev hh h0 hc;have e:=ah.inj be;injection e with e;injection e with I _;injection I with I;have I:ma=bg:=Zs I;subst I;exact k)
  have aj:=O (fun w=>Qef (c.sp.aK s) w);unfold Fb ptr at*;clear hh ok ah ai aw hp hn fb fm fG az a0 a1 ax hc J av;go_enter func119,ntmps119;go_wp2_with fail;rw[←hW];clear hW;refine Zy HN ?_;rintro w1 rfl;go_wp2_with fail;refine ZC [100,101,102,103,104,105,106,107,108,109,210,211,312] (fun K=>Qc (Qb) (W) K) ?_;simp only[Z8,Zf,Ze,Zd];iterate 3 (refine Qy (h:=?_);try simp only[Act.put,Za,Zc,Zb])
  iterate 1 (refine Qy (by kernel_rfl) (fun K hv=>by(obtain⟨z0,z1⟩:=Q4 (hv.blk (C0.o.blk ag.o (fun h=>h)) (fun h=>h)));go_simp;try rfl) ?_;try simp only[Act.put,Za,Zc,Zb])
  (refine Qy (h:=?_);try simp only[Act.put,Za,Zc,Zb]);iterate 2 (refine Qy (by kernel_rfl) (fun K hv=>by(obtain⟨z0,_⟩:=(show Xx K w.heap.size s from S0.o.aB hv).cells;have lk:=LK.o K (C0.o.aA hv));go_simp;try rfl) ?_;try simp only[Act.put,Za,Zc,Zb])
  iterate 3 (refine Qy (h:=?_);try simp only[Act.put,Za,Zc,Zb])
  refine Yb ?_;go_wp2_with fail;refine⟨((Zg Qb W).alloc _).drew,?_⟩;have V:Qh (W.alloc (.cells Z6 109)).drew W.heap.size Z6 109:=(Qh.new _ _ _).drew;have D1:Qc Qb W (W.alloc (.cells Z6 109)).drew:=((Zg Qb W).alloc _).drew;generalize(W.alloc (.cells Z6 109)).drew=W1 at V D1⊢;obtain⟨W2,s2,af,C2⟩:=Q0 (P:=prog) (vs:=P0 c) V rfl (Sn c);have R:Qc Qb W W2:=D1.trans C2 (fun k e=>.inr (by omega));have Z:=O R;have ab:=O af;have am:=O (C0.o.aA R);clear V D1 af C2 R;refine Yb ?_;go_wp2_with fail;refine⟨Z.o,?_⟩;refine Km ?_;go_wp2_with fail;refine Ky ?_;clear s2;go_wp2_with fail;have S2:=O (S0.o.aB Z.o);obtain⟨g0,g1,g2,g3,g4,g5,g6,g7,g8,g9,ba,bb,bc,bd⟩:=(show Xx W2.drew w.heap.size s from S2.o.aB (Zg Qb W2).drew).cells;have NE:Hi (w.heap.size≠W.heap.size):=O (fun e=>by have:=a7.o;omega);refine ZC [0,1,102,103,104,105,6,7,208,9,10,211,12,13,314] (fun K=>Qc (fun k=>k=W.heap.size) (W2) K) ?_;simp only[Z8,Zf,Ze,Zd];iterate 2 (refine Xe (h:=?_))
  (refine Qy (h:=?_);try simp only[Act.put,Za,Zc,Zb]);iterate 1 (refine Qy (by kernel_rfl) (fun K hv=>by(obtain⟨z0,z1,z2,z3,z4,z5,z6,z7,z8,z9,bh,bi,bj,bk⟩:=(show Xx K w.heap.size s from hv.blk S2.o NE.o).cells);go_simp;try rfl) ?_;try simp only[Act.put,Za,Zc,Zb])
  (refine Qy (h:=?_);try simp only[Act.put,Za,Zc,Zb]);iterate 1 (refine Qy (by kernel_rfl) (fun K hv=>by(obtain⟨z0,z1,z2,z3,z4,z5,z6,z7,z8,z9,bh,bi,bj,bk⟩:=(show Xx K w.heap.size s from hv.blk S2.o NE.o).cells);go_simp;try rfl) ?_;try simp only[Act.put,Za,Zc,Zb])
  iterate 2 (refine Xe (h:=?_))
  clear g0 g1 g2 g3 g4 g5 g6 g7 g8 g9 ba bb bc bd;obtain⟨e0,I,e2,e3,e4,e5,e6,e7,e8,e9,d,q,u,z,B⟩:=Dm ab.o;have f3:=ab.o.frozen 3;have f4:=ab.o.frozen 4;have f5:=ab.o.frozen 5;refine Yb ?_;go_wp2_with fail;have B3:Qh (((W2.setCell ⟨W.heap.size,3,none⟩ (ZU s.real.f)).setCell ⟨W.heap.size,4,none⟩ (ZU s.real.l)).setCell ⟨W.heap.size,5,none⟩ (ZU s.real.r)).drew W.heap.size (P0 ⟨{c.sp with real:=s.real},c.d⟩) 109:=(((ab.o.set 3 _).set 4 _).set 5 _).drew;have D3:Qc (fun k=>k=W.heap.size) W2 (((W2.setCell ⟨W.heap.size,3,none⟩ (ZU s.real.f)).setCell ⟨W.heap.size,4,none⟩ (ZU s.real.l)).setCell ⟨W.heap.size,5,none⟩ (ZU s.real.r)).drew:=((((Zg (fun k=>k=W.heap.size) W2).setCell _ (.inl rfl)).setCell _ (.inl rfl)).setCell _ (.inl rfl)).drew;refine⟨D3,?_⟩;generalize(((W2.setCell ⟨W.heap.size,3,none⟩ (ZU s.real.f)).setCell ⟨W.heap.size,4,none⟩ (ZU s.real.l)).setCell ⟨W.heap.size,5,none⟩ (ZU s.real.r)).drew=W3 at B3 D3⊢;have ac:=O B3;have D3:=O D3;clear B3 e0 I e2 e3 e4 e5 e6 e7 e8 e9 d q u z B f3 f4 f5;iterate 2 (refine Xe (h:=?_))
  obtain⟨e0,I,e2,e3,e4,e5,e6,e7,e8,e9,d,q,u,z,B⟩:=Dm ac.o;have f6:=ac.o.frozen 6;have f7:=ac.o.frozen 7;have f8:=ac.o.frozen 8;refine Yb ?_;go_wp2_with fail;have B4:Qh (((W3.setCell ⟨W.heap.size,6,none⟩ (ZU s.share.f)).setCell ⟨W.heap.size,7,none⟩ (ZU s.share.l)).setCell ⟨W.heap.size,8,none⟩ (ZU s.share.r)) W.heap.size (P0 ⟨{c.sp with real:=s.real,share:=s.share},c.d⟩) 109:=(((ac.o.set 6 _).set 7 _).set 8 _);have D4:Qc (fun k=>k=W.heap.size) W2 (((W3.setCell ⟨W.heap.size,6,none⟩ (ZU s.share.f)).setCell ⟨W.heap.size,7,none⟩ (ZU s.share.l)).setCell ⟨W.heap.size,8,none⟩ (ZU s.share.r)):=((((D3.o).setCell _ (.inl rfl)).setCell _ (.inl rfl)).setCell _ (.inl rfl));refine⟨D4,?_⟩;generalize(((W3.setCell ⟨W.heap.size,6,none⟩ (ZU s.share.f)).setCell ⟨W.heap.size,7,none⟩ (ZU s.share.l)).setCell ⟨W.heap.size,8,none⟩ (ZU s.share.r))=W4 at B4 D4⊢;have ae:=O B4;have D4:=O D4;clear B4 e0 I e2 e3 e4 e5 e6 e7 e8 e9 d q u z B f6 f7 f8;iterate 2 (refine Xe (h:=?_))
  obtain⟨e0,I,e2,e3,e4,e5,e6,e7,e8,e9,d,q,u,z,B⟩:=Dm ae.o;have f9:=ae.o.frozen 9;have a8:=ae.o.frozen 10;have a9:=ae.o.frozen 11;refine Km ?_;go_wp2_with fail;have B5:Qh (((W4.setCell ⟨W.heap.size,9,none⟩ (ZU s.aN.f)).setCell ⟨W.heap.size,10,none⟩ (ZU s.aN.l)).setCell ⟨W.heap.size,11,none⟩ (ZU s.aN.r)) W.heap.size (P0 ⟨c.sp.aK s,c.d⟩) 109:=(((ae.o.set 9 _).set 10 _).set 11 _);have D5:Qc (fun k=>k=W.heap.size) W2 (((W4.setCell ⟨W.heap.size,9,none⟩ (ZU s.aN.f)).setCell ⟨W.heap.size,10,none⟩ (ZU s.aN.l)).setCell ⟨W.heap.size,11,none⟩ (ZU s.aN.r)):=((((D4.o).setCell _ (.inl rfl)).setCell _ (.inl rfl)).setCell _ (.inl rfl));generalize(((W4.setCell ⟨W.heap.size,9,none⟩ (ZU s.aN.f)).setCell ⟨W.heap.size,10,none⟩ (ZU s.aN.l)).setCell ⟨W.heap.size,11,none⟩ (ZU s.aN.r))=W5 at B5 D5⊢;have an:=O B5;have D5:=O D5;clear B5 e0 I e2 e3 e4 e5 e6 e7 e8 e9 d q u z B f9 a8 a9;refine Ky ?_;obtain⟨r,hr⟩:=Zx (c.sp.aK s);have HR:=O hr;have a2:=O (am.o.trans D5.o fun k e=>.inr (by have:=C0.o.size;omega));rw[←hr]at an aj EE;clear hr;obtain⟨e0,I,e2,e3,e4,e5,e6,e7,e8,e9,d,q,u,z,B⟩:=Dm an.o;dsimp only at e0 I e2 e3 e4 e5 e6 e7 e8 e9 d q u z B;go_wp2_with fail;refine Zz (aj.o _) ?_;intro w6 c6;have aa:=O (a2.o.aA c6);have a3:=O (c6.blk an.o (fun h=>h));have S6:=O (c6.blk (D5.o.blk S2.o NE.o) (fun h=>h));clear c6 e0 I e2 e3 e4 e5 e6 e7 e8 e9 d q u z B;by_cases hm:r.mayE=0
  ·have E:=O (show h.aG s=0 by rw[EE.o,if_neg (by omega)]);have hd:decide (r.mayE=0)=true:=by simpa using hm
   have ao:(r.mayE==0)=true:=by simpa using hm
   rw[hm]at hd ao⊢;clear hm hd ao;go_wp2_with fail;have ap:=O (show Qh w6.drew W.heap.size (P0 ⟨c.sp.aK s,c.d⟩) 109 by rw[←HR.o];exact a3.o.drew);obtain⟨e0,I,e2,e3,e4,e5,e6,e7,e8,e9,d,q,u,z,B⟩:=Dm ap.o;dsimp only[Yk.aK]at e0 I e2 e3 e4 e5 e6 e7 e8 e9 d q u z B;obtain⟨g0,_⟩:=(show Xx w6.drew w.heap.size s from Xx.aB S6.o (Zg Qb w6).drew).cells;obtain⟨z0,z1⟩:=Q4 ((aa.o.blk ag.o (fun h=>h)).drew);have lk:=a6.o w6.drew aa.o.drew;unfold P0 at lk;refine ZB [0,1,2,3,4,5,6,7,8] ?_;simp only[Z8,Zf,Ze,Zd];iterate 9 (refine Jq (h:=?_))
   clear e0 I e2 e3 e4 e5 e6 e7 e8 e9 d q u z B g0 z0 z1 lk;refine Jo ?_;simp only[Act.put,Za,Zc,Zb];cases bf:Qr5 (s.real.f:Int) (s.real.l:Int) (s.real.r:Int) (s.share.f:Int) (s.share.l:Int) (s.share.r:Int) (s.aN.f:Int) (s.aN.l:Int) (s.aN.r:Int) (c.sp.real.f:Int) (c.sp.real.l:Int) (c.sp.real.r:Int) (c.sp.share.f:Int) (c.sp.share.l:Int) (c.sp.share.r:Int) (c.sp.aN.f:Int) (c.sp.aN.l:Int) (c.sp.aN.r:Int)with
   |false=>
    have SM:=O (a4.o (by
     obtain⟨q1,q2,q3,q4,q5,q6,q7,q8,q9⟩:=Qlb bf;unfold Qfo Qc0;simp only[Zw,beq_iff_eq];exact⟨⟨q1.symm,q2.symm,q3.symm⟩,⟨q4.symm,q5.symm,q6.symm⟩,q7.symm,q8.symm,q9.symm⟩))
    have U:=O (ar.o w6.drew aa.o.drew SM.o);go_wp2_with fail;go_ret;exact⟨by rw[E.o];rfl,U.o⟩
   |true=>
    obtain⟨w8,r8,al,ak⟩:=au.o E.o w6.drew.drew aa.o.drew.drew;have U:=O (Zt al ak);unfold P0 at r8;dsimp only[Yk.aK]at r8;clear al ak;go_wp2_with fail;obtain⟨e0,I,e2,e3,e4,e5,e6,e7,e8,e9,d,q,u,z,B⟩:=Dm ap.o.drew;dsimp only[Yk.aK]at e0 I e2 e3 e4 e5 e6 e7 e8 e9 d q u z B;obtain⟨g0,_⟩:=(show Xx w6.drew.drew w.heap.size s from Xx.aB S6.o (Zg Qb w6).drew.drew).cells;obtain⟨z0,z1⟩:=Q4 ((aa.o.blk ag.o (fun h=>h)).drew.drew);refine ZB [0,1,2,3,4,5,6,207] ?_;simp only[Z8,Zf,Ze,Zd];iterate 7 (refine Jq (h:=?_))
    clear e0 I e2 e3 e4 e5 e6 e7 e8 e9 d q u z B g0 z0 z1;refine J7 ?_;go_wp2_with fail;refine Jo ?_;clear r8;go_wp2;go_ret;exact⟨by rw[E.o];rfl,U.o⟩
  ·have E:=O (show h.aG s=130 by rw[EE.o,if_pos hm]);have hd:decide (r.mayE=0)=false:=by simpa using hm
   have ao:(r.mayE==0)=false:=by simpa using hm
   have U:=O (NO.o w6 aa.o (by rw[E.o];decide));clear hm;go_wp2_with fail;go_ret;exact⟨by rw[E.o];rfl,U.o⟩
end
end
section
variable{A:Tb}{w w1 w2:World}{F:Fp}{b a:Nat}{s:Qf}{N:Nat}{l:Qw}
theorem Yj.owe(h:Yj w F a l):∃B J,Qh w a #[ptr B,J] 107∧∀w1 w2 q o,Qc Qb w w1→Kv w1 (Qn Qb w w1) q o→Qh w2 a #[ptr B,q] 107→Qc (fun k=>k=a) w1 w2→Yj w2 (Qn F w w2) a {l with debt:=o}∧Qc F w w2:=by
 obtain⟨B,J,h⟩:=h;obtain⟨z,G0,R0,K,⟨ab,E,R1,g1,_,d1,s2,s3⟩,d0,s0,s1⟩:=h;have n1:¬E a:=fun c=>d0 a K.2.1 (s2 _ c);have V:∀k,E k→F k:=fun k c=>s1 _ (s2 _ c);have R:F a:=s0 _ K.2.1;have I:Bd E w:=z.sub V;refine⟨B,J,K.1,fun w1 w2 q o u hd Z d=>?_⟩;have U:Qc F w w2:=(u.none (F:=F)).aA (d.sub fun k e=>e▸R);have ac:=u.size;have ae:=d.size;have aa:=z _ R;refine⟨⟨B,q,?_⟩,U⟩;refine Q7 (G:=fun k=>k=a) (H:=fun k=>E k∨Qn Qb w w1 k) ⟨Z,rfl,fun k e=>e▸Z.lt⟩ ?_ ?_ (fun k e=>.inl (e▸R)) ?_ (z.ext U)
 ·refine Q7 (G:=E) (H:=Qn Qb w w1) ((Lm B l.pk l.bt l.q).aB ((Lm B l.pk l.bt l.q).aB g1 u (Jl.none _)) d (fun k c e=>n1 (e▸c))) (Y6 ((Kv.good q o).aB hd d (fun k c e=>by have:=(Qr k).1 c;omega)) (fun k c=>by have:=(Qr k).1 c;omega)) ?_ (fun k c=>.inl c) (fun k c=>.inr c) ?_;·intro k c he;have:=I k c;have:=(Qr k).1 he;omega
  ·exact fun k c=>c.elim (I.later u |>.later d k) (fun c=>by have:=(Qr k).1 c;omega)
 ·rintro k rfl(c|c);·exact n1 c
  ·have:=(Qr k).1 c;omega
 ·exact fun k c=>c.elim (fun c=>.inl (V k c)) (fun c=>.inr (by have:=(Qr k).1 c;omega))
theorem Qfr(u:(s.aI.map Qw.id).Nodup){i:Int}{l:Qw}(q:s.leaf i=some l)(o:Option Ju):
  s.aR {l with debt:=o}={s with aI:=s.aI.map fun x=>if x.id=i then{x with debt:=o}else x}:=by
 have d:Hn Qw.id i s.aI=some l:=q;obtain⟨B,k⟩:=Y3 d;unfold Qf.aR;congr 1;refine List.map_congr_left fun x z=>?_;dsimp only;rw[k];by_cases c:x.id=i;·rw[if_pos c,if_pos c];rw[Zs ((Ls u z c).symm.trans d),k]
 ·rw[if_neg c,if_neg c]
theorem Qh7{i:Int}(c:s.leaf i=none)(o:Option Ju):(s.aI.map fun x=>if x.id=i then{x with debt:=o}else x)=s.aI:=by
 unfold Qf.leaf at c;rw[List.find?_eq_none]at c
 conv=>rhs;rw[←List.map_id s.aI]
 refine List.map_congr_left fun x d=>?_;have:=c x d;rw[if_neg (by simpa using this)];rfl
end
def Tb.put(A:Tb)(i:Int)(q:Nat):Tb:={A with ad:=fun j=>if j=i then q else A.ad j}
section
variable{A:Tb}{w w1 w2:World}{F:Fp}{b:Nat}{s:Qf}{N:Nat}
theorem Qi.newLeaf(h:Qi A w F b s){l:Qw}{q:Nat}(hn:s.leaf l.id=none)(c:Qc Qb w w1)(hl:Yj w1 (Qn Qb w w1) q l):
  ∃w2,(Instr.mapUpdate 93 (.map (some A.m)) (ZI l.id) (ptr q)).run prog w1=.ok () w2∧Qi (A.put l.id q) w2 (Qn F w w2) b {s with aI:=s.aI++[l]}∧Qc F w w2:=by
 have R:=(Qi.obj A).bd h;obtain⟨L,Z,hs⟩:=h;obtain⟨G,z,V,_,B⟩:=Xv 2 (Ua A b L s) rfl hs;obtain⟨w2,E,U,d⟩:=X6 (P:=prog) (z.map.aB c (fun h=>h)) underlying93 underlying3 l.id (ptr q);have J:=z.aB Yj.obj c (Jl.none G);have K:=J.put Yj.obj hl (fun k a b'=>by
  have h1:=((Qr k).1 a).1;have:=R k (V k b');omega) (by rw[←So Z z.nodup];exact hn) U d
 have I:Qc G w w2:=(c.none (F:=G)).aA (d.sub fun k u=>u▸z.at_);have h5:=B w2 (fun w G=>Yn Qw.id Yj w G A.m (A.put l.id q).ad (L++[l])) I
  (K.more (fun k u=>u.elim .inl (fun u=>.inr ⟨((Qr k).1 u).1,Nat.lt_of_lt_of_le ((Qr k).1 u).2 d.size⟩)) (z.bd.ext I))
 exact⟨w2,E,⟨L++[l],Z.append_right _,h5⟩,I.sub V⟩
theorem Yj.made{q d r:Nat}{u:Value}{l:Qw}{w3 w4}(J:Qc Qb w w1)(R:Jz w2 d r l.pk l.bt l.q)(h1:w1.heap.size≤d∧d<w2.heap.size)(h2:w1.heap.size≤r∧r<w2.heap.size)(E:Qc Qb w2 w3)(K:Kv w3 (Qn Qb w2 w3) u l.debt)
  (B:Qc Qb w3 w4) (I:Qh w4 q #[ptr d,u] 107) (U:w3.heap.size≤q):Yj w4 (Qn Qb w w4) q l:=by
 have s1:=J.size;have s3:=E.size;have s4:=B.size;have Z:=I.lt;have V:Jz w4 d r l.pk l.bt l.q:=(R.aB E (fun h=>h) (fun h=>h)).aB B (fun h=>h) (fun h=>h);have z:Bd (Qn Qb w w4) w4:=fun k c=>((Qr k).1 c).2;refine⟨d,u,?_⟩;refine Q7 (G:=fun k=>k=q) (H:=fun k=>(k=d∨k=r)∨Qn Qb w2 w3 k) ⟨I,rfl,fun k e=>e▸Z⟩ ?_ ?_ (fun k e=>(Qr k).2 (by omega)) ?_ z
 ·refine Q7 (G:=fun k=>k=d∨k=r) (H:=Qn Qb w2 w3) ⟨r,V,.inl rfl,.inr rfl,fun k e=>by rcases e with e|e<;>omega⟩ (Y6 ((Kv.good u l.debt).aB K B (Jl.none _)) (fun k c=>by have:=(Qr k).1 c;omega)) ?_ (fun k c=>.inl c) (fun k c=>.inr c) ?_;·intro k e c;have:=(Qr k).1 c;rcases e with e|e<;>omega
  ·intro k c;rcases c with(e|e)|c;·omega
   ·omega
   ·have:=(Qr k).1 c;omega
 ·rintro k rfl((e|e)|c);·omega
  ·omega
  ·have:=(Qr k).1 c;omega
 ·intro k c;rcases c with(e|e)|c;·exact(Qr k).2 (by omega)
  ·exact(Qr k).2 (by omega)
  ·have:=(Qr k).1 c;exact(Qr k).2 (by omega)
end
section
variable{A:Tb}{w w1 w2:World}{F:Fp}{b:Nat}{s:Qf}{N:Nat}
theorem Kv.ptr{w}{F:Fp}{v:Value}{o:Option Ju}(h:Kv w F v o):∃c,v=.pointer c:=by
 cases o with
 |none=>exact⟨none,h.1⟩
 |some d=>obtain⟨b,rfl,_⟩:=h;exact⟨_,rfl⟩
theorem Cy(h:Qt w F b s)(ok:Xp N s)(c:Yk):
  ZW 59 #[ptr b,Fb c] w (ZI (s.aO c)) fun w'=>Qt w' (Qn F w w') b (s.add c)∧Qc F w w':=by
 obtain⟨A,h⟩:=h;have U:=(Qi.obj A).bd h;obtain⟨W,hW⟩:=Zx (w.alloc (.cells (Z4 c.leaf c) 29));have S0:Hi (Xx W w.heap.size c):=O (by rw[hW];exact Xx.new w c);have C0:Hi (Qc Qb w W):=O (by rw[hW];exact(Zg _ _).alloc _);have hP:=(Qi.obj A).aB h C0.o (Jl.none F);have HN:=O (Ku hP ok.most.1);have NF:Hi (¬F w.heap.size):=O (fun hk=>by have:=U _ hk;omega);obtain⟨a0,a1,a2,a3,a4⟩:=Ym hP.drew.blk;obtain⟨g0,g1,g2,g3,g4,g5,g6,g7,g8,g9,K,R,d,k⟩:=(show Xx W.drew w.heap.size c from S0.o.aB (Zg Qb W).drew).cells;have B:Bd F W:=U.later C0.o;have aa:Hi (∀w' t,Qt w' (Qn F W w') b t→Qc F W w'→Qt w' (Qn F w w') b t∧Qc F w w'):=O (fun w' t h1 h2=>by
  have cc:Qc F w w':=C0.o.none.aA h2;exact⟨Qt.obj.more h1 (Ke C0.o.size) (U.ext cc),cc⟩)
 have az:Hi (w.heap.size<W.heap.size):=O (Qh.lt S0.o);have HT:Hi (ZW 102 #[ptr A.tb,Fb c] W.drew (ZI (s.aO c)) fun w'=>Qi A w' (Qn F W w') b {s with tree:=s.tree.add c}∧Qc F W w'):=O (by
  obtain⟨G,hT,_,ab⟩:=hP.drew.treeOf;refine Zz (Qor hT ok.tree c) ?_;rintro w2⟨ba,c2⟩;obtain⟨m1,m2⟩:=ab w2 _ ba c2;exact⟨rfl,m1,m2.aT⟩)
 by_cases Z:s.aO c=0
 ·have ac:s.tree.aO c=0:=Z;obtain⟨q,hq,au,bc,av,i1,_⟩:=ok.mt.add ok.tree ac;have af:=(Ub ac).1;have E:=ok.leaf_none (Ub ac).2.2.1;have aq:=(Md af).1;have ay:Hi (∀w2,Qi A w2 (Qn F W w2) b {s with tree:=s.tree.add c}→Qc F W w2→ZW 103 #[ptr A.pb,Fb c] w2.drew (.bool true) fun w'=>Qi A w' (Qn F W w') b {s with tree:=s.tree.add c,pick:=s.pick.put c}∧Qc F W w'∧Qc (Qn F W w2) w2 w'):=O (by
   intro w2 h2 c2;obtain⟨G,⟨AP,a9⟩,_,ab⟩:=h2.drew.pickOf;refine Zz (Qpl a9 c i1 av hq au (by omega)) ?_;rintro w3⟨a8,c3⟩;obtain⟨m1,m2⟩:=ab w3 _ a8 c3;obtain⟨n1,n2⟩:=(Qi.obj A).two (w1:=w2) m1 B c2 m2.aT;exact⟨rfl,n1,n2,m2.aT⟩)
  have aw:Hi (c.leaf=false→s.add c={s with tree:=s.tree.add c,pick:=s.pick.put c}):=O (fun hl=>by unfold Qf.add;rw[if_pos Z,hl];rfl);have ag:Hi (c.leaf=true→s.add c={s with tree:=s.tree.add c,pick:=s.pick.put c,aI:=s.aI++[⟨c.id,c.pk.toNat,c.bt.toNat,[],Xl c.real⟩]}):=O (fun hl=>by unfold Qf.add;rw[if_pos Z,hl];rfl);have aj:Hi (c.leaf=true→∃I z:Nat,c.pk=(I:Int)∧c.bt=(z:Int)∧1≤I∧I≤4096∧1≤z∧z≤16777216):=O (fun hl=>by
   obtain⟨k1,k2,k3,k4⟩:=Qam af hl;exact⟨c.pk.toNat,c.bt.toNat,by omega,by omega,by omega,by omega,by omega,by omega⟩)
  have a5:Hi (∀w3 w4 V I z pv,Qi A w3 (Qn F W w3) b {s with tree:=s.tree.add c,pick:=s.pick.put c}→Qc F W w3→Jz w4 (w3.heap.size+1) w3.heap.size I z []→Qc Qb w3 w4→Kv V (Qn Qb w4 V) (.pointer pv) (Xl c.real)→Qc Qb w4 V→w3.heap.size+1<w4.heap.size→
    ∃w6,(Instr.mapUpdate 93 (.map (some A.m)) (ZI c.id) (ZP V.heap.size)).run prog (V.alloc (.cells #[ptr (w3.heap.size+1),.pointer pv] 107))=.ok () w6∧
     Qt w6 (Qn F W w6) b {s with tree:=s.tree.add c,pick:=s.pick.put c,aI:=s.aI++[⟨c.id,I,z,[],Xl c.real⟩]}∧Qc F W w6):=O (by
   intro w3 w4 V I z pv h3 c3 hQ a6 hD am Xg;have an:Qc Qb V (V.alloc (.cells #[ptr (w3.heap.size+1),.pointer pv] 107)):=(Zg _ _).alloc _;have a7:Qh (V.alloc (.cells #[ptr (w3.heap.size+1),.pointer pv] 107)) V.heap.size #[ptr (w3.heap.size+1),.pointer pv] 107:=Qh.new _ _ _;generalize V.alloc (.cells #[ptr (w3.heap.size+1),.pointer pv] 107)=bi at*;have hL:=Yj.made (w:=w3) (w1:=w3) (l:=⟨c.id,I,z,[],Xl c.real⟩) (Zg _ _) hQ ⟨by omega,Xg⟩ ⟨by omega,by omega⟩ am hD an a7 (Zv _);obtain⟨w6,r6,h6,c6⟩:=h3.newLeaf (l:=⟨c.id,I,z,[],Xl c.real⟩) E ((a6.aA am).aA an) hL;obtain⟨n1,n2⟩:=(Qi.obj _).two h6 B c3 c6;exact⟨w6,r6,⟨_,n1⟩,n2⟩)
  have ax:=O (fun w=>Qgx c.real aq w);rw[Z]at HT;have bh:=O U;have E0:=O Z;rw[Z];unfold Fb ptr cV at*;clear h ok hP ac hq au bc av i1 af E aq U B Z;go_enter func59,ntmps59;go_wp2_with fail;rw[←hW];clear hW;refine Zy HN ?_;rintro w1 rfl;go_wp2_with fail;refine ZB [0,1,2,3,4,205,206] ?_;simp only[Z8,Zf,Ze,Zd];iterate 5 (refine Jq (h:=?_))
  clear a0 a1 a2 a3 a4 g0 g1 g2 g3 g4 g5 g6 g7 g8 g9 K R d k;refine J7 ?_;go_wp2_with fail;refine Zy HT ?_;rintro w2⟨h2,c2⟩;have H2:=O h2;have C2:=O c2;have S2:Hi (Xx w2 w.heap.size c):=O (c2.blk S0.o NF.o);clear h2 c2;go_wp2_with fail;refine J7 ?_;go_wp2_with fail;refine Jo ?_;go_wp2_with fail;obtain⟨a0,a1,a2,a3,a4⟩:=Ym H2.o.drew.blk;obtain⟨g0,g1,g2,g3,g4,g5,g6,g7,g8,g9,K,R,d,k⟩:=(show Xx w2.drew w.heap.size c from S2.o.aB (Zg Qb w2).drew).cells;refine ZB [0,1,2,3,4,205] ?_;simp only[Z8,Zf,Ze,Zd];iterate 5 (refine Jq (h:=?_))
  clear a0 a1 a2 a3 a4 g0 g1 g2 g3 g4 g5 g6 g7 g8 g9 K R d k;refine J7 ?_;go_wp2_with fail;refine Zz (ay.o w2 H2.o C2.o) ?_;rintro w3⟨h3,c3,al⟩;have H3:=O h3;have C3:=O c3;have S3:Hi (Xx w3 w.heap.size c):=O (al.blk S2.o (fun hk=>hk.elim NF.o (fun hk=>by
   have h1:=az.o;omega)))
  clear h3 c3 al;go_wp2_with fail;refine Jo ?_;have l2:=(show Xx w3 w.heap.size c from S3.o).cells.2.2.1;cases u:c.leaf with
  |false=> have J:Hi (Qt w3 (Qn F w w3) b (s.add c)∧Qc F w w3):=O (aa.o w3 _ (by rw[aw.o u];exact⟨A,H3.o⟩) C3.o);rw[u]at l2;clear u;go_wp2_with fail;go_ret;exact⟨rfl,J.o⟩
  |true=>
   obtain⟨I,z,ar,ap,p1,p2,p3,p4⟩:=aj.o u;have EQ:=O (ag.o u);have HQ:=O (fun w=>Qt7 I z w p1 p2 p3 p4);rw[u]at l2;have ak:Hi (c.pk.toNat=I∧c.bt.toNat=z):=O (⟨by omega,by omega⟩);have ah:=O (Zt ar ap);clear u p1 p2 p3 p4 ar ap;go_wp2_with fail;clear l2;obtain⟨a0,a1,a2,a3,a4⟩:=Ym H3.o.drew.blk;obtain⟨g0,g1,g2,g3,g4,g5,g6,g7,g8,g9,K,R,d,k⟩:=(show Xx w3.drew w.heap.size c from S3.o.aB (Zg Qb w3).drew).cells;rw[ah.o.1]at d;rw[ah.o.2]at k;refine ZC [100,101,102,103,104,105,6,7,8,9,111,112,210,213,14,215,316] (fun wv=>Qc (Qb) (w3) wv) ?_;simp only[Z8,Zf,Ze,Zd];iterate 3 (refine Qy (h:=?_);try simp only[Act.put,Za,Zc,Zb])
   iterate 1 (refine Qy (by kernel_rfl) (fun wv hv=>by(obtain⟨z0,z1,z2,z3,z4⟩:=Ym (hv.blk H3.o.blk (fun h=>h)));go_simp;try rfl) ?_;try simp only[Act.put,Za,Zc,Zb])
   (refine Qy (h:=?_);try simp only[Act.put,Za,Zc,Zb]);iterate 1 (refine Qy (by kernel_rfl) (fun wv hv=>by(obtain⟨z0,z1,z2,z3,z4,z5,z6,z7,z8,z9,bd,be,bf,bg⟩:=(show Xx wv w.heap.size c from hv.blk S3.o (fun h=>h)).cells);go_simp;try rfl) ?_;try simp only[Act.put,Za,Zc,Zb])
   iterate 4 (refine Xe (h:=?_))
   (refine Qy (h:=?_);try simp only[Act.put,Za,Zc,Zb]);iterate 1 (refine Qy (by kernel_rfl) (fun wv hv=>by(obtain⟨z0,z1,z2,z3,z4,z5,z6,z7,z8,z9,bd,be,bf,bg⟩:=(show Xx wv w.heap.size c from hv.blk S3.o (fun h=>h)).cells);go_simp;try rfl) ?_;try simp only[Act.put,Za,Zc,Zb])
   clear a0 a1 a2 a3 a4 g0 g1 g2 g3 g4 g5 g6 g7 g8 g9 K R d k;refine Yb ?_;go_wp2_with fail;refine Zz (HQ.o _) ?_;rintro w4⟨ao,c4⟩;have C4:=O c4.aT;have ai:Hi (Jz w4 (w3.heap.size+1) w3.heap.size I z []):=O (ao);clear ao c4;go_wp2_with fail;refine⟨C4.o,?_⟩;refine Yb ?_;go_wp2_with fail;refine(ax.o _).mono ?_;rintro e V⟨dv,rfl,ae,c5⟩;obtain⟨pv,rfl⟩:=ae.ptr;have C5:=O (C4.o.aA c5);obtain⟨w6,r6,h6,c6⟩:=a5.o w3 w4 V I z pv H3.o C3.o ai.o C4.o ae c5 ai.o.lt.1;have J:=O (aa.o w6 _ h6 c6);clear ae c5 h6 c6;go_wp2_with fail;refine⟨C5.o,?_⟩;refine Xe (h:=?_);refine Yb ?_;go_wp2_with fail;refine⟨C5.o.alloc _,?_⟩;refine Km ?_;go_wp2_with fail;refine Ky ?_;clear r6;go_wp2;go_ret;refine⟨rfl,?_,J.o.2⟩;rw[EQ.o,ak.o.1,ak.o.2];exact J.o.1
 ·have e1:s.tree.add c=s.tree:=Qgd Z;have e2:s.add c=s:=Qem Z;have hd:decide (s.aO c=0)=false:=by simpa using Z
  have bb:(s.aO c==0)=false:=by simpa using Z
  rw[e2];rw[e1]at HT;generalize s.aO c=er at HT hd bb⊢;unfold Fb ptr at*;clear h ok hP e1 e2 Z U B;go_enter func59,ntmps59;go_wp2_with fail;rw[←hW];clear hW;refine Zy HN ?_;rintro w1 rfl;go_wp2_with fail;refine ZB [0,1,2,3,4,205,206] ?_;simp only[Z8,Zf,Ze,Zd];iterate 5 (refine Jq (h:=?_))
  clear a0 a1 a2 a3 a4 g0 g1 g2 g3 g4 g5 g6 g7 g8 g9 K R d k;refine J7 ?_;go_wp2_with fail;refine Zy HT ?_;rintro w2⟨h2,c2⟩;have J:=O (aa.o w2 s ⟨A,h2⟩ c2);clear h2 c2;go_wp2_with fail;refine J7 ?_;go_wp2_with fail;refine Jo ?_;go_wp2;go_ret;exact⟨rfl,J.o⟩
end
section
variable{A:Tb}{w w1 w2:World}{F:Fp}{b a:Nat}{s:Qf}{N:Nat}{l:Qw}
theorem Qfp(h:Qt w F b s)(ok:Xp N s)(c:Yk):
  ZW 66 #[ptr b,Fb c] w (ZI (s.aG c)) fun w'=>Qt w' (Qn F w w') b (s.change c)∧Qc F w w':=by
 obtain⟨A,h⟩:=h;have ah:=(Qi.obj A).bd h;obtain⟨W,hW⟩:=Zx (w.alloc (.cells (Z4 c.leaf c) 29));have S0:Hi (Xx W w.heap.size c):=O (by rw[hW];exact Xx.new w c);have C0:Hi (Qc Qb w W):=O (by rw[hW];exact(Zg _ _).alloc _);have hP:=(Qi.obj A).aB h C0.o (Jl.none F);have HN:=O (Ku hP ok.most.1);have NF:Hi (¬F w.heap.size):=O (fun hk=>by have:=ah _ hk;omega);have ae:Bd F W:=ah.later C0.o;have a5:Hi (w.heap.size<W.heap.size):=O (Qh.lt S0.o);have ab:=O (fun w'(c:Qc Qb W w')=>(Qi.obj A).aB hP c (Jl.none F));have J:Hi (∀w' t,Qt w' (Qn F W w') b t→Qc F W w'→Qt w' (Qn F w w') b t∧Qc F w w'):=O (fun w' t h1 h2=>by
  have cc:Qc F w w':=C0.o.none.aA h2;exact⟨Qt.obj.more h1 (Ke C0.o.size) (ah.ext cc),cc⟩)
 have ai:Hi (∀w',Qc Qb W w'→s.change c=s→Qt w' (Qn F w w') b (s.change c)∧Qc F w w'):=O (fun w' cc e=>by
  rw[e];obtain⟨p1,p2⟩:=Qt.obj.same ⟨A,hP⟩ cc;exact J.o w' _ p1 p2)
 have HG:Hi (∀w',Qc Qb W w'→ZW 23 #[ptr A.tb,ZI c.id] w' (.tuple #[.agg (Es (s.tree.get c.id).sp),.bool (s.tree.at c.id).isSome]) fun af=>Qc Qb w' af):=O (fun w' cc=>by
  obtain⟨G,hT,_⟩:=(ab.o w' cc).treeOf;exact Ob hT c.id)
 have ax:Hi (∀w',Qc Qb W w'→ZW 119 #[ptr A.tb,Fb c] w' (ZI (s.tree.aG c)) fun af=>Qi A af (Qn F W af) b {s with tree:=s.tree.change c}∧Qc F W af):=O (fun w' cc=>by
  obtain⟨G,hT,_,z⟩:=(ab.o w' cc).treeOf;refine Zz (Qe1 hT ok.tree c) ?_;rintro w2⟨ba,c2⟩;obtain⟨m1,m2⟩:=z w2 _ ba c2;have m3:Qc F W w2:=cc.none.aA m2;exact⟨rfl,(Qi.obj A).more m1 (Ke cc.size) (ae.ext m3),m3⟩)
 have ak:Hi (s.aG c=0→(∀w2,Qi A w2 (Qn F W w2) b {s with tree:=s.tree.change c}→Qc F W w2→ZW 120 #[ptr A.pb,Fb c] w2.drew (.bool true) fun w3=>Qi A w3 (Qn F W w3) b {s with tree:=s.tree.change c,pick:=s.pick.aK c}∧Qc F W w3∧Qc (Qn F W w2) w2 w3)∧
   (∀w3,Cl 105 #[cV c.real] w3 fun e I=>∃pv,e=.returned (.pointer pv)∧Kv I (Qn Qb w3 I) (.pointer pv) (Xl c.real)∧Qc Qb w3 I)∧
   (s.leaf c.id=none→s.change c={s with tree:=s.tree.change c,pick:=s.pick.aK c})∧
   (∀l w3,s.leaf c.id=some l→Qi A w3 (Qn F W w3) b {s with tree:=s.tree.change c,pick:=s.pick.aK c}→Qc F W w3→∃qb dv,Qh w3 (A.ad c.id) #[ptr qb,dv] 107∧
    ∀I w5 u ac,Qc Qb w3 I→Qc Qb I w5→Kv w5 (Qn Qb I w5) ac (Xl c.real)→Qh u (A.ad c.id) #[ptr qb,ac] 107→Qc (fun k=>k=A.ad c.id) w5 u→Qt u (Qn F W u) b (s.change c)∧Qc F W u)):=O (fun B=>by
  obtain⟨hm,aq⟩:=L8 B;have ha:=ok.asleep hm;obtain⟨x,q,hx,i1,hq,mt,dd⟩:=ok.mt.aK ok.tree ok.pick aq ha;obtain⟨c1,be,aw⟩:=Gb aq;have bb:=(Md aw).1;have E:s.change c={s with tree:=s.tree.change c,pick:=s.pick.aK c,aI:=s.aI.map fun l=>if l.id=c.id then{l with debt:=Xl c.real}else l}:=by unfold Qf.change;rw[if_pos B]
  refine⟨fun w2 h2 c2=>?_,fun w3=>?_,fun hl=>?_,fun l w3 hl h3 c3=>?_⟩;·obtain⟨G,⟨AP,a9⟩,_,z⟩:=h2.drew.pickOf;refine Zz (Qii a9 ok.pick c i1 hx ha hq) ?_;rintro w3⟨a8,c3⟩;obtain⟨m1,m2⟩:=z w3 _ a8 c3;obtain⟨n1,n2⟩:=(Qi.obj A).two (w1:=w2) m1 ae c2 m2.aT;exact⟨rfl,n1,n2,m2.aT⟩
  ·refine(Qgx c.real bb w3).mono ?_;rintro e I⟨v,rfl,hD,c4⟩;obtain⟨pv,rfl⟩:=Kv.ptr (w:=I) (F:=Qn Qb w3 I) (o:=Xl c.real) hD;exact⟨pv,rfl,hD,c4⟩
  ·rw[E,Qh7 hl]
  ·obtain⟨G,hL,hG,z⟩:=h3.leafOf (i:=c.id) (l:=l) hl;obtain⟨qb,dv,hB,k⟩:=hL.owe;refine⟨qb,dv,hB,fun I w5 u ac ap a6 hD a7 ag=>?_⟩;obtain⟨p1,p2⟩:=k w5 u ac (Xl c.real) (ap.aA a6) ((Kv.good ac _).more hD (Ke ap.size) (fun k hk=>((Qr k).1 hk).2)) a7 ag;obtain⟨q1,q2⟩:=z u {l with debt:=Xl c.real} (Y3 (show Hn Qw.id c.id s.aI=some l from hl)).2 p1 p2;obtain⟨r1,r2⟩:=(Qi.obj A).two q1 ae c3 q2;refine⟨?_,r2⟩;rw[E];have e:=Qfr (s:={s with tree:=s.tree.change c,pick:=s.pick.aK c}) hP.nodup (i:=c.id) (l:=l) hl (Xl c.real);rw[e]at r1;exact⟨A,r1⟩)
 have bd:=O (fun w' t(h':Qi A w' (Qn F W w') b t)=>h'.drew.look1 c.id);have aa:=O (fun w'(cc:Qc Qb W w')=>Qbl (ab.o w' cc) ok c.id);have HA:=O hP.blk;have HE:Hi (s.aG c=if(s.tree.at c.id).isNone then 81 else if 0<s.many c.id then 230 else s.tree.aG c):=O (rfl);have NO:=O (fun(B:s.aG c≠0)=>Sj B);obtain⟨is,am⟩:=Zx ((s.tree.at c.id).isSome);rw[←am]at HG;have ao:=O am;clear am;obtain⟨gs,au⟩:=Zx ((s.tree.get c.id).sp);rw[←au]at HG;clear au;unfold Fb ptr at*;clear h ah;go_enter func66,ntmps66;go_wp2_with fail;rw[←hW];clear hW;refine Zy HN ?_;rintro w1 rfl;go_wp2_with fail;go_cut [5,6] (fun s5 s6 wz=>s6=.bool is∧Qc Qb W wz)
 case first=>
  refine Ui (.lookp 0 (.lookp 1 (.lookp 2 (.lookp 3 (.lookp 4 (.lookp 5 (.fork 6 (.lookp 7 (.lookp 8 (.lookp 9 (.walk 10 (.walk 11 (.walk 12 .nil)))))) 10 (.walk 6 (.look 7 (.look 8 (.lookp 9 (.walk 11 (.walk 12 .nil))))))))))))) (fun wv=>Qc (Qb) (W) wv) Zq (by kernel_rfl) (fun _ _ _ _ _ h=>h) Z0 ?_;simp only[O0,Zf,Ze,Zd];iterate 3 (first|refine Vd (h:=?_)|refine Xi (h:=?_);try simp only[Act.put,Za,Zc,Zb])
  iterate 1 (refine Xi (by kernel_rfl) (fun wv hv=>by(obtain⟨z0,z1,z2,z3,z4⟩:=Ym (hv.blk HA.o (fun h=>h)));go_simp;try rfl) ?_;try simp only[Act.put,Za,Zc,Zb])
  iterate 1 (first|refine Vd (h:=?_)|refine Xi (h:=?_);try simp only[Act.put,Za,Zc,Zb])
  iterate 1 (refine Xi (by kernel_rfl) (fun wv hv=>by(obtain⟨z0,_⟩:=(show Xx wv w.heap.size c from hv.blk S0.o (fun h=>h)).cells);go_simp;try rfl) ?_;try simp only[Act.put,Za,Zc,Zb])
  refine Gn ?_ ?_
  ·go_wp2_with fail;refine Zz (HG.o _ (Zg Qb W).drew) ?_;intro w2 c2;have C2:=O ((Zg Qb W).drew.aA c2);clear c2;go_wp2_with fail;refine⟨C2.o,?_⟩;iterate 3 (first|refine Vd (h:=?_)|refine Xi (h:=?_);try simp only[Act.put,Za,Zc,Zb])
   refine Xt ?_;go_wp2_with fail;refine⟨C2.o.alloc _,?_⟩;obtain⟨W3,s3,al,C3⟩:=Q0 (P:=prog) (vs:=Es gs) (Qh.new w2 Z5 29) rfl (Hl _);have D3:Hi (Qc Qb W W3):=O ((C2.o.alloc _).trans C3 (fun k e=>.inr (by have:=C2.o.size;omega)));clear al C3;refine Xt ?_;go_wp2_with fail;refine⟨D3.o,?_⟩;refine Xt ?_;go_wp2_with fail;refine⟨D3.o,?_⟩;refine U9 ?_;clear s3;go_wp2_with fail;go_meet;exact⟨rfl,D3.o⟩
  ·go_wp2_with fail;refine⟨((Zg Qb W).drew.alloc _),?_⟩;have CA:=O ((Zg Qb W).drew.alloc (.cells Z5 29));have BA:Hi (Qh (W.drew.alloc (.cells Z5 29)) W.heap.size Z5 29):=O (Qh.new W.drew _ _);refine Xt ?_;go_wp2_with fail;refine(HG.o _ CA.o).mono ?_;rintro e w2⟨rfl,c2⟩;obtain⟨W3,s3,al,C3⟩:=Q0 (P:=prog) (vs:=Es gs) (c2.blk BA.o (fun h=>h)) rfl (Hl _);have C2:=O (CA.o.aA c2);have D3:Hi (Qc Qb W W3):=O (C2.o.trans C3 (fun k e=>.inr (by omega)));clear al C3 c2;go_wp2_with fail;refine⟨C2.o,?_⟩;iterate 3 (first|refine Vd (h:=?_)|refine Xi (h:=?_);try simp only[Act.put,Za,Zc,Zb])
   refine Xt ?_;go_wp2_with fail;refine⟨D3.o,?_⟩;refine Xt ?_;go_wp2_with fail;refine⟨D3.o,?_⟩;refine U9 ?_;clear s3;go_wp2_with fail;go_meet;exact⟨rfl,D3.o⟩
 case rest=>
  obtain⟨rfl,cW⟩:=hcut;obtain⟨V,hV⟩:=Zx wc;rw[←hV]at cW⊢;clear hV;have CV:=O cW;clear cW;cases is with
  |false=>
   have E:=O (show s.aG c=81 by
    have h1:=ao.o;rw[HE.o,if_pos (by
     cases hc:s.tree.at c.id with
     |none=>rfl
     |some x=>rw[hc]at h1;cases h1)])
   have d:=O (ai.o V CV.o (NO.o (by rw[E.o];decide)));go_wp2_with fail;go_ret;exact⟨by rw[E.o];rfl,d.o⟩
  |true=>
   have HS:=O (show(s.tree.at c.id).isNone=false by
    have h1:=ao.o;cases hc:s.tree.at c.id with
    |none=>rw[hc]at h1;cases h1
    |some x=>rfl)
   obtain⟨m,av⟩:=Zx (s.many c.id);rw[←av]at HE aa;clear av;obtain⟨g0,_⟩:=(show Xx V w.heap.size c from CV.o.blk S0.o (fun h=>h)).cells;by_cases hm:0<m
   ·have E:=O (show s.aG c=230 by rw[HE.o,HS.o,if_neg (by decide),if_pos hm]);have dm:decide (0<m)=true:=by simpa using hm
    rw[dm]at aa;clear hm dm;go_wp2_with fail;refine Zz (aa.o V CV.o) ?_;intro I c4;have d:=O (ai.o I (CV.o.aA c4) (NO.o (by rw[E.o];decide)));clear c4;go_wp2_with fail;go_ret;exact⟨by rw[E.o];rfl,d.o⟩
   ·have E:=O (show s.aG c=s.tree.aG c by rw[HE.o,HS.o,if_neg (by decide),if_neg hm]);have dm:decide (0<m)=false:=by simpa using hm
    rw[dm]at aa;clear hm dm;go_wp2_with fail;refine Zz (aa.o V CV.o) ?_;intro I c4;have C4:=O (CV.o.aA c4);clear c4 g0;go_wp2_with fail;obtain⟨a0,a1,a2,a3,a4⟩:=Ym (C4.o.drew.blk HA.o (fun h=>h));obtain⟨g0,g1,g2,g3,g4,g5,g6,g7,g8,g9,K,R,U,Z⟩:=(show Xx I.drew w.heap.size c from C4.o.drew.blk S0.o (fun h=>h)).cells;refine ZB [0,1,2,3,4,205,206] ?_;simp only[Z8,Zf,Ze,Zd];iterate 5 (refine Jq (h:=?_))
    clear a0 a1 a2 a3 a4 g0 g1 g2 g3 g4 g5 g6 g7 g8 g9 K R U Z;refine J7 ?_;go_wp2_with fail;refine Zz (ax.o _ C4.o.drew) ?_;rintro w5⟨h5,c5⟩;have H5:=O h5;have C5:=O c5;have S5:Hi (Xx w5 w.heap.size c):=O (c5.blk S0.o NF.o);clear h5 c5;go_wp2_with fail;refine J7 ?_;go_wp2_with fail;refine Jo ?_;by_cases B:s.tree.aG c=0
    ·have HT:=O (ak.o (E.o.trans B));have hd:decide (s.tree.aG c=0)=true:=by simpa using B
     rw[B];rw[B]at hd;have E0:=O (E.o.trans B);clear B hd E;go_wp2_with fail;obtain⟨a0,a1,a2,a3,a4⟩:=Ym H5.o.drew.blk;obtain⟨g0,g1,g2,g3,g4,g5,g6,g7,g8,g9,K,R,U,Z⟩:=(show Xx w5.drew w.heap.size c from S5.o.aB (Zg Qb w5).drew).cells;refine ZB [0,1,2,3,4,205] ?_;simp only[Z8,Zf,Ze,Zd];iterate 5 (refine Jq (h:=?_))
     clear a0 a1 a2 a3 a4 g0 g1 g2 g3 g4 g5 g6 g7 g8 g9 K R U Z;refine J7 ?_;go_wp2_with fail;refine Zz (HT.o.1 w5 H5.o C5.o) ?_;rintro u⟨h6,c6,ag⟩;have H6:=O h6;have C6:=O c6;have S6:Hi (Xx u w.heap.size c):=O (ag.blk S5.o (fun hk=>hk.elim NF.o (fun hk=>by
      have h1:=a5.o;omega)))
     have aj:=O HT.o.2;clear h6 c6 ag;go_wp2_with fail;refine Jo ?_;go_wp2_with fail;obtain⟨a0,a1,a2,a3,a4⟩:=Ym H6.o.drew.blk;obtain⟨g0,g1,g2,g3,g4,g5,g6,g7,g8,g9,K,R,U,Z⟩:=(show Xx u.drew w.heap.size c from S6.o.aB (Zg Qb u).drew).cells;have lk:=H6.o.drew.look1 c.id;cases hl:s.leaf c.id with
     |none=>
      rw[Qae (s:={s with tree:=s.tree.change c,pick:=s.pick.aK c}) hl]at lk;have d:=O (J.o u.drew (s.change c) (by rw[aj.o.2.1 hl];exact⟨A,H6.o.drew⟩) C6.o.drew);clear hl;refine ZB [0,1,2,3,4,5,6,207] ?_;simp only[Z8,Zf,Ze,Zd];iterate 7 (refine Jq (h:=?_))
      clear a0 a1 a2 a3 a4 g0 g1 g2 g3 g4 g5 g6 g7 g8 g9 K R U Z lk;refine J7 ?_;go_wp2_with fail;refine Jo ?_;go_wp2_with fail;go_ret;exact⟨by rw[E0.o];rfl,d.o⟩
     |some l=>
      rw[G7 (s:={s with tree:=s.tree.change c,pick:=s.pick.aK c}) hl]at lk;obtain⟨qb,dv,ar,hk⟩:=aj.o.2.2 l u hl H6.o C6.o;have HK:=O hk;have az:=O ar;have ay:=O aj.o.1;clear hl hk ar;refine ZB [0,1,2,3,4,5,6,207] ?_;simp only[Z8,Zf,Ze,Zd];iterate 7 (refine Jq (h:=?_))
      clear a0 a1 a2 a3 a4 lk;refine J7 ?_;go_wp2_with fail;refine Jo ?_;go_wp2_with fail;refine(ay.o u.drew).mono ?_;rintro e w7⟨pv,rfl,hD,c7⟩;have B7:=O (((Zg Qb u).drew.aA c7).blk az.o (fun h=>h));obtain⟨y0,y1⟩:=Q4 B7.o;have fz:=B7.o.frozen;have d:=O (HK.o u.drew w7 (w7.setCell ⟨A.ad c.id,1,none⟩ (.pointer pv)) (.pointer pv) (Zg Qb u).drew c7 hD (B7.o.set 1 _) ((Zg _ w7).setCell _ (.inl rfl)));have an:=O (J.o _ _ d.o.1 d.o.2);clear hD c7 g0 g1 g2 g3 g4 g5 g6 g7 g8 g9 K R U Z;go_wp2_with fail;go_ret;exact⟨by rw[E0.o];rfl,an.o⟩
    ·have e1:s.tree.change c=s.tree:=Fq B;have e2:s.change c=s:=NO.o (by rw[E.o];exact B);have d:=O (J.o w5 (s.change c) (by rw[e2];have h5:=H5.o;rw[e1]at h5;exact⟨A,h5⟩) C5.o);have hd:decide (s.tree.aG c=0)=false:=by simpa using B
     have bc:(s.tree.aG c==0)=false:=by simpa using B
     generalize s.tree.aG c=er at hd bc E⊢;clear B e1 e2;go_wp2_with fail;go_ret;exact⟨by rw[E.o];rfl,d.o⟩
end
section
variable{A:Tb}{w w1 w2:World}{F:Fp}{b a:Nat}{s:Qf}{N:Nat}{l:Qw}
theorem Qi.openLeaf(h:Qi A w F b s){i:Int}(Z:s.leaf i=some l):∃k d,Qh w (A.ad i) #[ptr k,d] 107∧
  (∃G:Fp,quS k l.pk l.bt l.q w G∧∀w' B,quS k l.pk l.bt B w' (Qn G w w')→Qc G w w'→Qi A w' (Qn F w w') b (s.aR {l with q:=B})∧Qc F w w'∧Qh w' (A.ad i) #[ptr k,d] 107)∧
  (∃G:Fp,Kv w G d l.debt∧∀w' u,Kv w' (Qn G w w') d u→Qc G w w'→Qi A w' (Qn F w w') b (s.aR {l with debt:=u})∧Qc F w w'∧Qh w' (A.ad i) #[ptr k,d] 107):=by
 have V:=(Y3 (show Hn Qw.id i s.aI=some l from Z)).2;obtain⟨K,hL,hK,c⟩:=h.leafOf Z;obtain⟨k,d,E,⟨Gq,gq,sq,nq,pq⟩,⟨Gd,gd,sd,nd,pd⟩⟩:=hL.opn;refine⟨k,d,E,⟨Gq,gq,fun w' B hq z=>?_⟩,⟨Gd,gd,fun w' u hd z=>?_⟩⟩;·obtain⟨I,J⟩:=pq w' B hq z;obtain⟨R,U⟩:=c w' {l with q:=B} V I J;exact⟨R,U,z.blk E nq⟩
 ·obtain⟨I,J⟩:=pd w' u hd z;obtain⟨R,U⟩:=c w' {l with debt:=u} V I J;exact⟨R,U,z.blk E nd⟩
theorem Rz{l1 l2:Qw}(e:l2.id=l1.id):(s.aR l1).aR l2=s.aR l2:=by
 unfold Qf.aR;simp only[List.map_map,e];congr 1;refine List.map_congr_left fun x c=>?_;dsimp only[Function.comp];by_cases c:x.id=l1.id;·simp[c]
 ·simp[c]
theorem Oz{l1:Qw}{i:Int}(c:s.leaf i=some l)(e:l1.id=i):(s.aR l1).leaf i=some l1:=by subst e;have:=Qeo (key:=Qw.id) (x:=l1) (show Hn Qw.id l1.id s.aI=some l from c) l1.id;rw[if_pos rfl]at this;exact this
theorem Qsx{h:Qm}{i:Int}{c:Vm}(d:h.at i=some c):i∈h.map Vm.id:=Z3.2 ⟨c,(Qm.aE d).1,(Qm.aE d).2⟩
theorem Xp.row_len(q:Xp N s)(J:Ol s.row):s.row.length≤64:=by
 have u:=J.length_le_of_subset (l₂:=s.tree.map Vm.id) (fun i E=>by
  obtain⟨⟨x,j,y⟩,B,rfl⟩:=Z3.1 E;obtain⟨l,d,I,_⟩:=(q.row x j y).1 B;obtain⟨k,K,_⟩:=q.at (show s.leaf j=some l from I);obtain⟨c,z,_⟩:=k.sp;rw[K]at z;exact Qsx z)
 simp only[List.length_map]at u;exact Zp u q.tree.many
theorem Qi.row_len(h:Qi A w F b s)(d:Xp N s):s.row.length≤64:=by obtain⟨p,G,_,c⟩:=h.once;exact d.row_len c.1
theorem Qi.qPush(h:Qi A w F b s){i:Int}(hl:s.leaf i=some l)(p:Jr):∃c u,Qh w (A.ad i) #[ptr c,u] 107∧(∃G:Fp,Kv w G u l.debt)∧
  ∀w1,Qc Qb w w1→Cl 107 #[ptr c,.agg (ZL p)] w1 fun e w2=>e=.returned (ZI (D8 l.pk l.bt l.q p))∧
   (D8 l.pk l.bt l.q p≠0→Qc Qb w1 w2)∧
   (D8 l.pk l.bt l.q p=0→Qc F w w2∧Qi A w2 (Qn F w w2) b (s.aR {l with q:=l.q++[p]})∧Qh w2 (A.ad i) #[ptr c,u] 107∧∃r,Jz w2 c r l.pk l.bt (l.q++[p])):=by
 obtain⟨c,u,hB,⟨G,U,B⟩,Z,hd,_⟩:=h.openLeaf hl;refine⟨c,u,hB,⟨Z,hd⟩,fun w1 E=>?_⟩;obtain⟨r,R,g1,g2,g3⟩:=(Lm c l.pk l.bt l.q).aB U E (Jl.none _);by_cases z:D8 l.pk l.bt l.q p=0;·refine Zz (Qsj R p z) ?_;rintro w2⟨V,J,d,I⟩;have K:Qc G w w2:=(E.none (F:=G)).aA (I.sub fun k hk=>by rcases hk with rfl|rfl<;>assumption);have s1:=E.size;have lt:=d.lt;obtain⟨m1,m2,m3⟩:=B w2 (l.q++[p]) ⟨V,d,.inl g1,J.elim (fun e=>.inl (e▸g2)) (fun e=>.inr ⟨by omega,lt.2⟩),((Lm c l.pk l.bt l.q).bd U).ext K⟩ K;exact⟨by rw[z],fun h=>absurd z h,fun _=>⟨m2,m1,m3,V,d⟩⟩
 ·refine Zz (Qsi R p z) ?_;intro w2 I;exact⟨rfl,fun _=>I,fun h=>absurd h z⟩
theorem Qi.noDebt(h:Qi A w F b s){i:Int}(E:s.leaf i=some l){I:Nat}{k:Value}(z:Qh w (A.ad i) #[ptr I,k] 107)(B:l.debt=none):k=.pointer none:=by obtain⟨J,u,d,_,G,q,_⟩:=h.openLeaf E;have e:=z.inj d;injection e with e;injection e with K c;injection c with c;rw[B]at q;rw[c];exact q.1
theorem Qi.debtStep(h:Qi A w F b s){i:Int}(hl:s.leaf i=some l){I:Nat}{u:Value}(V:Qh w (A.ad i) #[ptr I,u] 107){d:Ju}(hd:l.debt=some d):∃q,u=ptr q∧∃G:Fp,Ye w G q d∧
  ∀w' k,Ye w' (Qn G w w') q k→Qc G w w'→Qi A w' (Qn F w w') b (s.aR {l with debt:=some k})∧Qc F w w'∧Qh w' (A.ad i) #[ptr I,u] 107:=by
 obtain⟨aa,J,B,_,G,E,K⟩:=h.openLeaf hl;have e:=V.inj B;injection e with e;injection e with c z;injection c with c;injection c with c;injection c with c _;injection z with z;subst z;subst c;rw[hd]at E;obtain⟨q,hq,Z⟩:=E;subst hq;exact⟨q,rfl,G,Z,fun w' k R U=>K w' (some k) ⟨q,rfl,R⟩ U⟩
theorem Qi.wakeDebt(h:Qi A w F b s){i:Int}(R:s.leaf i=some l){V:Nat}{B:Value}(J:Qh w (A.ad i) #[ptr V,B] 107){d:Ju}(K:l.debt=some d)(hn:d.run.l.length+1<549755813888)(hg:d.got≤Xw)(now:Nat)(hw:now<18446744073709551616)(k:Int):
  ∃q,B=ptr q∧∀w1,Qc Qb w w1→ZW 108 #[ptr q,ZU now,ZI k] w1 (.tuple #[]) fun w2=>Qi A w2 (Qn F w w2) b (s.aR {l with debt:=some (d.wake now k)})∧Qc F w w2∧Qh w2 (A.ad i) #[ptr V,B] 107:=by
 obtain⟨q,U,_⟩:=h.debtStep R J K;refine⟨q,U,fun w1 z=>?_⟩;have h1:=(Qi.obj A).aB h z (Jl.none F);obtain⟨q',c,G,hD,u⟩:=h1.debtStep R (z.blk J (fun h=>h)) K;rw[U]at c;injection c with c;injection c with c;injection c with c _;subst c;refine Zz (Qj6 hD hn hg now hw k) ?_;rintro w2⟨E,Z⟩;obtain⟨m1,m2,m3⟩:=u w2 _ E Z;have I:Qc F w w2:=z.none.aA m2;exact⟨rfl,(Qi.obj A).more m1 (Ke z.size) (((Qi.obj A).bd h).ext I),I,m3⟩
theorem Qi.noteDebt(h:Qi A w F b s){i:Int}(V:s.leaf i=some l){qb q:Nat}(J:Qh w (A.ad i) #[ptr qb,ptr q] 107){d:Ju}(U:l.debt=some d)(hr:s.row.length≤64):
  ∀w1,Qc Qb w w1→ZW 99 #[ptr A.rb,ZI i,ptr q] w1 (.tuple #[]) fun w2=>Qi A w2 (Qn F w w2) b {s with row:=Hj s.row i d}∧Qc F w w2:=by
 intro w1 u;have E:=(Qi.obj A).aB h u (Jl.none F);obtain⟨q',c,G,K,_⟩:=E.debtStep V (u.blk J (fun h=>h)) U;injection c with c;injection c with c;injection c with c _;subst c;obtain⟨H,R,_,k⟩:=E.rowOf;refine Zz (Qkb R K (by omega) i) ?_;rintro w2⟨z,I⟩;obtain⟨Z,m2⟩:=k w2 _ z I;have B:Qc F w w2:=u.none.aA m2;exact⟨rfl,(Qi.obj A).more Z (Ke u.size) (((Qi.obj A).bd h).ext B),B⟩
theorem Qi.pickWake(h:Qi A w F b s){dep:Int→Nat}(U:Qs dep N s.pick)(J:N<549755813000)(i:Int)(now:Nat)(c:now<18446744073709551616):
  ∀w1,Qc Qb w w1→ZW 109 #[ptr A.pb,ZI i,ZU now] w1 (.tuple #[]) fun w2=>Qi A w2 (Qn F w w2) b {s with pick:=s.pick.wake i now}∧Qc F w w2:=by
 intro w1 k;have E:=(Qi.obj A).aB h k (Jl.none F);obtain⟨H,⟨z,I⟩,_,d⟩:=E.pickOf;refine Zz (Qlo I U J i now c) ?_;rintro w2⟨q,B⟩;obtain⟨K,R⟩:=d w2 _ ⟨z,q⟩ B;have u:Qc F w w2:=k.none.aA R;exact⟨rfl,(Qi.obj A).more K (Ke k.size) (((Qi.obj A).bd h).ext u),u⟩
end
section
variable{A:Tb}{w w1 w2:World}{F:Fp}{b a:Nat}{s:Qf}{N:Nat}{l:Qw}
theorem Qlq{p:Jr}(c:s.tree.at p.cls=none):s.aQ p=81:=by unfold Qf.aQ;rw[c]
theorem Qil{p:Jr}{c:Vm}(d:s.tree.at p.cls=some c)(k:c.sp.leaf=false):s.aQ p=162:=by unfold Qf.aQ;rw[d];simp[k]
theorem Qlp{p:Jr}{c:Vm}(u:s.tree.at p.cls=some c)(d:c.sp.leaf=true)(z:s.leaf p.cls=some l)(E:s.most<65536):s.aQ p=if Eo p.len s.most≠0 then Eo p.len s.most else D8 l.pk l.bt l.q p:=by
 unfold Qf.aQ;rw[u];simp only[d,z];rw[if_neg (by simp)];split;·rfl
 ·rename_i k;have q:¬(p.len<1∨65535<p.len):=by
   unfold Eo at k;intro B;apply k;split;·decide
   ·rw[if_pos (by omega)];decide
  unfold D8;rw[if_neg q]
theorem Qbn(h:Qt w F b s)(ok:Xp N s)(hN:N<549755813000)(p:Jr)(now:Nat)(aj:now<18446744073709551616):
  ZW 60 #[ptr b,.agg (ZL p),ZU now] w (ZI (s.aQ p)) fun w'=>Qt w' (Qn F w w') b (s.push p now)∧Qc F w w':=by
 obtain⟨A,h⟩:=h;have ag:=(Qi.obj A).bd h;obtain⟨W,hW⟩:=Zx (w.alloc (.cells (ZL p) 31));have S0:Hi (Qh W w.heap.size (ZL p) 31):=O (by rw[hW];exact Qh.new _ _ _);have C0:Hi (Qc Qb w W):=O (by rw[hW];exact(Zg _ _).alloc _);have hP:=(Qi.obj A).aB h C0.o (Jl.none F);have HN:=O (Ku hP ok.most.1);have NF:Hi (¬F w.heap.size):=O (fun hk=>by have:=ag _ hk;omega);have ai:Bd F W:=ag.later C0.o;have bp:Hi (w.heap.size<W.heap.size):=O (Qh.lt S0.o);have ah:=O (fun w'(c:Qc Qb W w')=>(Qi.obj A).aB hP c (Jl.none F));have K:Hi (∀w' t,Qt w' (Qn F W w') b t→Qc F W w'→Qt w' (Qn F w w') b t∧Qc F w w'):=O (fun w' t z h2=>by
  have cc:Qc F w w':=C0.o.none.aA h2;exact⟨Qt.obj.more z (Ke C0.o.size) (ag.ext cc),cc⟩)
 have R:Hi (∀w',Qc Qb W w'→s.aQ p≠0→Qt w' (Qn F w w') b (s.push p now)∧Qc F w w'):=O (fun w' cc e=>by
  rw[Qnm e];obtain⟨p1,p2⟩:=Qt.obj.same ⟨A,hP⟩ cc;exact K.o w' _ p1 p2)
 have HG:Hi (∀w',Qc Qb W w'→ZW 23 #[ptr A.tb,ZI p.cls] w' (.tuple #[.agg (Es (s.tree.get p.cls).sp),.bool (s.tree.at p.cls).isSome]) fun bo=>Qc Qb w' bo):=O (fun w' cc=>by
  obtain⟨G,hT,_⟩:=(ah.o w' cc).treeOf;exact Ob hT p.cls)
 have az:=O (fun w'=>Rn p s.most w');have EM:Hi (Cp p s.most=Eo p.len s.most):=O (rfl);have HA:=O hP.blk;obtain⟨is,au⟩:=Zx ((s.tree.at p.cls).isSome);rw[←au]at HG;have ax:=O au;clear au;obtain⟨gs,ar⟩:=Zx ((s.tree.get p.cls).sp);rw[←ar]at HG;have be:=O ar;clear ar;have OK:=O ok;have HP:=O hP;have I:=O ai;have an:=O hN;have aa:=O aj;clear h ag ok hP ai hN aj;go_enter func60,ntmps60;go_wp2_with fail;rw[←hW];clear hW;refine Zy HN ?_;rintro w1 rfl;go_wp2_with fail;go_cut [7,8] (fun s7 s8 wz=>(∃r,s7=ZP r∧Qh wz r (Es gs) 29)∧s8=.bool is∧Qc Qb W wz)
 case first=>
  refine Ui (.lookp 0 (.lookp 1 (.lookp 2 (.lookp 3 (.lookp 4 (.lookp 5 (.fork 6 (.lookp 7 (.lookp 8 (.lookp 9 (.walk 10 (.walk 11 (.walk 12 .nil)))))) 10 (.walk 6 (.look 7 (.look 8 (.lookp 9 (.walk 11 (.walk 12 .nil))))))))))))) (fun wv=>Qc (Qb) (W) wv) Zq (by kernel_rfl) (fun _ _ _ _ _ h=>h) Z0 ?_;simp only[O0,Zf,Ze,Zd];iterate 3 (first|refine Vd (h:=?_)|refine Xi (h:=?_);try simp only[Act.put,Za,Zc,Zb])
  iterate 1 (refine Xi (by kernel_rfl) (fun wv hv=>by(obtain⟨z0,z1,z2,z3,z4⟩:=Ym (hv.blk HA.o (fun h=>h)));go_simp;try rfl) ?_;try simp only[Act.put,Za,Zc,Zb])
  iterate 1 (first|refine Vd (h:=?_)|refine Xi (h:=?_);try simp only[Act.put,Za,Zc,Zb])
  iterate 1 (refine Xi (by kernel_rfl) (fun wv hv=>by(obtain⟨z0,z1,_⟩:=(X9 (hv.blk S0.o (fun h=>h))));go_simp;try rfl) ?_;try simp only[Act.put,Za,Zc,Zb])
  refine Gn ?_ ?_
  ·go_wp2_with fail;refine Zz (HG.o _ (Zg Qb W).drew) ?_;intro w2 c2;have C2:=O ((Zg Qb W).drew.aA c2);clear c2;go_wp2_with fail;refine⟨C2.o,?_⟩;iterate 3 (first|refine Vd (h:=?_)|refine Xi (h:=?_);try simp only[Act.put,Za,Zc,Zb])
   refine Xt ?_;go_wp2_with fail;refine⟨C2.o.alloc _,?_⟩;obtain⟨W3,s3,ac,C3⟩:=Q0 (P:=prog) (vs:=Es gs) (Qh.new w2 Z5 29) rfl (Hl _);have D3:Hi (Qc Qb W W3):=O ((C2.o.alloc _).trans C3 (fun k e=>.inr (by have:=C2.o.size;omega)));have al:=O ac;clear ac C3;refine Xt ?_;go_wp2_with fail;refine⟨D3.o,?_⟩;refine Xt ?_;go_wp2_with fail;refine⟨D3.o,?_⟩;refine U9 ?_;clear s3;go_wp2_with fail;go_meet;exact⟨⟨_,rfl,al.o⟩,rfl,D3.o⟩
  ·go_wp2_with fail;refine⟨((Zg Qb W).drew.alloc _),?_⟩;have CA:=O ((Zg Qb W).drew.alloc (.cells Z5 29));have BA:Hi (Qh (W.drew.alloc (.cells Z5 29)) W.heap.size Z5 29):=O (Qh.new W.drew _ _);refine Xt ?_;go_wp2_with fail;refine(HG.o _ CA.o).mono ?_;rintro e w2⟨rfl,c2⟩;obtain⟨W3,s3,ac,C3⟩:=Q0 (P:=prog) (vs:=Es gs) (c2.blk BA.o (fun h=>h)) rfl (Hl _);have C2:=O (CA.o.aA c2);have D3:Hi (Qc Qb W W3):=O (C2.o.trans C3 (fun k e=>.inr (by omega)));have al:=O ac;clear ac C3 c2;go_wp2_with fail;refine⟨C2.o,?_⟩;iterate 3 (first|refine Vd (h:=?_)|refine Xi (h:=?_);try simp only[Act.put,Za,Zc,Zb])
   refine Xt ?_;go_wp2_with fail;refine⟨D3.o,?_⟩;refine Xt ?_;go_wp2_with fail;refine⟨D3.o,?_⟩;refine U9 ?_;clear s3;go_wp2_with fail;go_meet;exact⟨⟨_,rfl,al.o⟩,rfl,D3.o⟩
 case rest=>
  obtain⟨⟨r,rfl,hR⟩,rfl,cW⟩:=hcut;obtain⟨V,hV⟩:=Zx wc;rw[←hV]at cW hR⊢;clear hV;have CV:=O cW;clear cW;cases is with
  |false=>
   have E:=O (show s.aQ p=81 by
    have z:=ax.o;cases hc:s.tree.at p.cls with
    |none=>exact Qlq hc
    |some x=>rw[hc]at z;cases z)
   have u:=O (R.o V CV.o (by rw[E.o];decide));clear hR;go_wp2_with fail;go_ret;exact⟨by rw[E.o];rfl,u.o⟩
  |true=>
   obtain⟨c,hc,bm⟩:∃c,s.tree.at p.cls=some c∧gs=c.sp:=by
    have z:=ax.o;cases hc:s.tree.at p.cls with
    |none=>rw[hc]at z;cases z
    |some x=>exact⟨x,rfl,by rw[be.o,Qda _ hc]⟩
   subst bm;obtain⟨y0,y1,y2,_⟩:=(show Xx V r c.sp from hR).cells;cases B:c.sp.leaf with
   |false=> have E:Hi (s.aQ p=162):=O (Qil hc B);have u:=O (R.o V CV.o (by rw[E.o];decide));rw[B]at y2;clear hR hc B y0 y1;go_wp2_with fail;go_ret;exact⟨by rw[E.o];rfl,u.o⟩
   |true=>
    obtain⟨l,hl⟩:=OK.o.lv _ _ hc B;have E:=O (Qlp hc B hl OK.o.most.2);rw[B]at y2;clear hR hc B y0 y1;go_wp2_with fail;clear y2;obtain⟨a0,a1,a2,a3,a4⟩:=Ym (CV.o.drew.blk HA.o (fun h=>h));obtain⟨U,Z,g2,g3⟩:=X9 (CV.o.drew.blk S0.o (fun h=>h));refine ZB [0,1,2,3,4,205,206] ?_;simp only[Z8,Zf,Ze,Zd];iterate 5 (refine Jq (h:=?_))
    clear a0 a1 a2 a3 a4 U Z g2 g3;refine J7 ?_;go_wp2_with fail;refine Zz (az.o _) ?_;intro w4 c4;rw[EM.o];have C4:=O (CV.o.drew.aA c4);clear c4;go_wp2_with fail;refine J7 ?_;go_wp2_with fail;refine Jo ?_;by_cases h0:Eo p.len s.most=0
    ·have E1:=O (show s.aQ p=D8 l.pk l.bt l.q p by rw[E.o,if_neg (by rw[h0];decide)]);rw[h0];clear h0;go_wp2_with fail;obtain⟨qb,dv,ba,⟨Gd,bl⟩,ae⟩:=HP.o.qPush hl p;have bj:=O ae;have bg:=O ba;have HL:=O hl;have lk:=(ah.o _ C4.o.drew).look1 p.cls;rw[G7 hl]at lk;obtain⟨a0,a1,a2,a3,a4⟩:=Ym (C4.o.drew.blk HA.o (fun h=>h));obtain⟨U,Z,g2,g3⟩:=X9 (C4.o.drew.blk S0.o (fun h=>h));clear ba bl ae hl;refine ZB [0,1,2,3,4,5,6,207] ?_;simp only[Z8,Zf,Ze,Zd];iterate 7 (refine Jq (h:=?_))
     clear a0 a1 a2 a3 a4 U Z g2 g3 lk;refine J7 ?_;go_wp2_with fail;refine Jo ?_;go_wp2_with fail;obtain⟨y0,y1⟩:=Q4 (C4.o.drew.drew.blk bg.o (fun h=>h));obtain⟨U,Z,g2,g3⟩:=X9 (C4.o.drew.drew.blk S0.o (fun h=>h));refine ZB [0,1,2,3,4,205,206] ?_;simp only[Z8,Zf,Ze,Zd];iterate 5 (refine Jq (h:=?_))
     clear y0 y1 U Z g2 g3;refine J7 ?_;go_wp2_with fail;refine Zz (bj.o _ C4.o.drew.drew) ?_;rintro w5⟨bd,ak⟩;have bh:=O bd;have a6:=O ak;clear bd ak;go_wp2_with fail;refine J7 ?_;go_wp2_with fail;refine Jo ?_;by_cases z:D8 l.pk l.bt l.q p=0
     ·have E0:=O (E1.o.trans z);have PS:=O (Ct (now:=now) E0.o HL.o);obtain⟨c5,h5,a8,rq,bb⟩:=a6.o z;have H5:=O h5;have C5:=O c5;have af:=O a8;have J:=O (Qin bb);obtain⟨n1,av⟩:=Zx ((l.q++[p]).length);rw[←av]at J;have a5:=O av;rw[z];obtain⟨y0,y1⟩:=Q4 af.o;clear z h5 c5 a8 bb av;by_cases hq:l.q=[]
      ·have hz:n1=1:=by rw[a5.o,hq];rfl
       subst hz;rw[show((1:Nat):Int)=1 from rfl]at J;have a7:=O (PS.o.trans (if_neg (by simpa using hq)));clear hq;go_wp2_with fail;refine Zy J ?_;rintro w6 rfl;have am:Hi (l.id=p.cls):=O ((Y3 (show Hn Qw.id p.cls s.aI=some l from HL.o)).2);have ay:Hi ((s.aR {l with q:=l.q++[p]}).leaf p.cls=some {l with q:=l.q++[p]}):=O (Oz HL.o am.o);cases hd:l.debt with
       |none=>
        have aq:dv=.pointer none:=H5.o.noDebt ay.o af.o hd;have ab:=O (show s.owe {l with q:=l.q++[p]} (fun d=>d.wake now p.len)=s.aR {l with q:=l.q++[p]} by unfold Qf.owe;dsimp only;rw[hd]);subst aq;clear hd;go_wp2_with fail;clear y0 y1;obtain⟨a0,a1,a2,a3,a4⟩:=Ym H5.o.drew.blk;obtain⟨U,Z,g2,g3⟩:=X9 (Qc.blk C5.o.drew S0.o NF.o);have ao:=O (H5.o.pickWake (dep:=Xk s.tree) OK.o.pick an.o p.cls now aa.o);refine ZB [0,1,2,3,4,5,6,207] ?_;simp only[Z8,Zf,Ze,Zd];iterate 7 (refine Jq (h:=?_))
        clear a0 a1 a2 a3 a4 U Z g2 g3;refine J7 ?_;go_wp2_with fail;refine Zz (ao.o _ (Zg Qb w5).drew) ?_;rintro w9⟨h9,c9⟩;obtain⟨n1,n2⟩:=(Qi.obj A).two h9 I.o C5.o c9;have u:=O (K.o w9 (s.push p now) (by rw[a7.o,ab.o];exact⟨A,n1⟩) n2);clear h9 c9 n1 n2;go_wp2_with fail;refine Jo ?_;go_wp2;go_ret;exact⟨by rw[E0.o];rfl,u.o⟩
       |some d=>
        obtain⟨dg,dn,_⟩:=(OK.o.at HL.o).1.debt d hd;obtain⟨q,aq,bc⟩:=H5.o.wakeDebt ay.o af.o (d:=d) hd (by have:=an.o;omega) dg now aa.o p.len;have ab:=O (show s.owe {l with q:=l.q++[p]} (fun d=>d.wake now p.len)={s.aR {l with q:=l.q++[p],debt:=some (d.wake now p.len)}with row:=Hj s.row p.cls (d.wake now p.len)} by unfold Qf.owe;dsimp only;rw[hd,am.o]);have bk:=O bc;subst aq;clear hd bc dg dn;go_wp2_with fail;clear y0 y1;obtain⟨y0,y1⟩:=Q4 af.o.drew;obtain⟨U,Z,g2,g3⟩:=X9 (Qc.blk C5.o.drew S0.o NF.o);refine ZB [0,1,2,3,4,5,6,207] ?_;simp only[Z8,Zf,Ze,Zd];iterate 7 (refine Jq (h:=?_))
        clear y0 y1 U Z g2 g3;refine J7 ?_;go_wp2_with fail;refine Zz (bk.o _ (Zg Qb w5).drew) ?_;rintro w7⟨h7,c7,a9⟩;obtain⟨m1,m2⟩:=(Qi.obj A).two h7 I.o C5.o c7;have H7:=O (show Qi A w7 (Qn F W w7) b (s.aR {l with q:=l.q++[p],debt:=some (d.wake now p.len)}) by
         rw[←Rz (s:=s) (l1:={l with q:=l.q++[p]}) (l2:={l with q:=l.q++[p],debt:=some (d.wake now p.len)}) rfl];exact m1)
        have C7:=O m2;have aw:=O a9;have bf:Hi ((s.aR {l with q:=l.q++[p],debt:=some (d.wake now p.len)}).leaf p.cls=some {l with q:=l.q++[p],debt:=some (d.wake now p.len)}):=O (Oz HL.o am.o);have bi:=O (H7.o.noteDebt bf.o aw.o rfl (HP.o.row_len OK.o));clear h7 c7 a9 m1 m2;go_wp2_with fail;refine Jo ?_;go_wp2_with fail;obtain⟨a0,a1,a2,a3,a4⟩:=Ym H7.o.drew.blk;obtain⟨y0,y1⟩:=Q4 aw.o.drew;obtain⟨U,Z,g2,g3⟩:=X9 (Qc.blk C7.o.drew S0.o NF.o);refine ZB [0,1,2,3,4,5,6,7,8,9,210] ?_;simp only[Z8,Zf,Ze,Zd];iterate 10 (refine Jq (h:=?_))
        clear a0 a1 a2 a3 a4 y0 y1 U Z g2 g3;refine J7 ?_;go_wp2_with fail;refine Zz (bi.o _ (Zg Qb w7).drew) ?_;rintro w8⟨h8,c8⟩;obtain⟨m1,m2⟩:=(Qi.obj A).two h8 I.o C7.o c8;have H8:=O m1;have C8:=O m2;clear h8 c8 m1 m2;go_wp2_with fail;refine Jo ?_;go_wp2_with fail;obtain⟨a0,a1,a2,a3,a4⟩:=Ym H8.o.drew.blk;obtain⟨U,Z,g2,g3⟩:=X9 (Qc.blk C8.o.drew S0.o NF.o);have ao:=O (H8.o.pickWake (dep:=Xk s.tree) OK.o.pick an.o p.cls now aa.o);refine ZB [0,1,2,3,4,5,6,207] ?_;simp only[Z8,Zf,Ze,Zd];iterate 7 (refine Jq (h:=?_))
        clear a0 a1 a2 a3 a4 U Z g2 g3;refine J7 ?_;go_wp2_with fail;refine Zz (ao.o _ (Zg Qb w8).drew) ?_;rintro w9⟨h9,c9⟩;obtain⟨n1,n2⟩:=(Qi.obj A).two h9 I.o C8.o c9;have u:=O (K.o w9 (s.push p now) (by rw[a7.o,ab.o];exact⟨A,n1⟩) n2);clear h9 c9 n1 n2;go_wp2_with fail;refine Jo ?_;go_wp2;go_ret;exact⟨by rw[E0.o];rfl,u.o⟩
      ·have hd:decide ((1:Int)<(n1:Int))=true:=by have:=a5.o;have h0:l.q.length≠0:=fun e=>hq (List.eq_nil_of_length_eq_zero e);simp at this⊢;omega
       have bq:decide (1<n1)=true:=by simp at hd⊢;omega
       have u:=O (K.o w5 (s.push p now) (by rw[PS.o,if_pos hq];exact⟨A,H5.o⟩) C5.o);clear hq;go_wp2_with fail;refine Zy J ?_;rintro w6 rfl;go_wp2_with fail;go_ret;exact⟨by rw[E0.o];rfl,u.o⟩
     ·have u:=O (R.o w5 (C4.o.drew.drew.aA (bh.o z)) (by rw[E1.o];exact z));have hd:decide (D8 l.pk l.bt l.q p=0)=false:=by simpa using z
      have ap:(D8 l.pk l.bt l.q p==0)=false:=by simpa using z
      generalize D8 l.pk l.bt l.q p=er at hd ap E1⊢;clear z;go_wp2_with fail;go_ret;exact⟨by rw[E1.o];rfl,u.o⟩
    ·have E1:=O (show s.aQ p=Eo p.len s.most by rw[E.o,if_pos h0]);have u:=O (R.o w4 C4.o (by rw[E1.o];exact h0));have hd:decide (Eo p.len s.most=0)=false:=by simpa using h0
     have ap:(Eo p.len s.most==0)=false:=by simpa using h0
     generalize Eo p.len s.most=er at hd ap E1⊢;clear h0;go_wp2_with fail;go_ret;exact⟨by rw[E1.o];rfl,u.o⟩
end
def Pm(l:List Jr):Jr:=l.headD Jr.zero
def Qhg(l:List Jr):Bool:=!l.isEmpty
theorem Qse{w}{b r d c:Nat}{l:List Jr}(h:Jz w b r d c l):
  ZW 96 #[ZP b] w (.tuple #[.agg #[ZU (Pm l).id,ZI (Pm l).cls,ZI (Pm l).len,ZU (Pm l).at_],.bool (Qhg l)]) fun w'=>Qc Qb w w':=by
 cases l with
 |nil=>exact Qa9 h
 |cons p l=>exact Qba h
theorem Qpr{w}{b r q c:Nat}{l:List Jr}(h:Jz w b r q c l):
  Cl 95 #[ZP b] w fun e w'=>e=.returned (.tuple #[.agg #[ZU (Pm l).id,ZI (Pm l).cls,ZI (Pm l).len,ZU (Pm l).at_],.bool (Qhg l)])∧
   Jz w' b r q c l.tail∧Qc (fun k=>k=b) w w':=by
 cases l with
 |nil=>exact(Qps h).mono fun e w'⟨u,d⟩=>⟨u,h.aB d (fun h=>h) (fun h=>h),d.mono fun _ h=>h.elim⟩
 |cons p l=>exact Qpt h
def pkA(p:Jr):Array Value:=(ZL p)
theorem Qt5(p:Jr):∀v∈(pkA p).toList,v.oneCell'=true:=by intro v c;simp only[pkA,Zu,List.not_mem_nil,or_false]at c;rcases c with rfl|rfl|rfl|rfl<;>rfl
def chA(p:Jr)(rule c:Nat):Array Value:=#[ZU p.id,ZI p.cls,ZI p.len,ZU p.at_,.int .u8 rule,ZU c]
theorem Iy(p:Jr)(r d:Nat):∀v∈(chA p r d).toList,v.oneCell'=true:=by intro v c;simp only[chA,Zu,List.not_mem_nil,or_false]at c;rcases c with rfl|rfl|rfl|rfl|rfl|rfl<;>rfl
section
variable{A:Tb}{w w1 w2:World}{F:Fp}{b a:Nat}{s:Qf}{N:Nat}{l:Qw}
theorem Qtl(l:List Jr):Qhg l=decide (l≠[]):=by cases l<;>simp[Qhg]
theorem Qi.qPop(h:Qi A w F b s){i:Int}(hl:s.leaf i=some l):∃c z,Qh w (A.ad i) #[ptr c,z] 107∧
  ∀w1,Qc Qb w w1→Cl 95 #[ptr c] w1 fun e w2=>e=.returned (.tuple #[.agg (pkA (Pm l.q)),.bool (Qhg l.q)])∧
   Qc F w w2∧Qi A w2 (Qn F w w2) b (s.aR {l with q:=l.q.tail})∧Qh w2 (A.ad i) #[ptr c,z] 107∧∃r,Jz w2 c r l.pk l.bt l.q.tail:=by
 obtain⟨c,z,U,⟨G,I,u⟩,_⟩:=h.openLeaf hl;refine⟨c,z,U,fun w1 B=>?_⟩;obtain⟨r,V,K,R,g3⟩:=(Lm c l.pk l.bt l.q).aB I B (Jl.none _);refine Zz (Qpr V) ?_;rintro w2⟨d,J⟩;have E:Qc G w w2:=(B.none (F:=G)).aA (J.sub fun k Z=>by rcases Z with rfl;assumption);obtain⟨m1,m2,m3⟩:=u w2 l.q.tail ⟨r,d,.inl K,.inl R,((Lm c l.pk l.bt l.q).bd I).ext E⟩ E;exact⟨rfl,m2,m1,m3,r,d⟩
theorem Qi.serveDebt(h:Qi A w F b s){i:Int}(hl:s.leaf i=some l){K:Nat}{I:Value}(V:Qh w (A.ad i) #[ptr K,I] 107){d:Ju}(Z:l.debt=some d)(hn:d.run.l.length<549755813888)(hg:d.got≤Xw)(rule:Nat)(B u:Int):
  ∃q,I=ptr q∧(∀w1,Qc Qb w w1→ZW 97 #[ptr q] w1 (ZU (d.dueAt:Nat)) fun w2=>w1=w2)∧
   ∀w1,Qc Qb w w1→ZW 98 #[ptr q,.int .u8 rule,ZI B,ZI u] w1 (.tuple #[]) fun w2=>Qi A w2 (Qn F w w2) b (s.aR {l with debt:=some (d.serve rule B u)})∧Qc F w w2∧Qh w2 (A.ad i) #[ptr K,I] 107:=by
 obtain⟨q,hq,_⟩:=h.debtStep hl V Z;have key:∀w1,Qc Qb w w1→∃G:Fp,Ye w1 G q d∧∀w' U,Ye w' (Qn G w1 w') q U→Qc G w1 w'→Qi A w' (Qn F w1 w') b (s.aR {l with debt:=some U})∧Qc F w1 w'∧Qh w' (A.ad i) #[ptr K,I] 107:=by intro w1 z;have h1:=(Qi.obj A).aB h z (Jl.none F);obtain⟨q',c,G,E,k⟩:=h1.debtStep hl (z.blk V (fun h=>h)) Z;rw[hq]at c;injection c with c;injection c with c;injection c with c _;subst c;exact⟨G,E,k⟩
 refine⟨q,hq,fun w1 z=>?_,fun w1 z=>?_⟩;·obtain⟨G,E,_⟩:=key w1 z;exact Cb E
 ·obtain⟨G,E,k⟩:=key w1 z;refine Zz (Qgw E hn hg rule B u) ?_;rintro w2⟨J,c2⟩;obtain⟨m1,m2,m3⟩:=k w2 _ J c2;have R:Qc F w w2:=z.none.aA m2;exact⟨rfl,(Qi.obj A).more m1 (Ke z.size) (((Qi.obj A).bd h).ext R),R,m3⟩
theorem Qi.pickSent(h:Qi A w F b s){dep:Int→Nat}(V:Qs dep N s.pick)(J:N<549755813000)(i:Int)(g:Nat)(K:g<18446744073709551616)(c:Bool):
  ∀w1,Qc Qb w w1→ZW 100 #[ptr A.pb,ZI i,ZU g,.bool c] w1 (.tuple #[]) fun w2=>Qi A w2 (Qn F w w2) b {s with pick:=s.pick.sent i g c}∧Qc F w w2:=by
 intro w1 k;have E:=(Qi.obj A).aB h k (Jl.none F);obtain⟨H,⟨z,I⟩,_,d⟩:=E.pickOf;refine Zz (Qlm I V J i g K c) ?_;rintro w2⟨q,B⟩;obtain⟨R,U⟩:=d w2 _ ⟨z,q⟩ B;have u:Qc F w w2:=k.none.aA U;exact⟨rfl,(Qi.obj A).more R (Ke k.size) (((Qi.obj A).bd h).ext u),u⟩
end
theorem Aa:∀{l:List Xu}{s:Nat×Int},low l=some s→∀e∈l,e.2.2=s.1→s.2≤e.2.1
 |e::l,s,h,f,c,he=>by
  rw[low]at h;cases d:low l with
  |none=>
   rw[d]at h;obtain rfl:=Zs h;rw[Ei d]at c;obtain rfl:f=e:=by simpa using c
   exact Int.le_refl _
  |some q=>
   rw[d]at h;obtain rfl:=Zs h;have k:=Cn d;rcases Zu.1 c with rfl|c
   ·unfold Xn at he⊢;split;·exact Int.le_refl _
    ·rename_i h';simp only[not_or,not_and]at h';rw[if_neg (by simp only[not_or,not_and];exact h')]at he;have:=h'.2.2 he;exact Int.not_lt.1 this
   ·have u:=k f c;unfold Xn at he⊢;split
    ·rename_i h';rw[if_pos h']at he;dsimp only at he⊢;rcases h' with h'|h'|h';·rw[←h']at d;have:=Aa d f c he;exact this
     ·dsimp only at h';omega
     ·have:=Aa d f c (by rw[he];exact h'.1);have:=h'.2;dsimp only at this;omega
    ·rename_i h';rw[if_neg h']at he;exact Aa d f c he
theorem Qw5{l:List Xu}:(low l).isSome=!l.isEmpty:=by
 cases l with
 |nil=>rfl
 |cons e l=>rw[low];cases low l<;>rfl
section
variable{s:Qf}{N:Nat}
def Qf.fit(s:Qf)(i:Int):Nat:=s.pick.fitAt i
theorem Xp.row_of(h:Xp N s){a b:Nat}{i:Int}(z:(a,i,b)∈s.row):s.elig i=a∧s.due i=b∧∃l,s.leaf i=some l∧l.q≠[]:=by
 obtain⟨l,d,u,q,k,rfl,rfl⟩:=(h.row a i b).1 z;have c:s.leaf i=some l:=u;refine⟨?_,?_,l,c,?_⟩;·unfold Qf.elig;rw[c];simp[q,Ju.from_,k]
 ·unfold Qf.due;rw[c];simp[q,Ju.dueAt,k]
 ·have:=((h.at c).1.debt d q).2.2;rw[k]at this;exact of_decide_eq_true this.symm
theorem Xp.row_has(h:Xp N s){now:Nat}(z:now<Qq){i:Int}(k:s.elig i≤now):(s.elig i,i,s.due i)∈s.row:=by
 unfold Qf.elig Qf.due at*;cases u:s.leaf i with
 |none=>rw[u]at k;simp at k;omega
 |some l=>
  rw[u]at k;cases q:l.debt with
  |none=>simp[q]at k;omega
  |some d=>
   simp only[Option.bind_some,q,Zn,Option.getD_some]at k⊢;unfold Ju.from_ at k;by_cases c:d.aL=true
   ·refine(h.row _ i _).2 ⟨l,d,u,q,c,?_,?_⟩;·simp[Ju.from_,c]
    ·simp[Ju.dueAt,c]
   ·rw[if_neg c]at k;omega
theorem Xp.least_none(h:Xp N s){now:Nat}(q:now<Qq)(ha:Jt now s.row=none)(i:Int):¬s.elig i≤now:=fun d=>by have k:=h.row_has q d;unfold Jt at ha;have:=Ei ha;have c:(s.elig i,i,s.due i)∈s.row.filter fun e=>decide (e.1≤now):=List.mem_filter.2 ⟨k,by simpa using d⟩;rw[this]at c;cases c
theorem Xp.least_some(h:Xp N s){now:Nat}(E:now<Qq){x:Nat×Int}(ha:Jt now s.row=some x):
  s.elig x.2≤now∧s.due x.2=x.1∧(∀i,s.elig i≤now→x.1≤s.due i∧(s.due i=x.1→x.2≤i))∧∃l,s.leaf x.2=some l∧l.q≠[]:=by
 unfold Jt at ha;obtain⟨a,d⟩:=Sq ha;obtain⟨d,c⟩:=List.mem_filter.1 d;obtain⟨u,z,B⟩:=h.row_of d;refine⟨by rw[u];simpa using c,z,fun i q=>?_,B⟩;have k:(s.elig i,i,s.due i)∈s.row.filter fun e=>decide (e.1≤now):=List.mem_filter.2 ⟨h.row_has E q,by simpa using q⟩;exact⟨Cn ha _ k,fun e=>Aa ha _ k e⟩
end
section
variable{p:Qe}{N:Nat}{dep:Int→Nat}
def Qe.fits(p:Qe)(now:Nat)(i:Int):Prop:=p.aL i=true∧∃c,p.at i=some c∧c.fit≤now
theorem Nh{now:Nat}(q:now<Qq){i:Int}:p.fits now i↔p.fitAt i≤now:=by
 unfold Qe.fits Qe.fitAt;constructor;·rintro⟨ha,c,d,k⟩;rw[if_pos ha,d];exact k
 ·intro h;by_cases ha:p.aL i=true
  ·rw[if_pos ha]at h;cases d:p.at i with
   |none=>rw[d]at h;simp at h;omega
   |some c=>rw[d]at h;exact⟨ha,c,rfl,h⟩
  ·rw[if_neg ha]at h;omega
theorem Ad{v:Nat}{l:List Xu}{e:Xu}(c:Xf v l=some e):e∈l∧e.2.2≤v:=by unfold Xf at c;exact⟨List.mem_of_find?_eq_some c,by simpa using List.find?_some c⟩
theorem Qug{v:Nat}{l:List Xu}(c:Xf v l=none):∀e∈l,¬e.2.2≤v:=by unfold Xf at c;simpa using List.find?_eq_none.1 c
theorem Qd5{n:Nat}{i x:Int}(d:x∈p.path n i):∃m c,n=m+1∧0<i∧p.at i=some c∧(x=i∨x∈p.path m c.par):=by
 cases n with
 |zero=>rw[Qe.path]at d;cases d
 |succ m=>
  rw[Qe.path]at d;by_cases q:i<1;·rw[if_pos q]at d;cases d
  ·rw[if_neg q]at d;cases k:p.at i with
   |none=>rw[k]at d;cases d
   |some c=> rw[k]at d;exact⟨m,c,rfl,by omega,rfl,Zu.1 d⟩
theorem Qdw(K:Uz p)(now:Nat):∀(n:Nat)(i j:Int),p.next now n i=some j→(∀m,∀x∈p.path m i,p.fits now x)→∀m,∀x∈p.path m j,p.fits now x
 |0,i,j,h,_=>by rw[Qe.next]at h;cases h
 |n+1,i,j,h,hi=>by
  rw[Qe.next]at h;cases E:p.at i with
  |none=>rw[E]at h;cases h
  |some c=>
   rw[E]at h;dsimp only at h;by_cases J:c.leaf=true;·rw[if_pos J]at h;obtain rfl:=Zs h;exact hi
   ·rw[if_neg J]at h;cases I:Xf now c.tree with
    |none=>rw[I]at h;cases h
    |some e=>
     rw[I]at h;dsimp only at h;obtain⟨a,k,b⟩:=e;obtain⟨Z,U⟩:=Ad I;obtain⟨_,V,_,R,u,B,z⟩:=(K.ent k i c E a b).1 Z;refine Qdw K now n k j h fun m x d=>?_;obtain⟨m',c',rfl,_,q,d⟩:=Qd5 d;rw[u]at q;obtain rfl:=Zs q;rcases d with rfl|d;·exact⟨V,R,u,by rw[←z];exact U⟩
     ·rw[B]at d;exact hi m' x d
theorem Ib{l:List Xu}{v:Nat}{x:Nat×Int}(h:low l=some x)(k:x.1≤v):∃e,Xf v l=some e:=by
 obtain⟨a,d⟩:=Sq h;cases c:Xf v l with
 |some e=>exact⟨e,rfl⟩
 |none=>exact absurd k (Qug c _ d)
theorem Qay(U:Qs dep N p)(R:Uz p){now:Nat}(hn:now<Qq):∀(n:Nat)(i:Int),0<i→(∃c,p.at i=some c∧c.fit≤now)→8-dep i<n→∃j,p.next now n i=some j
 |0,_,_,_,h=>by omega
 |n+1,i,hi,⟨c,hc,hf⟩,hd=>by
  rw[Qe.next,hc];dsimp only;by_cases I:c.leaf=true;·exact⟨i,by rw[if_pos I]⟩
  ·rw[if_neg I];unfold Qx.fit at hf;dsimp only at hf;rw[if_neg I]at hf;cases d:low c.tree with
   |none=>rw[d]at hf;dsimp only at hf;omega
   |some x=> rw[d]at hf;dsimp only at hf;obtain⟨e,K⟩:=Ib d (show x.1≤now by omega);rw[K];dsimp only;obtain⟨a,k,b⟩:=e;obtain⟨Z,V⟩:=Ad K;obtain⟨E,hk,_,J,q,z,u⟩:=(R.ent k i c hc a b).1 Z;have B:=(U.up.2 J (Qe.aE q).1 (by rw[(Qe.aE q).2];omega)).2.2;rw[(Qe.aE q).2,z]at B;exact Qay U R hn n k E ⟨J,q,by rw[←u];exact V⟩ (by omega)
theorem Qdx(R:Qs dep N p)(Z:Uz p){now:Nat}(hn:now<Qq):(∃j,p.next now 10 0=some j)↔p.tick≤now:=by
 obtain⟨r,V,K⟩:=R.root;unfold Qe.tick;rw[Qe.next,V];dsimp only;rw[if_neg (by rw[K];exact Bool.false_ne_true)];cases c:low r.tree with
 |none=>
  rw[Ei c];refine⟨fun⟨j,h⟩=>?_,fun h=>?_⟩;·cases h
  ·dsimp only at h;omega
 |some x=>
  dsimp only;constructor
  ·rintro⟨j,h⟩;cases q:Xf now r.tree with
   |none=>rw[q]at h;cases h
   |some e=> obtain⟨J,B⟩:=Ad q;exact Zp (Cn c e J) B
  ·intro hx;obtain⟨e,q⟩:=Ib c hx;rw[q];dsimp only;obtain⟨a,k,b⟩:=e;obtain⟨J,B⟩:=Ad q;obtain⟨I,hk,_,U,d,z,u⟩:=(Z.ent k 0 r V a b).1 J;have E:=(R.up.2 U (Qe.aE d).1 (by rw[(Qe.aE d).2];omega)).2.2;rw[(Qe.aE d).2,z]at E;exact Qay R Z hn 9 k I ⟨U,d,by rw[←u];exact B⟩ (by omega)
theorem Qpc(K:Qs dep N p)(Z:Uz p){now:Nat}(hn:now<Qq){i:Int}{c:Qx}(B:p.at i=some c)(hi:0<i)(hf:∀x∈p.path 9 i,p.fits now x):∃j,p.next now 10 0=some j:=by
 refine(Qdx K Z hn).2 ?_;obtain⟨I,U,aa⟩:=De K B;have R:∀(l:List Int),l≠[]→Vy p l→(∀x∈l,p.fits now x)→p.tick≤now:=by
  intro l;induction l with
  |nil=>exact fun h=>absurd rfl h
  |cons a l ih=>
   intro _ ho q;obtain⟨h0,⟨c,B,hp⟩,hr⟩:=ho;by_cases V:l=[]
   ·subst V;obtain⟨ha,c',k,u⟩:=q a List.mem_cons_self;rw[B]at k;obtain rfl:=Zs k;have J:c.par=0:=hp;obtain⟨r,z,ab⟩:=K.root;have E:=(Z.ent a 0 r z (p.v a) c.fit).2 ⟨h0,ha,rfl,c,B,J,rfl⟩;unfold Qe.tick;rw[z];dsimp only;cases d:low r.tree with
    |none=>rw[Ei d]at E;cases E
    |some x=>exact Zp (Cn d _ E) u
   ·exact ih V hr fun x hx=>q x (Zr _ hx)
 refine R _ (fun e=>?_) I hf;rw[e]at U;have:i=0:=U.symm;omega
end
def Kx(f:Int→Nat)(c:Nat×List Int)(i:Int):Nat×List Int:=if f i<c.1∨c.2=[]then(f i,[i])else if f i=c.1 then(c.1,c.2++[i])else c
def Kt(f:Int→Nat)(l:List Int):List Int:=(l.foldl (Kx f) (18446744073709551615,[])).2
def Lp(l:List Int):List Int:=l.mergeSort fun x y=>decide (x≤y)
def Qf.waits(s:Qf):List Int:=(s.tree.aI 0).filter fun i=>!decide (s.many i=0)
def Qf.isLeaf(s:Qf)(i:Int):Bool:=((s.tree.at i).map (·.sp.leaf)).getD false
def Qf.fitters(s:Qf)(t:Nat)(i:Int):List Int:=(s.tree.aM i).filter fun x=>!(!s.pick.aL x||decide (t<s.fit x))
def Qf.down(s:Qf)(t:Nat):Nat→Int→List Int
 |0,_=>[]
 |n+1,i=>if s.isLeaf i then[i]else(Kt s.pick.v (s.fitters t i)).flatMap (s.down t n)
def Qf.elig1(s:Qf)(t:Nat):List Int:=s.waits.filter fun i=>!decide (t<s.elig i)
def Qf.opts(s:Qf)(t:Nat):List Int×Nat:=if s.elig1 t≠[]then(Lp (Kt s.due (s.elig1 t)),1)else(Lp (s.down t 9 0),2)
def Qf.shareNone(s:Qf)(i:Int):Bool:=((s.tree.at i).map (·.sp.share.none)).getD true
def Qf.heldB(s:Qf)(t:Nat)(i:Int):Bool:=decide (t<s.elig i)&&(s.shareNone i||(s.tree.path 9 i).any fun x=>decide (t<s.fit x))
def Qf.held(s:Qf)(t:Nat):List Int:=s.waits.filter (s.heldB t)
section
variable{s:Qf}{N:Nat}
theorem Xp.waits_mem(h:Xp N s){i:Int}:i∈s.waits↔∃l,s.leaf i=some l∧l.q≠[]:=by
 unfold Qf.waits;rw[List.mem_filter];constructor;·rintro⟨B,u⟩;obtain⟨l,k⟩:=(G8 h).1 B;obtain⟨c,q,d⟩:=h.leaf_at k;refine⟨l,k,fun e=>?_⟩;rw[(Qdq h q d).1,Ov k,e]at u;simp at u
 ·rintro⟨l,k,z⟩;refine⟨(G8 h).2 ⟨l,k⟩,?_⟩;obtain⟨c,q,d⟩:=h.leaf_at k;rw[(Qdq h q d).1,Ov k];have:=List.length_pos_iff.2 z;simp;exact z
theorem Xp.awake_leaf(h:Xp N s){i:Int}{l:Qw}(u:s.leaf i=some l)(B:l.q≠[]):s.pick.aL i=!s.shareNone i:=by
 obtain⟨k,E,_⟩:=h.at u;obtain⟨c,d,q,_,_,_,e⟩:=k.sp;rw[E]at d e;unfold Qf.shareNone;rw[d,e];simp only[B,ne_eq,not_false_eq_true,decide_true,Bool.and_true,Zn,Option.getD_some];have z:=h.tree.may c (h.tree.pos d).2.2.2.2.2;unfold Yk.aJ;cases I:c.sp.share.none with
 |true=>rfl
 |false=> have:=(Md z).2.1;simp[this]
theorem Xp.elig_waits(h:Xp N s){t:Nat}(q:t<Qq){i:Int}(c:s.elig i≤t):i∈s.waits:=by obtain⟨_,_,l,d,k⟩:=h.row_of (h.row_has q c);exact h.waits_mem.2 ⟨l,d,k⟩
theorem Sr(h:Xp N s){t:Nat}(c:t<Qq){i:Int}:i∈s.elig1 t↔s.elig i≤t:=by unfold Qf.elig1;grind [Xp.elig_waits]
end
end Go.Proofs.YtigcnnkagkbflaaGreat
