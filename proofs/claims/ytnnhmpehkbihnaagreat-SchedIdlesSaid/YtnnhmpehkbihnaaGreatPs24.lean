/- A part of the proof: no condition. -/
import Derived.Test.YtnnhmpehkbihnaaGreatPs23
namespace Go.Proofs.YtnnhmpehkbihnaaGreat
set_option linter.unusedVariables false
set_option maxRecDepth 100000
set_option maxHeartbeats 4000000
open Go.RowKit
open Go.Proofs.Tryz
section
variable{P:Program}{w:World}{t kt e:TypeId}{b r:Nat}{l left:List (Int×Value)}
theorem Tc{X:Type}{q:X→Bool}{f:X→X}:∀{l:List X}{n:Nat},(∀x,l[n]? =some x→q x=false∧q (f x)=false)→(l.modify n f).filter q=l.filter q
 |[],n,_=>by simp
 |x::l,0,h=>by obtain⟨h1,c⟩:=h x rfl;simp[List.modify_cons,h1,c]
 |x::l,n+1,h=>by have k:=Tc (l:=l) (n:=n) (f:=f) (q:=q) fun y d=>h y (by simpa using d);simp only[List.modify_succ_cons,List.filter_cons,k]
theorem Qbt{k:Int}{v:Value}:∀{l left:List (Int×Value)},left.Sublist l→(∀p∈left,p.1≠k)→left.Sublist (Oi k v l)
 |[],left,h,_=>by have:left=[]:=List.sublist_nil.1 h;subst this;exact List.nil_sublist _
 |p::l,left,h,hn=>by
  rw[Oi];split
  ·rename_i c;cases h with
   |cons _ h=>exact .cons _ h
   |cons_cons _ h=>exact absurd c.symm (hn _ (by simp))
  ·cases h with
   |cons _ h=>exact .cons _ (Qbt h hn)
   |cons_cons _ h=>exact .cons_cons _ (Qbt h fun q d=>hn q (by simp[d]))
theorem Qbi(h:Kj w b r l left)(ht:P.underlying t=some (.map kt e))(hk:P.underlying kt=some (.int .i64))(k:Int)(v:Value)(E:∃p∈l,p.1=k)(ac:∀p∈left,p.1≠k):
  ∃w',(Instr.mapUpdate t (.map (some b)) (.int .i64 k) v).run P w=.ok () w'∧Kj w' b r (Oi k v l) left∧Qc (fun j=>j=b) w w':=by
 obtain⟨w',J,hM,hc⟩:=X6 (P:=P) h.map ht hk k v;refine⟨w',J,?_,hc⟩;obtain⟨z,d,c,h1,h2,h3,h4,h5,h6,h7,h8,h9⟩:=h;have hb:b<w.heap.size:=(Z2.1 h1).1;have af:w'.heap[r]? =some (.mapIter (some b) d c d):=hc.heap h6 (fun e=>h7 e);cases U:Oe k l 0 with
 |none=> obtain⟨p,ah,ai⟩:=E;exact absurd ai (Pa U p ah)
 |some q=>
  obtain⟨n,u⟩:=q;obtain⟨j,hj,Z,R⟩:=U6 U;obtain rfl:n=j:=by omega
  have aa:z.toList.length=l.length:=by simpa using congrArg List.length h2
  have hn:n<z.size:=by rw[←aa]at Z;simpa using Z
  have I:z[n].key=.int .i64 k:=by have:=congrArg (fun x=>x[n]?) h2;simp only[List.getElem?_map,R]at this;rw[Array.getElem?_toList,Array.getElem?_eq_getElem hn]at this;simpa using(congrArg Prod.fst (Zs this))
  have aj:((Instr.keyThatStays (((z[n]?).map (·.key)).getD (.int .i64 k)) (.int .i64 k)).run P w)=.ok (.int .i64 k) w:=by rw[Array.getElem?_eq_getElem hn];simp[I,Instr.keyThatStays,Instr.sameBits]
  have ak:w'={w with heap:=w.heap.setIfInBounds b (.map (z.modify n fun e=>{e with key:=.int .i64 k,val:=v}) d)}:=by have h0:=J;unfold Instr.mapUpdate at h0;simp only[Sem.run_bind,Qmp ht,Result.andThen_ok,Qkf h1,Ox hk,Dt hk k z.toList h2,U]at h0;simp only[aj,Result.andThen_ok,Qsm _ h1]at h0;injection h0 with _ h0;exact h0.symm
  have ag:w'.heap[b]? =some (.map (z.modify n fun e=>{e with key:=.int .i64 k,val:=v}) d):=by rw[ak];simp[hb]
  have K:(z.modify n fun e=>{e with key:=.int .i64 k,val:=v}).toList.map (·.born)=z.toList.map (·.born):=by
   refine List.ext_getElem? fun i=>?_;simp only[List.getElem?_map,Array.getElem?_toList,Array.getElem?_modify];split;·cases z[i]? <;>rfl
   ·rfl
  refine⟨_,d,c,ag,?_,?_,by rw[K];exact h4,?_,af,h7,?_,Qbt h9 ac⟩
  ·rw[Ry (i:=0) (j:=n) (u:=u) (by rw[U];simp)];refine List.ext_getElem? fun i=>?_;have V:=congrArg (fun x=>x[i]?) h2;simp only[List.getElem?_map,Array.getElem?_toList]at V;simp only[List.getElem?_map,Array.getElem?_toList,Array.getElem?_modify,List.getElem?_modify];by_cases E:n=i;·subst E;simp only[if_true,R,Array.getElem?_eq_getElem hn];simp
   ·simp only[E,if_false];simpa using V
  ·rw[Fa ⟨(k,u),List.mem_of_getElem? R,rfl⟩];exact h3
  ·intro x hx;obtain⟨i,hi⟩:=List.mem_iff_getElem?.1 hx;simp only[Array.getElem?_toList,Array.getElem?_modify]at hi;split at hi
   ·cases hy:z[i]? with
    |none=>rw[hy]at hi;cases hi
    |some y=> rw[hy]at hi;obtain rfl:=Zs hi;exact h5 y (List.mem_of_getElem? (by rw[Array.getElem?_toList];exact hy))
   ·exact h5 x (List.mem_of_getElem? (by rw[Array.getElem?_toList];exact hi))
  ·rw[←h8];have B:c.contains z[n].born=true:=by
    cases hs:c.contains z[n].born with
    |true=>rfl
    |false=>
     exfalso;have hm:z[n]∈(leftOf z c).toList:=by unfold leftOf;rw[Array.toList_filter];exact List.mem_filter.2 ⟨by simp,by show(!c.contains z[n].born)=true;rw[hs];rfl⟩
     have ab:=List.mem_map_of_mem (f:=fun e:MapEntry=>(e.key,e.val)) hm;rw[h8]at ab;obtain⟨p,U,ae⟩:=Z3.1 ab;simp only[Prod.mk.injEq]at ae;have e1:=ae.1;rw[I]at e1;injection e1 with _ e1;exact ac p U e1
   congr 1;unfold leftOf;simp only[Array.toList_filter,Array.toList_modify];refine Tc fun x hx=>?_;rw[Array.getElem?_toList,Array.getElem?_eq_getElem hn]at hx;obtain rfl:=Zs hx;exact⟨by show(!c.contains z[n].born)=false;rw[B];rfl,by show(!c.contains z[n].born)=false;rw[B];rfl⟩
end
section
attribute [local go_sem] Qp
attribute [local irreducible] Kl J9 Xo
theorem Qk0{w}{b:Nat}{L:List (Int×Value)}(h:Xq w b L):Cl 79 #[.map (some b)] w fun e w'=>e=.returned (.map (some w.heap.size))∧Xq w' w.heap.size L∧Qc Qb w w':=by obtain⟨q,d,u,c⟩:=h;have k:=O c;have z:=fun w=>run_eql_map_nil_sl (P:=prog) w 89 _ _ (some b) underlying89;clear c;go_enter func79,ntmps79;go_wp2;rw[run_callFunc_extern func142 (by kernel_rfl) (by kernel_rfl) (by kernel_rfl) (e:=Extern.MapsClone.clone) (by kernel_rfl),run_maps_clone_sl w 89 u];simp only[Result.andThen];rw[Oper.upon_value];go_wp2;rw[run_typeAssert_map_sl _ 89 _ _ _ _ underlying89];simp only[Result.andThen];rw[Oper.upon_value];go_wp2;go_ret;exact⟨rfl,⟨q,d,(MapKept.heap_alloc w _).1,k.o⟩,(Zg _ _).alloc _⟩
theorem Qhy{w}{b:Nat}{L:List (Int×Value)}(h:Xq w b L):Cl 80 #[.map (some b)] w fun e w'=>e=.returned (.map (some w.heap.size))∧Xq w' w.heap.size L∧Qc Qb w w':=by obtain⟨q,d,u,c⟩:=h;have k:=O c;have z:=fun w=>run_eql_map_nil_sl (P:=prog) w 90 _ _ (some b) underlying90;clear c;go_enter func80,ntmps80;go_wp2;rw[run_callFunc_extern func142 (by kernel_rfl) (by kernel_rfl) (by kernel_rfl) (e:=Extern.MapsClone.clone) (by kernel_rfl),run_maps_clone_sl w 90 u];simp only[Result.andThen];rw[Oper.upon_value];go_wp2;rw[run_typeAssert_map_sl _ 90 _ _ _ _ underlying90];simp only[Result.andThen];rw[Oper.upon_value];go_wp2;go_ret;exact⟨rfl,⟨q,d,(MapKept.heap_alloc w _).1,k.o⟩,(Zg _ _).alloc _⟩
structure Ai(w:World)(h:Qm)(l:List Vm)(b' ma mu r:Nat)(wr:World)(vsr left:List (Int×Value)):Prop where
 it:Kj wr mu r vsr left
 chg:Qc Qb w wr
 blk:Qh wr b' #[.map (some ma),.map (some mu)] 92
 mall:Xq wr ma (Us l)
 has:∀p∈vsr,Q6 wr p.2 (h.aM p.1)
 own:∀p∈vsr,∀k,p.2.ownBlock=some k→(p∈left∧k<w.heap.size)∨(w.heap.size≤k∧k<wr.heap.size∧k≠b'∧k≠ma∧k≠mu∧k≠r)
 dis:∀p∈vsr,∀q∈vsr,∀k,p.2.ownBlock=some k→q.2.ownBlock=some k→p.1=q.1
 miss:∀i,(∀p∈vsr,p.1≠i)→h.aM i=[]
 ne:b'≠ma∧b'≠mu∧ma≠mu∧r≠b'∧r≠ma∧r≠mu
 lo:w.heap.size≤b'∧w.heap.size≤ma∧w.heap.size≤mu∧w.heap.size≤r
section
variable{w wr w2 w3:World}{h:Qm}{l:List Vm}{b' ma mu r:Nat}{vsr left:List (Int×Value)}
theorem Ai.fin(C:Ai w h l b' ma mu r wr vsr [])(q:l.Perm h):Q9 wr (Qn Qb w wr) b' h∧Qc Qb w wr:=by
 have z:=C.it.map;obtain⟨B,E,I,R,U,V⟩:=C.ne;obtain⟨l1,l2,J,K⟩:=C.lo;have d:∀p∈vsr,∀k,p.2.ownBlock=some k→w.heap.size≤k∧k<wr.heap.size∧k≠b'∧k≠ma∧k≠mu∧k≠r:=fun p q k c=>(C.own p q k c).resolve_left fun e=>by cases e.1
 refine⟨⟨ma,mu,l,vsr,q,?_⟩,C.chg⟩;have bd:Bd (Qn Qb w wr) wr:=fun k c=>c.elim (fun h=>h.elim) (fun h=>h.2);have u:Y7 wr (fun k=>k=mu∨∃p∈vsr,p.2.ownBlock=some k) mu vsr h:=⟨z,fun k c=>c.elim (fun e=>e▸z.lt) (fun⟨p,q,c⟩=>(d p q k c).2.1),.inl rfl,C.has,fun p q k c=>⟨.inr ⟨p,q,c⟩,(d p q k c).2.2.2.2.1⟩,C.dis,C.miss⟩;refine Q7 (G:=fun k=>k=b') (H:=fun k=>k=ma∨k=mu∨∃p∈vsr,p.2.ownBlock=some k) ⟨C.blk,rfl,fun k e=>e▸C.blk.lt⟩ ?_ ?_ ?_ ?_ bd
 ·refine Q7 (G:=fun k=>k=ma) (H:=fun k=>k=mu∨∃p∈vsr,p.2.ownBlock=some k) ⟨C.mall,rfl,fun k e=>e▸C.mall.lt⟩ (Y6 u u.bd) ?_ (fun k e=>.inl e) (fun k c=>.inr c) ?_
  ·rintro k rfl(e|⟨p,q,c⟩);·exact I e
   ·exact(d p q _ c).2.2.2.1 rfl
  ·exact fun k c=>c.elim (fun e=>e▸C.mall.lt) (u.bd k)
 ·rintro k rfl(e|e|⟨p,q,c⟩);·exact B e
  ·exact E e
  ·exact(d p q _ c).2.2.1 rfl
 ·rintro k rfl;exact .inr ⟨l1,C.blk.lt⟩
 ·rintro k(e|e|⟨p,q,c⟩);·exact .inr ⟨by omega,e▸C.mall.lt⟩
  ·exact .inr ⟨by omega,e▸z.lt⟩
  ·exact .inr ⟨(d p q k c).1,(d p q k c).2.1⟩
theorem Ai.step(C:Ai w h l b' ma mu r wr vsr left){p:Int×Value}(hp:p∈left)(ab:Kj w2 mu r vsr (Vu p.1 left))(c2:Qc (fun j=>j=r) wr w2)(V:Qc Qb w2 w3){v':Value}(hv:Q6 w3 v' (h.aM p.1))(hn:∀k,v'.ownBlock=some k→w2.heap.size≤k):
  ∃w4,(Instr.mapUpdate 90 (.map (some mu)) (.int .i64 p.1) v').run prog w3=.ok () w4∧Ai w h l b' ma mu r w4 (Oi p.1 v' vsr) (Vu p.1 left):=by
 obtain⟨n1,n2,n3,n4,n5,n6⟩:=C.ne;obtain⟨l1,l2,l3,l4⟩:=C.lo;have ac:p∈vsr:=C.it.sub.subset hp;have z:=C.it.map.nodup;have ai:r<wr.heap.size:=by obtain⟨es,aa,ae,_,_,_,_,_,h6,_⟩:=C.it;exact(Z2.1 h6).1
 obtain⟨w4,R,J,Z⟩:=Qbi (P:=prog) (ab.aB V (fun h=>h) (fun h=>h)) underlying90 underlying3 p.1 v' ⟨p,ac,rfl⟩ (fun q d=>by have:=(List.mem_filter.1 d).2;simpa using this);have s2:=c2.size;have s3:=V.size;have s4:=Z.size;have ag:=C.blk.lt;have af:=C.mall.lt;have ah:=C.it.map.lt;have B:Qc (fun j=>j=r∨j=mu) wr w4:=((c2.mono fun k c=>.inl (.inl c)).trans V fun k c=>c.elim).trans Z fun k c=>.inl (.inr c);refine⟨w4,R,J,C.chg.trans B fun k c=>.inr (c.elim (fun e=>by omega) (fun e=>by omega)),B.blk C.blk (fun e=>e.elim (fun e=>n4 e.symm) (fun e=>n2 e)),C.mall.aB B (fun e=>e.elim (fun e=>n5 e.symm) (fun e=>n3 e)),fun q d=>?_,fun q d k c=>?_,fun q d q' u k c E=>?_,fun i hi=>?_,C.ne,C.lo⟩
 ·rcases Hu z d with rfl|⟨d,I⟩;·refine hv.aB Z fun k c e=>?_;have:=hn k c;omega
  ·refine(C.has q d).aB B fun k c e=>?_;rcases C.own q d k c with⟨_,h1⟩|⟨_,_,_,_,h5,h6⟩;·rcases e with e|e<;>omega
   ·exact e.elim h6 h5
 ·rcases Hu z d with rfl|⟨d,I⟩;·have h1:=hn k c;have h2:=hv.lt k c;exact .inr ⟨by omega,by omega,by omega,by omega,by omega,by omega⟩
  ·rcases C.own q d k c with⟨h0,h1⟩|⟨h1,h2,h3⟩;·exact .inl ⟨List.mem_filter.2 ⟨h0,by simpa using I⟩,h1⟩
   ·exact .inr ⟨h1,by omega,h3⟩
 ·have U:∀q∈vsr,∀k,q.2.ownBlock=some k→k<wr.heap.size:=fun q d k c=>by
   rcases C.own q d k c with⟨_,h1⟩|⟨_,h2,_⟩;·have:=C.chg.size;omega
   ·exact h2
  rcases Hu z d with rfl|⟨d,I⟩
  ·rcases Hu z u with rfl|⟨u,K⟩;·rfl
   ·have h1:=hn k c;have:=U q' u k E;omega
  ·rcases Hu z u with rfl|⟨u,K⟩;·have h1:=hn k E;have:=U q d k c;omega
   ·exact C.dis q d q' u k c E
 ·refine C.miss i fun q d e=>?_;by_cases h1:q.1=p.1;·exact hi _ (Qbr p.1 v' vsr) (h1.symm.trans e)
  ·exact hi q (Qbs d h1) e
end
theorem Ww{w}{F:Fp}{b:Nat}{h:Qm}(hh:Q9 w F b h)(hl:h.length<1099511627776):
  Cl 33 #[ptr b] w fun e w'=>∃b',e=.returned (ptr b')∧Q9 w' (Qn Qb w w') b' h∧Qc Qb w w':=by
 obtain⟨ma,mu,l,vs,G,q,hn,ab,ae,I,fb,fm,fG,av,aw,ax,af,_⟩:=hh.opn;have HL:∀i,(h.aM i).length<1099511627776:=fun i=>by
  have:(h.aM i).length≤h.length:=by unfold Qm.aM;rw[List.length_map];exact List.length_filter_le _ _
  omega
 have aj:=O (fun w'(c:Qc Qb w w')=>Qk0 (ae.aB c (fun h=>h)));have ak:=O (fun w'(c:Qc Qb w w')=>Qhy (I.map.aB c (fun h=>h)));have HB:=O ab;have u:Hi (∀w0 w1 w2 w3,Qc Qb w w0→Qc Qb w0 w1→Qc Qb w1 w2→Xq w1 w0.heap.size (Us l)→Xq w2 w1.heap.size vs→w3=w2.alloc (.cells #[.map (some w0.heap.size),.map (some w1.heap.size)] 92)→
   ∃o,(Instr.range 90 (.map (some w1.heap.size))).run prog w3=.ok (.pointer (some ⟨w3.heap.size,0,none⟩)) (w3.alloc o)∧Qh w3 w2.heap.size #[.map (some w0.heap.size),.map (some w1.heap.size)] 92∧Ai w h l w2.heap.size w0.heap.size w1.heap.size w3.heap.size (w3.alloc o) vs vs):=O (by
  rintro w0 w1 w2 w3 c0 c1 U z B rfl;have c3:Qc Qb w2 (w2.alloc (.cells #[.map (some w0.heap.size),.map (some w1.heap.size)] 92)):=(Zg _ _).alloc _;have d:Qh (w2.alloc (.cells #[.map (some w0.heap.size),.map (some w1.heap.size)] 92)) w2.heap.size #[.map (some w0.heap.size),.map (some w1.heap.size)] 92:=Qh.new _ _ _;obtain⟨w3,au⟩:=Zx (w2.alloc (.cells #[.map (some w0.heap.size),.map (some w1.heap.size)] 92));rw[←au]at c3 d⊢;obtain⟨o,hr,aq⟩:=Er (P:=prog) (B.aB c3 (fun h=>h)) underlying90;have c4:Qc Qb w3 (w3.alloc o):=(Zg _ _).alloc _;have cA:Qc Qb w (w3.alloc o):=(((c0.aA c1).aA U).aA c3).aA c4;have s0:=c0.size;have z1:=z.lt;have z2:=B.lt;have z3:=d.lt;have s1:=c1.size;have s2:=U.size;have hU:=I.aB cA (Jl.none G);exact⟨o,hr,d,aq,cA,c4.blk d (fun h=>h),(z.aB U (fun h=>h)).aB (c3.aA c4) (fun h=>h),hU.has,fun p q k hk=>.inl ⟨q,af k (fG k (I.own p q k hk).1)⟩,hU.dis,hU.miss,⟨by omega,by omega,by omega,by omega,by omega,by omega⟩,⟨by omega,by omega,by omega,by omega⟩⟩)
 have HP:=O q;have an:=O HL;clear hh q hn ae I fb fm fG av aw ax af hl HL;unfold ptr at*;obtain⟨a0,a1⟩:=Q4 (HB.o.drew);clear ab;go_enter func33,ntmps33;go_wp2_with fail;refine Jp [(0,0),(0,1),(0,2),(0,3),(1,5),(1,6),(1,7),(1,8),(2,4),(3,9),(0,10),(3,11),(3,12)] (fun R=>Qc (Qb) (w) R) Zq (by kernel_rfl) (fun _ _ _ _ _ h=>h) (Zj (Zg _ _)) ?_;simp only[Jk,Zf,Ze,Zd];iterate 4 (refine Xe (by kernel_rfl) (by go_simp;try rfl) ?_)
 iterate 3 (refine Qy (by kernel_rfl) (fun R V=>by go_simp;try rfl) ?_;try simp only[Act.put,Za,Zc,Zb])
 iterate 1 (refine Qy (by kernel_rfl) (fun R V=>by(obtain⟨z0,z1⟩:=Q4 (V.blk HB.o (fun h=>h)));go_simp;try rfl) ?_;try simp only[Act.put,Za,Zc,Zb])
 clear a0 a1;refine Yb ?_;go_wp2_with fail;refine Zz (aj.o w.drew (Zg Qb w).drew) ?_;rintro w1⟨z,c1⟩;have T1:=O (Zt z c1);clear z c1;go_wp2_with fail;refine⟨((Zg Qb w).drew.aA T1.o.2),?_⟩;refine Km ?_;go_wp2_with fail;refine Zz (ak.o w1 ((Zg Qb w).drew.aA T1.o.2)) ?_;rintro w2⟨B,U⟩;obtain⟨o,hr,d,E⟩:=u.o w.drew w1 w2 _ (Zg Qb w).drew T1.o.2 U T1.o.1 B rfl;have ez:w.drew.heap.size=w.heap.size:=rfl;rw[ez]at hr d E;rw[show(w2.alloc (.cells #[.map (some w.heap.size),.map (some w1.heap.size)] 92)).heap.size=w2.heap.size+1 by simp]at hr E;clear ez;have al:=O E;have e1:=(Q4 d).2;clear B U E d u;go_wp2_with fail;refine Xe (by kernel_rfl) (by go_simp;try rfl) ?_;refine Km ?_;go_wp2_with fail;refine Km ?_;go_wp2_with fail;refine Ky ?_;go_wp2_with fail;go_loopw [4,5] (fun _ _ wr=>∃vsr left,Ai w h l w2.heap.size w.heap.size w1.heap.size (w2.heap.size+1) wr vsr left) (fun _ _ wr=>Dq wr (w2.heap.size+1));case atStart=>exact⟨_,_,al.o⟩
 case round=>
  obtain⟨vsr,left,C⟩:=hrel;obtain⟨e1,e2⟩:=Q4 C.blk;rcases Rx (P:=prog) C.it 0 with⟨h0,hr⟩|⟨p,q,w4,hr,K,J,ap⟩;·subst h0;have ai:=O (C.fin HP.o);clear C;go_wp2_with fail;go_ret;exact⟨_,rfl,ai.o⟩
  ·have am:=O K;have C4:=O J;have CC:=O C;have B4:=O (J.blk C.blk (fun e=>by have:=C.ne.2.2.2.1;omega));have ay:=O (C.it.sub.subset q);have ao:=O q;have aa:=O (show(Vu p.1 left).length<left.length from by
    unfold Vu;exact List.length_filter_lt_length_iff_exists.2 ⟨p,q,by simp⟩)
   have LW:=O C.it.left_eq;have HV:=O ((C.has p (C.it.sub.subset q)).aB J (fun k hk e=>by
    rcases C.own p (C.it.sub.subset q) k hk with⟨_,h1⟩|⟨_,_,_,_,_,h6⟩;·have:=C.lo.2.2.2;omega
    ·exact h6 e))
   clear C K J q;go_wp2_with fail;clear hr ap e1 e2;obtain⟨z0,z1⟩:=Q4 (B4.o.drew);refine Jp [(1,0),(1,1),(1,2),(1,3),(1,4),(0,5),(2,6),(3,7)] (fun R=>Qc (Qb) (w4) R) Zq (by kernel_rfl) (fun _ _ _ _ _ h=>h) (Zj (Zg _ _)) ?_;simp only[Jk,Zf,Ze,Zd];iterate 3 (refine Qy (by kernel_rfl) (fun R V=>by go_simp;try rfl) ?_;try simp only[Act.put,Za,Zc,Zb])
   iterate 1 (refine Qy (by kernel_rfl) (fun R V=>by(obtain⟨az,a2⟩:=Q4 (V.blk B4.o (fun h=>h)));go_simp;try rfl) ?_;try simp only[Act.put,Za,Zc,Zb])
   (refine Qy (by kernel_rfl) (fun R V=>by go_simp;try rfl) ?_;try simp only[Act.put,Za,Zc,Zb]);refine Xe (by kernel_rfl) (by go_simp;try rfl) ?_;clear z0 z1;refine Yb ?_;go_wp2_with fail;refine(Fy p.2 _ w4.drew (Q6.aB HV.o (Zg Qb w4).drew (fun _ _ h=>h)) (an.o p.1)).mono ?_;rintro e w5⟨v',rfl,ah,c5,ag,_⟩;have C5:=O c5.undrew;obtain⟨w6,ar,ac⟩:=CC.o.step ao.o am.o C4.o c5.undrew ah ag;have Z:=O ac;clear ah c5 ag ac;go_wp2_with fail;refine⟨C5.o,?_⟩;refine Km ?_;go_wp2_with fail;refine Ky ?_;clear ar;go_wp2_with fail;go_roundw;case measure=> rw[Z.o.it.left_eq,CC.o.it.left_eq];exact aa.o
   case rel=>exact⟨_,_,Z.o⟩
end
section
attribute [local go_sem] Qp
attribute [local go_sem ↓] X8 Yd
attribute [local irreducible] Kl J9 Xo
section
variable{A:Tb}{w:World}{F:Fp}{b:Nat}{s:Qf}{N:Nat}
theorem Qbl(h:Qi A w F b s)(ok:Xp N s)(id:Int):Cl 107 #[ptr b,.int .i64 id] w fun e w'=>e=.returned (.bool (decide (0<s.many id)))∧Qc Qb w w':=by have d:=O (Dn h ok id);generalize s.many id=m at d⊢;generalize s.bytes id=q at d;unfold ptr at*;clear h ok;go_enter func107,ntmps107;go_wp2_with fail;refine Zy d ?_;intro w1 k;have c:=O k;clear k;go_wp2;go_ret;exact⟨rfl,c.o⟩
theorem Uu(h:Qi A w F b s)(ok:Xp N s):Cl 12 #[ptr b] w fun e w'=>∃b',e=.returned (ptr b')∧Q9 w' (Qn Qb w w') b' s.tree∧Qc Qb w w':=by have u:=O (Ku h ok.most.1);obtain⟨z,a1,B,E,I⟩:=Ym h.blk;obtain⟨Gt,ht,_⟩:=h.treeOf;have q:=O (Ww ht (by have:=ok.tree.many;omega));unfold ptr at*;clear h ok ht;go_enter func12,ntmps12;go_wp2_with fail;refine Zy u ?_;rintro w1 rfl;go_wp2_with fail;refine Zo q ?_;rintro e w2⟨b',rfl,k,d⟩;have c:=O (Zt k d);clear k d;go_wp2;go_ret;exact⟨_,rfl,c.o⟩
theorem Qbo(h:Qi A w F b s)(ok:Xp N s):Cl 18 #[ptr b] w fun e w'=>e=.returned (.int .u64 ((s.tick:Nat):Int))∧Qc Qb w w':=by
 have V:=O (Ku h ok.most.1);have q:=O h.blk;obtain⟨Gr,hr,_⟩:=h.rowOf;obtain⟨Gp,⟨R,J⟩,_⟩:=h.pickOf;have z:=O (Qkc (Yq.obj.aB hr (Zg Qb w).drew (Jl.none _)));have u:=O (fun w'(c:Qc Qb w w')=>Qln ((Qo.obj R).aB J c (Jl.none _)) ok.pick);unfold Qf.tick;generalize Hk s.row=x at z⊢;generalize s.pick.tick=y at u⊢;obtain⟨Z,a1,a2,a3,a4⟩:=Ym q.o.drew;unfold ptr at*;clear h ok hr J;go_enter func18,ntmps18;go_wp2_with fail;refine Zy V ?_;rintro w1 rfl;go_wp2_with fail;refine Jp [(0,0),(0,1),(0,2),(0,3),(1,5),(1,6),(1,7),(1,8),(2,4),(3,9),(0,10),(3,11)] (fun k=>Qc (Qb) (w) k) Zq (by kernel_rfl) (fun _ _ _ _ _ h=>h) (Zj (Zg _ _)) ?_;simp only[Jk,Zf,Ze,Zd];iterate 4 (refine Xe (by kernel_rfl) (by go_simp;try rfl) ?_)
 iterate 3 (refine Qy (by kernel_rfl) (fun k K=>by go_simp;try rfl) ?_;try simp only[Act.put,Za,Zc,Zb])
 iterate 1 (refine Qy (by kernel_rfl) (fun k K=>by(obtain⟨z0,z1,z2,z3,z4⟩:=Ym (K.blk q.o (fun h=>h)));go_simp;try rfl) ?_;try simp only[Act.put,Za,Zc,Zb])
 clear Z a1 a2 a3 a4;refine Yb ?_;go_wp2_with fail;refine Zy z ?_;intro w2 B;have d:=O B.undrew;clear B;go_wp2_with fail;refine⟨d.o,?_⟩;refine Km ?_;go_wp2_with fail;refine Zz (u.o _ d.o) ?_;intro w3 I;have U:=O (d.o.aA I);have E:=O (show((min x y:Nat):Int)=min (x:Int) (y:Int) by omega);clear I;go_wp2_with fail;refine Xe (by kernel_rfl) (by go_simp;try rfl) ?_;refine Km ?_;go_wp2_with fail;refine Ky ?_;go_wp2;go_ret;exact⟨by rw[E.o];rfl,U.o⟩
end
end
section
attribute [local go_sem] Qp
attribute [local irreducible] Kl J9 Xo
section
variable{w:World}{F:Fp}{b:Nat}{h:Qm}
theorem Y7.later{w0 w1}{G:Fp}{m:Nat}{vs:List (Int×Value)}(d:Y7 w1 (Qn G w0 w1) m vs h){w:World}(hs:w.heap.size≤w0.heap.size)(q:Bd (Qn G w w1) w1):Y7 w1 (Qn G w w1) m vs h:=
 (Y7.good m vs h).more d (fun k c=>c.elim .inl fun c=>.inr ⟨by omega,c.2⟩) q
theorem Qkl(hh:Q9 w F b h){id:Int}{c:Vm}(ha:h.at id=some c)(hu:h.aM id=[])(ai:(h.aM c.sp.par).length<1099511627776):
  Cl 110 #[ptr b,.int .i64 id] w fun e w'=>e=.returned (.int .i64 0)∧Q9 w' (Qn F w w') b (h.drop id)∧Qc F w w':=by
 have a3:=O (fun w'(c:Qc Qb w w')=>Q9.obj.aB hh c (Jl.none F));obtain⟨W,hW⟩:=Zx (w.alloc (.cells #[.int .i64 id] 3));have CW:Qc Qb w W:=by rw[hW];exact(Zg _ _).alloc _
 have hN:=O (Gz (a3.o W CW));have BX:=O (show Qh W w.heap.size #[.int .i64 id] 3 by rw[hW];exact Qh.new _ _ _);obtain⟨ma,mu,l,vs,G,hp,hn,an,ac,J,fb,fm,fG,ax,K,bg,a7,a4⟩:=hh.opn;obtain⟨ba,a9⟩:=Qm.aE ha;have ar:h.aM c.sp.par≠[]:=fun e=>by have:id∈h.aM c.sp.par:=Z3.2 ⟨c,List.mem_filter.2 ⟨ba,by simp⟩,a9⟩;rw[e]at this;cases this
 have b6:c.sp.par≠id:=fun e=>ar (by rw[e];exact hu);have b7:=O (show w.heap.size<W.heap.size from BX.o.lt);have I:Hi (∀w2,Qc Qb w w2→(∃a cap,(Instr.lookup 90 (.map (some mu)) (.int .i64 id) false).run prog w2=.ok (.slice a 0 cap) w2)∧
   ∃w3,(Builtin.delete_ #[89,3] 0 #[.map (some ma),.int .i64 id]).run prog w2.drew=.ok (.tuple #[]) w3∧Qc (fun k=>k=ma) w2 w3∧
   ∃w4,(Builtin.delete_ #[90,3] 0 #[.map (some mu),.int .i64 id]).run prog w3.drew=.ok (.tuple #[]) w4∧Qc (fun k=>k=ma∨k=mu) w2 w4∧
   ∃g cap,(g<w.heap.size∧g≠b∧g≠mu)∧(Instr.lookup 90 (.map (some mu)) (.int .i64 c.sp.par) false).run prog w4.drew=.ok (.slice (some ⟨g,0,none⟩) (h.aM c.sp.par).length cap) w4.drew∧
   (∀gf q,(∀af w,(callFunc gf af).run prog w=.ok (.enter gf af) w)→(∀w',Qc (fun k=>k=g) w4.drew w'→∀y,Cl gf (#[.int .i64 y]++q) w' fun e b4=>e=.returned (.bool (decide (y=id)))∧w'=b4)→
    Cl 53 #[.slice (some ⟨g,0,none⟩) (h.aM c.sp.par).length cap,.func (.func gf) #[] q] w4.drew fun e w5=>∃n,e=.returned (.slice (some ⟨g,0,none⟩) n cap)∧Qc (fun k=>k=g) w4.drew w5∧
     ∃w6,(Instr.mapUpdate 90 (.map (some mu)) (.int .i64 c.sp.par) (.slice (some ⟨g,0,none⟩) n cap)).run prog w5=.ok () w6∧Q9 w6 (Qn F w w6) b (h.drop id)∧Qc F w w6)):=O (by
  intro w2 aa;have ap:=J.aB aa (Jl.none G);have aq:=ap.at_;refine⟨?_,?_⟩;·obtain⟨v,hr,hI,_⟩:=ap.look id;rw[hu]at hI;obtain⟨a,cap,rfl,_⟩:=hI.row intT.hc;exact⟨a,cap,hr⟩
  ·obtain⟨w3,r3,bt,c3⟩:=Di (P:=prog) ((ac.aB aa (fun h=>h)).aB (Zg Qb w2).drew (fun h=>h)) underlying89 underlying3 3 0 id;have aj:Qc (fun k=>k=ma) w2 w3:=c3.undrew;refine⟨w3,r3,aj,?_⟩;have a6:=ap.aB aj (fun k d e=>K (e▸d));obtain⟨w4,r4,bu,c4⟩:=Di (P:=prog) (a6.map.aB (Zg Qb w3).drew (fun h=>h)) underlying90 underlying3 3 0 id;have al:Qc (fun k=>k=mu) w3 w4:=c4.undrew;have bz:=a6.del id hu bu al;have ak:Qc (fun k=>k=ma∨k=mu) w2 w4:=(aj.mono fun k d=>.inl (.inl d)).trans al fun k d=>.inl (.inr d);refine⟨w4,r4,ak,?_⟩;have z:=bz.aB (Zg Qb w4).drew (Jl.none G);obtain⟨v,hr,hI,B⟩:=z.look c.sp.par;obtain⟨g,cap,b8,rfl,bq,b3,bb,a8,bf⟩:=hI.opn ar;have aw:(c.sp.par,Value.slice (some ⟨g,0,none⟩) (h.aM c.sp.par).length cap)∈Vu id vs:=B.resolve_left fun e=>by cases e.1
   obtain⟨gG,gm⟩:=z.own _ aw g rfl;refine⟨g,cap,⟨a7 g (fG g gG),fun e=>ax (e▸gG),gm⟩,hr,fun gf q eg hT=>?_⟩;refine(Qex bq b3 bb a8 bf hI ai gf q eg (fun y=>decide (y=id)) hT).mono ?_;rintro e w5⟨n,rfl,br,ab⟩;refine⟨n,rfl,ab,?_⟩;have bv:=z.map.aB ab (fun e=>gm e.symm);obtain⟨w6,r6,bw,am⟩:=X6 (P:=prog) bv underlying90 underlying3 c.sp.par (.slice (some ⟨g,0,none⟩) n cap);refine⟨w6,r6,?_⟩;have hd:=Qm.drop_eq ha hu;have av:(h.drop id).aM c.sp.par=(h.aM c.sp.par).filter fun y=>!decide (y=id):=by rw[hd];exact Ph h id _
   have au:∀k,k≠c.sp.par→(h.drop id).aM k=h.aM k:=fun k d=>by rw[hd];exact Ij ((hp.map _).nodup_iff.1 hn) ha d
   have bs:Q6 w6 (.slice (some ⟨g,0,none⟩) n cap) ((h.drop id).aM c.sp.par):=by rw[av];refine br.aB am fun k d e=>?_;have:g=k:=Zs d;exact gm (this.trans e)
   have bo:Qc (fun k=>k=mu∨k=g) w4.drew w6:=(ab.mono fun k d=>.inl (.inr d)).trans am fun k d=>.inl (.inl d);obtain⟨b0,bp⟩:=z.put au bs (fun k d=>.inl ⟨_,aw,d⟩) bw bo (fun k d=>d.elim .inl fun e=>.inr ⟨_,aw,by rw[e];rfl⟩);have cA:Qc (fun k=>k=ma∨G k) w w6:=by refine(aa.none.aA (ak.mono fun k d=>.inl (d.elim .inl fun e=>.inr (e▸aq)))).aA ?_;exact bp.undrew.sub fun k d=>.inr d
   have bm:Bd G w:=J.bd;refine a4 w6 (l.filter fun x=>!decide (x.sp.id=id)) _ _ (by rw[hd];exact hp.filter _) ?_ ((b0.later (w:=w) (Zp aa.size ak.size) ?_)) cA;·rw[←Qj7];exact(((bt.aB al (fun e=>K (e▸aq))).aB (Zg Qb w4).drew (fun h=>h)).aB ab (fun e=>K (e▸gG))).aB am (fun e=>K (e▸aq))
   ·exact fun k d=>d.elim (fun d=>Nat.lt_of_lt_of_le (bm k d) cA.size) (fun d=>d.2))
 have LK:=O (fun(w')(cc:Qc Qb w w')=>show(Instr.lookup 89 (.map (some ma)) (.int .i64 id) true).run prog w'=.ok (.tuple #[.agg (P0 c),.bool true]) w' by
  have hL:=Dj (P:=prog) (ac.aB cc (fun h=>h)) underlying89 underlying3 (Sf w') id;rw[Ed id l hn,←Qm.at_perm hp hn,ha]at hL;exact hL)
 have NE:=O (show b≠ma∧b≠mu∧b<w.heap.size∧ma<w.heap.size∧mu<w.heap.size from⟨bg,fun e=>ax (e▸J.at_),an.lt,ac.lt,J.map.lt⟩);have a1:=O an;have Z:=O CW;clear hh an CW ac J hp hn ha hu a4 fb fm fG ax K bg a7 ar ba a9 ai;unfold ptr at*;go_enter func110,ntmps110;go_wp2_with fail;rw[←hW];clear hW;refine Zz hN.o ?_;rintro w1 rfl;go_wp2_with fail;refine Jp [(1,0),(1,1),(1,2),(1,3),(1,4),(1,5),(1,6),(1,7),(1,8),(2,9),(2,10),(3,11)] (fun R=>Qc (Qb) (W) R) Zq (by kernel_rfl) (fun _ _ _ _ _ h=>h) (Zj (Zg _ _)) ?_;simp only[Jk,Zf,Ze,Zd];iterate 3 (refine Qy (by kernel_rfl) (fun R B=>by go_simp;try rfl) ?_;try simp only[Act.put,Za,Zc,Zb])
 iterate 3 (refine Qy (by kernel_rfl) (fun R B=>by(have zz:=B.blk (Z.o.blk a1.o (fun h=>h)) (fun h=>h);have yy:=B.blk BX.o (fun h=>h);obtain⟨z0,z1⟩:=Q4 zz;have y0:=Jf yy;have lk:=LK.o R (Z.o.aA B));go_simp;try rfl) ?_;try simp only[Act.put,Za,Zc,Zb])
 iterate 3 (refine Qy (by kernel_rfl) (fun R B=>by go_simp;try rfl) ?_;try simp only[Act.put,Za,Zc,Zb])
 refine Yb ?_;go_wp2_with fail;refine⟨((Zg Qb W).alloc _).drew,?_⟩;have ao:Qh (W.alloc (.cells Z6 87)).drew W.heap.size Z6 87:=(Qh.new _ _ _).drew;have C1:Qc Qb W (W.alloc (.cells Z6 87)).drew:=((Zg Qb W).alloc _).drew;generalize(W.alloc (.cells Z6 87)).drew=W1 at ao C1⊢;obtain⟨W2,s2,a5,C2⟩:=Q0 (P:=prog) (vs:=P0 c) ao rfl (Sn c);have a0:Qc Qb W W2:=C1.trans C2 (fun k e=>.inr (by omega));have E:=O a0;have bl:=O a5;clear ao C1 a5 C2 a0;refine Yb ?_;go_wp2_with fail;refine⟨E.o,?_⟩;refine Km ?_;go_wp2_with fail;refine Ky ?_;go_wp2_with fail;clear s2;have C2:=O (Z.o.aA E.o);obtain⟨⟨u,b5,b1⟩,w3,r3,c3,w4,r4,c4,g,cap,⟨bc,bd,be⟩,b2,DF⟩:=I.o W2.drew C2.o.drew;have C3:=O c3.undrew;have C4:=O c4.undrew;have a2:=O DF;have HG:=O (Zt bc (Zt bd be));have NB:=NE.o;have ae:=O Z.o.size;have U:=O (C2.o.blk a1.o (fun h=>h));have V:=O (E.o.blk BX.o (fun h=>h));have bh:=O (C3.o.blk U.o (fun e=>NE.o.1 e));have bi:=O (C3.o.blk V.o (fun e=>by have:=NE.o.2.2.2.1;omega));have ay:=O (C4.o.blk U.o (fun e=>e.elim (fun e=>NE.o.1 e) (fun e=>NE.o.2.1 e)));have bj:=O (C4.o.blk V.o (fun e=>by have:=NE.o.2.2.2.1;have:=NE.o.2.2.2.2;rcases e with e|e<;>omega));have az:=O (C4.o.blk bl.o (fun e=>by have:=NE.o.2.2.2.1;have:=NE.o.2.2.2.2;have:=ae.o;rcases e with e|e<;>omega));clear c3 c4 DF bc bd be NB I;obtain⟨z0,z1⟩:=Q4 (U.o.drew);have y0:=Jf (V.o.drew);refine Qj [(0,0),(0,1),(0,2),(0,3),(0,4),(0,5),(0,6),(0,7),(2,8)] Zq (by kernel_rfl) (fun _ _ _ _ _ h=>h) ?_;simp only[Jk,Zf,Ze,Zd];iterate 8 (refine Jq (by kernel_rfl) (by go_simp;try rfl) ?_)
 clear b1 z0 z1 y0;refine J7 ?_;go_wp2_with fail;refine Jo ?_;go_wp2_with fail;obtain⟨z0,z1⟩:=Q4 (U.o.drew.drew);have y0:=Jf (V.o.drew.drew);refine Qj [(0,0),(0,1),(0,2),(0,3),(0,4),(2,5)] Zq (by kernel_rfl) (fun _ _ _ _ _ h=>h) ?_;simp only[Jk,Zf,Ze,Zd];iterate 5 (refine Jq (by kernel_rfl) (by go_simp;try rfl) ?_)
 clear z0 z1 y0;refine J7 ?_;go_wp2_with fail;refine Jo ?_;clear r3;go_wp2_with fail;obtain⟨z0,z1⟩:=Q4 (bh.o.drew);have y0:=Jf (bi.o.drew);refine Qj [(0,0),(0,1),(0,2),(0,3),(0,4),(2,5)] Zq (by kernel_rfl) (fun _ _ _ _ _ h=>h) ?_;simp only[Jk,Zf,Ze,Zd];iterate 5 (refine Jq (by kernel_rfl) (by go_simp;try rfl) ?_)
 clear z0 z1 y0;refine J7 ?_;go_wp2_with fail;refine Jo ?_;clear r4;go_wp2_with fail;obtain⟨z0,z1⟩:=Q4 (ay.o.drew);have y1:=(Dm az.o.drew).2.1;refine Jp [(1,0),(1,1),(1,2),(1,3),(1,4),(1,5),(1,6),(0,7),(0,8),(0,9),(0,10),(0,11),(0,12),(0,13),(0,14),(0,15),(2,16),(3,17)] (fun R=>Qc (fun k=>k=g) (w4) R) Zq (by kernel_rfl) (fun _ _ _ _ _ h=>h) (Zj (Zg _ _)) ?_;simp only[Jk,Zf,Ze,Zd];iterate 3 (refine Qy (by kernel_rfl) (fun R B=>by go_simp;try rfl) ?_;try simp only[Act.put,Za,Zc,Zb])
 iterate 1 (refine Qy (by kernel_rfl) (fun R B=>by(obtain⟨ca,cb⟩:=Q4 (B.blk ay.o (fun e=>HG.o.2.1 e.symm)));go_simp;try rfl) ?_;try simp only[Act.put,Za,Zc,Zb])
 iterate 2 (refine Qy (by kernel_rfl) (fun R B=>by go_simp;try rfl) ?_;try simp only[Act.put,Za,Zc,Zb])
 iterate 1 (refine Qy (by kernel_rfl) (fun R B=>by(have b9:=(Dm (B.blk az.o (fun e=>by have:=HG.o.1;have:=ae.o;omega))).2.1);go_simp;try rfl) ?_;try simp only[Act.put,Za,Zc,Zb])
 iterate 9 (refine Xe (by kernel_rfl) (by go_simp;try rfl) ?_)
 clear b2 z0 z1 y1;refine Yb ?_;go_wp2_with fail;refine(a2.o 174 #[.pointer (some ⟨w.heap.size,0,none⟩)] (enters_of func174 (by kernel_rfl) rfl) (fun w' cc y=>Qn9 w.heap.size id y w' (Jf (cc.blk bj.o.drew (fun e=>by have:=HG.o.1;omega))))).mono ?_;rintro e w5⟨n,rfl,c5,w6,r6,ah,ag⟩;have C5:=O c5.undrew;have bk:=O (Zt ah ag);clear c5 ah ag a2;go_wp2_with fail;refine⟨C5.o,?_⟩;refine Km ?_;go_wp2_with fail;refine Ky ?_;clear r6;go_wp2;go_ret;exact⟨rfl,bk.o⟩
end
section
variable{A:Tb}{w w1 w2:World}{F:Fp}{b:Nat}{s:Qf}{N:Nat}
theorem Qi.delLeaf(h:Qi A w F b s)(i:Int)(I ty:TypeId):
  ∃w',(Builtin.delete_ #[75,I] ty #[.map (some A.m),.int .i64 i]).run prog w=.ok (.tuple #[]) w'∧Qi A w' (Qn F w w') b {s with aI:=s.aI.filter fun l=>!decide (l.id=i)}∧Qc F w w':=by
 obtain⟨L,J,G,u,U,d⟩:=h.collOf;obtain⟨w',q,B,c⟩:=Di (P:=prog) u.map underlying75 underlying3 I ty i;have E:Qc G w w':=c.sub fun k z=>z▸u.at_;have h1:Yn Qw.id Yj w' (Qn G w w') A.m A.ad (Kp Qw.id i L):=(u.del Yj.obj i B c).more (fun k z=>.inl z) (u.bd.ext E);obtain⟨K,R⟩:=d w' _ {s with aI:=s.aI.filter fun l=>!decide (l.id=i)} (J.filter _) rfl rfl rfl rfl h1 E;exact⟨w',q,K,R⟩
theorem Qhe(sp:Yk)(w1):∃c,Qc Qb w1 c∧Qh c w1.heap.size (Es sp) 40∧
  (storeCells ⟨w1.heap.size,0,none⟩ (Es sp).toList 0).run prog (w1.alloc (.cells Z5 40))=.ok () c:=by
 obtain⟨c,s2,d,q⟩:=Q0 (P:=prog) (vs:=Es sp) (Qh.new w1 Z5 40) rfl (Hl _);exact⟨c,((Zg Qb w1).alloc _).trans q (fun k e=>.inr (by omega)),d,s2⟩
theorem Qmd(h:Qt w F b s)(ok:Xp N s)(id:Int):
  Cl 52 #[ptr b,.int .i64 id] w fun e w'=>e=.returned (.int .i64 (s.aP id))∧Qt w' (Qn F w w') b (s.drop id)∧Qc F w w':=by
 obtain⟨A,h⟩:=h;have R:=(Qi.obj A).bd h;have I:=O (fun w'(c:Qc Qb w w')=>(Qi.obj A).aB h c (Jl.none F));have NO:Hi (∀w',Qc Qb w w'→s.aP id≠0→Qt w' (Qn F w w') b (s.drop id)∧Qc F w w'):=O (fun w' c h0=>by rw[I0 h0];exact Qt.obj.same ⟨A,h⟩ c);have HN:=O (Ku h ok.most.1);obtain⟨U,a1,V,Z,a4⟩:=Ym h.blk;have HG:Hi (Cl 13 #[ptr A.tb,.int .i64 id] w fun e w'=>e=.returned (.tuple #[.agg (Es (s.tree.get id).sp),.bool (s.tree.at id).isSome])∧Qc Qb w w'):=O (by
  obtain⟨G,hT,_⟩:=h.treeOf;exact Ob hT id)
 have B:=O (show s.aP id=if(s.tree.at id).isNone then 81 else if s.tree.aM id≠[]then 161 else if 0<s.many id then 230 else 0 from rfl);cases hc:s.tree.at id with
 |none=> have E:=O (show s.aP id=81 by rw[B.o,hc];rfl);rw[hc]at HG;dsimp only[Option.isSome_none]at HG;unfold ptr at*;clear h ok R hc B;go_enter func52,ntmps52;go_wp2_with fail;refine Zy HN ?_;rintro w1 rfl;go_wp2_with fail;refine Zy HG ?_;intro w1 c1;obtain⟨W2,c2,_,aj⟩:=Qhe (s.tree.get id).sp w1;have u:=O (NO.o W2 (c1.aA c2) (by rw[E.o];decide));clear c1 c2 NO;go_wp2_with fail;go_ret;exact⟨by rw[E.o];rfl,u.o⟩
 |some c=>
  have HU:Hi (∀w',Qc Qb w w'→Cl 35 #[ptr A.tb,.int .i64 id] w' fun e al=>∃v,e=.returned v∧Q6 al v (s.tree.aM id)∧(∀k,v.ownBlock=some k→w'.heap.size≤k)∧Qc Qb w' al):=O (fun w' cc=>by
   obtain⟨G,hT,_⟩:=(I.o w' cc).treeOf;exact P8 hT id (by have:=V1 s.tree id;have:=ok.tree.many;omega))
  have z:=O (fun w'(cc:Qc Qb w w')=>Qbl (I.o w' cc) ok id);have d:Hi (s.aP id=0→∀w3,Qc Qb w w3→Cl 110 #[ptr A.tb,.int .i64 id] w3 fun e w4=>e=.returned (.int .i64 0)∧Qc F w w4∧Qi A w4 (Qn F w w4) b {s with tree:=s.tree.drop id}∧
    Cl 111 #[ptr A.pb,.int .i64 id] w4 fun e w5=>e=.returned (.bool true)∧Qi A w5 (Qn F w w5) b {s with tree:=s.tree.drop id,pick:=s.pick.drop id}∧
     ∃w6,(Builtin.delete_ #[75,3] 0 #[.map (some A.m),.int .i64 id]).run prog w5=.ok (.tuple #[]) w6∧Qt w6 (Qn F w w6) b (s.drop id)∧Qc F w w6):=O (fun h0 w3 c3=>by
   obtain⟨J,ah⟩:=Ng h0;obtain⟨c',ao,K⟩:=Tz ah;have ha:=ok.asleep J;obtain⟨x,q,hx,i1,ar,hq,aq,_⟩:=ok.mt.drop ok.tree ok.pick ah ha;have h3:=I.o w3 c3;obtain⟨G,hT,_,ai⟩:=h3.treeOf;refine Zz (Qkl hT ao K (by have:=V1 s.tree c'.sp.par;have:=ok.tree.many;omega)) ?_;rintro w4⟨an,c4⟩;obtain⟨m1,m2⟩:=ai w4 _ an c4;have af:Qc F w w4:=c3.none.aA m2;have ak:=(Qi.obj A).more m1 (Ke c3.size) (R.ext af);refine⟨rfl,af,ak,?_⟩;obtain⟨Gp,⟨AP,hP⟩,_,ae⟩:=ak.pickOf;refine Zz (Qlj hP ok.pick i1 hx ar ha hq aq) ?_;rintro w5⟨am,c5⟩;obtain⟨n1,n2⟩:=ae w5 _ ⟨AP,am⟩ c5;obtain⟨p1,p2⟩:=(Qi.obj A).two n1 R af n2;refine⟨rfl,p1,?_⟩;obtain⟨w6,r6,h6,c6⟩:=p1.delLeaf id 3 0;obtain⟨q1,q2⟩:=(Qi.obj A).two h6 R p2 c6;refine⟨w6,r6,?_,q2⟩;have e:s.drop id={s with tree:=s.tree.drop id,pick:=s.pick.drop id,aI:=s.aI.filter fun l=>!decide (l.id=id)}:=by unfold Qf.drop;rw[if_pos h0]
   rw[e];exact⟨A,q1⟩)
  have HA:=O h.blk;rw[hc]at HG B;dsimp only[Option.isSome_some,Option.isNone_some]at HG B;obtain⟨m,J⟩:=Zx (s.many id);rw[←J]at B z;unfold ptr at*;clear h ok hc J;go_enter func52,ntmps52;go_wp2_with fail;refine Zy HN ?_;rintro w1 rfl;go_wp2_with fail;refine Zy HG ?_;intro w1 c1;obtain⟨W2,c2,_,aj⟩:=Qhe (s.tree.get id).sp w1;have C2:=O (c1.aA c2);clear c1 c2 U a1 V Z a4;obtain⟨U,a1,V,Z,a4⟩:=Ym (C2.o.blk HA.o (fun h=>h));unfold ptr at*;go_wp2_with fail;clear aj;refine(HU.o W2 C2.o).mono ?_;rintro e w3⟨uv,rfl,hI,_,c3⟩;obtain⟨ua,cap,rfl,_,_,_⟩:=hI.row intT.hc;have C3:=O (C2.o.aA c3);obtain⟨n0,ac⟩:=Zx ((s.tree.aM id).length);have ag:=O ac;rw[←ac];clear hI c3 ac U a1 V Z a4;by_cases K:s.tree.aM id=[]
  ·have hz:n0=0:=by rw[ag.o,K];rfl
   subst hz;by_cases J:0<m
   ·have E:=O (show s.aP id=230 by rw[B.o,if_neg (by decide),if_neg (by simpa using K),if_pos J]);have dm:decide (0<m)=true:=by simpa using J
    rw[dm]at z;clear J K dm B d;go_wp2_with fail;refine Zz (z.o w3 C3.o) ?_;intro w4 c4;have u:=O (NO.o w4 (C3.o.aA c4) (by rw[E.o];decide));clear c4;go_wp2_with fail;go_ret;exact⟨by rw[E.o];rfl,u.o⟩
   ·have E:=O (show s.aP id=0 by rw[B.o,if_neg (by decide),if_neg (by simpa using K),if_neg J]);have dm:decide (0<m)=false:=by simpa using J
    rw[dm]at z;have ST:=O (d.o E.o);clear J K dm B d NO;go_wp2_with fail;refine Zz (z.o w3 C3.o) ?_;intro w4 c4;have C4:=O (C3.o.aA c4);clear c4;obtain⟨U,a1,V,Z,a4⟩:=Ym (C4.o.blk HA.o (fun h=>h));unfold ptr at*;go_wp2_with fail;clear U a1 V Z a4;refine Zz (ST.o w4 C4.o) ?_;rintro w5⟨c5,h5,hP⟩;have HP:=O hP;obtain⟨U,a1,V,Z,a4⟩:=Ym h5.blk;clear hP c5 h5 ST;unfold ptr at*;go_wp2_with fail;clear U a1 V Z a4;refine Zy HP ?_;rintro w6⟨h6,w7,r7,ab,aa⟩;obtain⟨U,a1,V,Z,a4⟩:=Ym h6.blk;have u:=O (Zt ab aa);clear h6 ab aa HP;unfold ptr at*;go_wp2_with fail;go_ret;exact⟨by rw[E.o];rfl,u.o⟩
  ·have ap:n0≠0:=fun e=>K (List.eq_nil_of_length_eq_zero (by rw[←ag.o,e]));have E:=O (show s.aP id=161 by rw[B.o,if_neg (by decide),if_pos K]);have dn:decide ((0:Int)<(n0:Int))=true:=by simp;omega
   have au:decide (0<n0)=true:=by simp;omega
   have u:=O (NO.o w3 C3.o (by rw[E.o];decide));clear K ap B d NO;go_wp2_with fail;go_ret;exact⟨by rw[E.o];rfl,u.o⟩
end
theorem Qcw{w}{g:Nat}{cs:Array Value}{t:TypeId}(h:Qh w g cs t):w.shape? g=some (t,cs.size):=by unfold Qh at h;unfold World.shape?;rw[h]
theorem Qsp(w):(sizeOf 3).run prog w=.ok 1 w:=by go_simp
theorem Gg:(prog.info? 3).map (·.size)=some 1:=by kernel_rfl
theorem Wd(b:Nat):∀(vs:List Value)(o:Nat)(w:World),(w.setCells b o vs).drew=w.drew.setCells b o vs
 |[],_,_=>rfl
 |v::vs,o,w=>by show((w.setCell ⟨b,o,none⟩ v).setCells b (o+1) vs).drew=_;rw[Wd b vs];rfl
theorem Qkn{w}{v:Value}{l:List Int}(hI:Q6 w v l)(hl:l.length<1099511627776)(i:Nat)(hi:i≤l.length)(x:Int){vb:Nat}(hV:Qh w vb #[.int .i64 x] 3)(ab:∀k,v.ownBlock=some k→k≠vb):
    Cl 124 #[v,.int .i64 i,.slice (some ⟨vb,0,none⟩) 1 1] w fun e w'=>∃v',e=.returned v'∧Q6 w' v' (l.take i++x::l.drop i)∧Qc (fun k=>v.ownBlock=some k) w w'∧(v'.ownBlock=v.ownBlock∨∃k,v'.ownBlock=some k∧w.heap.size≤k):=by
  have R:=O (show Kb W7 1 w (some ⟨vb,0,none⟩) [x]from fun j c=>by
    obtain rfl:j=0:=by simpa using c
    refine⟨vb,0,rfl,fun k u hu=>?_⟩
    cases k with
    | zero => obtain rfl := Zs hu; exact Jf hV
    | succ k => cases hu)
  by_cases am:i=l.length
  · subst am
    have HI:=O hI
    obtain⟨a,cap,rfl,d,h0,_⟩:=hI.row intT.hc
    obtain⟨n,hn⟩:=Zx (l.length)
    have HN:=O hn
    have HE:=O (show l.take l.length++x::l.drop l.length=l++[x] by rw[List.take_length,List.drop_length])
    rw[←hn]at d hl
    rw[HE.o]
    have HL:=O hl
    rw[←hn]at HI⊢
    have J:Hi (∀v' w',Q6 w' v' (l++[x])→Qc (fun k=>(Value.slice a n cap).ownBlock=some k) w w'→(v'.ownBlock=(Value.slice a n cap).ownBlock∨v'.ownBlock=some w.heap.size)→
        (∃ ah, Ending.returned v' = .returned ah ∧ Q6 w' ah (l ++ [x]) ∧ Qc (fun k => (Value.slice a n cap).ownBlock = some k) w w' ∧ (ah.ownBlock = (Value.slice a n cap).ownBlock ∨ ∃ k, ah.ownBlock = some k ∧ w.heap.size ≤ k))) := O (fun v' w' h1 h2 h3 => ⟨v', rfl, h1, h2, h3.imp id fun h => ⟨_, h, Zv _⟩⟩)
    cases a with
    | none =>
      obtain rfl:=h0 rfl
      have bo:n=0:=by omega
      clear hI ab hn h0 hl hi
      subst bo
      clear d
      go_enter func124,ntmps124
      go_wp2_with (at_builtin;refine Jj intT rfl (.tmp 23) (.tmp 24) rfl _ l rfl HI.o _ _ [x] rfl ?a2 ?a3 ?a4 ?a5 ?a6)
      case a2=>exact nofun
      case a3=>exact R.o
      case a4=>have:=HL.o;have:=HN.o;simp only[maxLen,Zm,List.length_nil];omega
      case a5=>have:=HL.o;have:=HN.o;simp only[Zm,List.length_nil];omega
      case a6=>
        intro v' w' h1 h2 h3
        have FF:=O (J.o v' w' h1 h2 h3)
        clear h1 h2 h3 J
        go_wp2
        go_ret
        exact FF.o
    | some ad =>
      clear hI ab hn h0 hl hi
      have bw:n≤cap:=d
      go_enter func124,ntmps124
      go_wp2_with (at_builtin;refine Jj intT rfl (.tmp 23) (.tmp 24) rfl _ l rfl HI.o _ _ [x] rfl ?a2 ?a3 ?a4 ?a5 ?a6)
      all_goals first
        | exact R.o
        | (have := HL.o; have := HN.o; simp only [maxLen, Zm, List.length_nil]; omega)
        | (intro v' w' h1 h2 h3
           have FF:=O (J.o v' w' h1 h2 h3)
           clear h1 h2 h3 J
           go_wp2
           go_ret
           exact FF.o)
        | (intro h; cases h)
  · have Xg : i < l.length := by omega
    have ac:l≠[]:=fun e=>by rw[e]at Xg;simp at Xg
    obtain⟨g,cap,ap,rfl,hB,ao,E,d,aa⟩:=hI.opn ac
    have ag:g≠vb:=ab g rfl
    obtain⟨n,hn⟩:=Zx (l.length)
    have HN:=O hn
    have ai:=hB.lt
    have ak:=hV.lt
    have Z:((l.drop i).map fun y=>Value.int .i64 y).length=n-i:=by rw[List.length_map,List.length_drop,hn]
    have ae:∀u∈(l.drop i).map fun y=>Value.int .i64 y,u.oneCell'=true:=fun u hu=>by
      obtain⟨y,_,rfl⟩:=Z3.1 hu
      rfl
    have q:∀W:World,(∀k,W.cell? ⟨g,k,none⟩=w.cell? ⟨g,k,none⟩)→∀j u,((l.drop i).map fun y=>Value.int .i64 y)[j]? =some u→W.cell? ⟨g,i+j,none⟩=some u:=fun W hW j u c=>by
      rw[hW,hB.cell]
      rw[List.getElem?_map,List.getElem?_drop]at c
      cases hy:l[i+j]? with
      | none => rw [hy] at c; cases c
      | some y =>
        rw[hy]at c
        obtain rfl:=Zs c
        exact E _ _ hy
    by_cases br:n+1≤cap
    ·
      have J:=O (show∀W,W=w.drew→_ from fun W hW=>Qou (w:=W) x Xg (hW▸hB.drew) ao (by omega) aa E)
      have bq:∀lb cb,(callFunc 185 #[.slice (some ⟨vb,0,none⟩) 1 1,.slice (some ⟨g,i+1,none⟩) lb cb]).run prog w=.ok (.value (.bool false)) w:=fun lb cb=>by
        rw[run_callFunc_extern func185 (by kernel_rfl) (by kernel_rfl) (by kernel_rfl) (e:=Extern.SlicesOverlaps.overlaps #[46,46] #[4]) (by kernel_rfl),
          Lib.run_overlaps_apart w 46 4 3 underlying46 1 Qsp ⟨vb,0,none⟩ ⟨g,i+1,none⟩ 1 1 lb cb (fun e=>ag e.symm) 3 3 1 ap.size (Qcw hV) (Qcw hB) (by omega) (hV.frozen 0) (hV.frozen 1)]
        rfl
      have B:∀ty K sc,(Builtin.copy_ #[46,46] ty #[.slice (some ⟨g,i+1,none⟩) (n-i) K,.slice (some ⟨g,i,none⟩) (n+1-i) sc]).run prog w.drew=.ok (.int .i64 ((n-i:Nat):Int)) (w.drew.setCells g (i+1) ((l.drop i).map fun y=>.int .i64 y)):=fun ty K sc=>by
        have h:=run_copy_cells (P:=prog) w.drew 46 46 ty 3 g (i+1) (n-i) K ⟨g,i,none⟩ (n+1-i) sc ((l.drop i).map fun y=>Value.int .i64 y) underlying46 Gg (by rw[Z];simp only[Nat.min_def];split<;>omega)
          (fun j u c => by rw [Addr.add_lit]; exact q w.drew (fun _ => rfl) j u c) (fun j c => by rw [hB.drew.cell, Array.getElem?_eq_getElem (by omega)]; rfl) (fun j c => hB.drew.frozen _) ae
        rw[Z]at h
        exact h
      obtain⟨W1,hW1⟩:=Zx (w.drew.setCells g (i+1) ((l.drop i).map fun y=>.int .i64 y))
      obtain⟨c1,b1,s1,_,C1⟩:=Vc ((l.drop i).map fun y=>Value.int .i64 y) (i+1) w.drew ap hB.drew (by omega)
      rw[←hW1]at b1 C1
      have ay:=C1.blk (hV.drew) (fun e=>ag e.symm)
      have V:∀ty K,(Builtin.copy_ #[46,46] ty #[.slice (some ⟨g,i,none⟩) (n+1-i) K,.slice (some ⟨vb,0,none⟩) 1 1]).run prog W1=.ok (.int .i64 1) (W1.setCells g i [.int .i64 x]):=fun ty K=>
        run_copy_cells (P:=prog) W1 46 46 ty 3 g i (n+1-i) K ⟨vb,0,none⟩ 1 1 [Value.int .i64 x] underlying46 Gg (by simp only[Nat.min_def,Zm,List.length_nil];split<;>omega)
          (fun j u c => by
            cases j with
            | zero => obtain rfl := Zs c; exact Jf ay
            | succ j => cases c)
          (fun j c => by
            have:j=0:=by simpa using c
            subst this
            rw[b1.cell,Array.getElem?_eq_getElem (by omega)];rfl) (fun j c=>b1.frozen _) (fun u hu=>by
            obtain rfl:u=_:=by simpa using hu
            rfl)
      obtain⟨W2,hW2⟩:=Zx (W1.setCells g i [.int .i64 x])
      have FF:=O (J.o w.drew rfl)
      rw[←hW1,←hW2]at FF
      rw[←hW1]at B
      rw[←hW2]at V
      have e1:(((i:Int)==(n:Int)))=false:=by
        have:(i:Int)≠(n:Int):=by omega
        simpa using this
      have bd:decide ((i:Int)=(n:Int))=false:=by
        have:(i:Int)≠(n:Int):=by omega
        simpa using this
      have bf:IntKind.i64.wrap ((n:Int)+1)=(n:Int)+1:=by rw[IntWalk.i64_in _ (by omega)]
      have be:IntKind.i64.wrap ((i:Int)+1)=(i:Int)+1:=by rw[IntWalk.i64_in _ (by omega)]
      have bc:decide ((cap:Int)<(n:Int)+1)=false:=by simp;omega
      rw[←hn]
      have a1:i<n:=by omega
      have bp:n<1099511627776:=by omega
      have bh:(0:Int)≤(i:Int)+1:=by omega
      have bi:¬(cap=i+1):=by omega
      have bj:(i:Int)≤(n:Int)+1:=by omega
      have bk:¬(cap=i):=by omega
      have bs:((i:Int)+1).toNat=i+1:=by omega
      have a8:((n:Int)+1).toNat=n+1:=by omega
      have bl:(i:Int)+1≤(n:Int)+1:=by omega
      have bm:(n:Int)+1≤(cap:Int):=by omega
      clear hI hB ao E d aa hV ab hl hi am Xg ac ai ak Z ae q J hW1 hW2 b1 s1 C1 ay hn R ag
      go_enter func124,ntmps124
      go_wp2_with (simp only[bq])
      refine Qj [(0,0),(0,1),(0,2),(0,3),(0,4),(0,5),(0,6),(0,7),(2,8)] Zq (by kernel_rfl) (fun _ _ _ _ _ h=>h) ?_
      simp only[Jk,Zf,Ze,Zd]
      iterate 8 (refine Jq (by kernel_rfl) (by go_simp;try rfl) ?_)
      refine J7 ?_
      go_wp2_with fail
      refine Jo ?_
      clear B
      go_wp2
      go_ret
      have F2:=FF.o
      rw[←HN.o]at F2
      exact⟨_,rfl,F2.1,F2.2.undrew.mono (fun k e=>.inl (by rw[e];rfl)),.inl rfl⟩
    ·
      obtain⟨i0,z0,a0,a9,a7,al,az⟩:=intT.hi
      obtain⟨r,hr⟩:=Zx (w.heap.size)
      obtain⟨G,hG⟩:=Zx (grownCap w (n+1) cap 3)
      have bg:n+1≤G:=by rw[hG];exact grownCap_ge _ _ _ _
      have au:G≤maxLen:=by rw[hG];exact grownCap_le_maxLen _ _ _ _ (by simp only[maxLen];omega)
      obtain⟨z,U⟩:∃z:Array Value,z=((l.take i).map fun y=>Value.int .i64 y).toArray++Builtin.zeroCells z0.cells (n+1-i)++Builtin.zeroCells z0.cells (G-(n+1)):=⟨_,rfl⟩
      have ba:z0.cells.size=1:=by rw[az];rfl
      have bb:∀k,(Builtin.zeroCells z0.cells k).size=k:=fun k=>by simp[Builtin.zeroCells,ba]
      have aw:z.size=G:=by
        rw[U]
        simp only[Array.size_append,bb,List.size_toArray,List.length_map,List.length_take]
        omega
      have aj:(Builtin.firstCells i0.size i (.slice (some ⟨g,0,none⟩) i cap)).run prog w.drew=.ok ((l.take i).map fun y=>Value.int .i64 y).toArray w.drew:=by
        rw[a7]
        refine run_firstCells_some w.drew 1 i ⟨g,0,none⟩ i cap ((l.take i).map fun y=>Value.int .i64 y) (by rw[List.length_map,List.length_take];omega) (fun j u c=>?_)
        rw[Addr.add_lit,Nat.zero_add]
        rw[List.getElem?_map,List.getElem?_take]at c
        split at c
        · cases hy : l[j]? with
          | none => rw [hy] at c; cases c
          | some y =>
            rw[hy]at c
            obtain rfl:=Zs c
            rw[hB.drew.cell]
            exact E _ _ hy
        · cases c
      have an:∀ty,(Builtin.append_ #[46,3] ty #[.slice (some ⟨g,0,none⟩) i cap,.int .i64 ((n:Int)+1-(i:Int))]).run prog w=.ok (.slice (some ⟨r,0,none⟩) (n+1) G) (w.drew.alloc (.cells z 3)):=fun ty=>by
        have h:=Lib.run_append_grow_zeros (P:=prog) w 46 3 ty 3 i0 z0 .i64 .i64 underlying46 underlying3 a0 a9 (some ⟨g,0,none⟩) i cap _ aj (n+1-i) (by omega) (by omega) (by omega) (by omega) (by rw[al];omega) (by rw[al,show i+(n+1-i)=n+1 by omega];exact growslice_fits (by omega) (by omega))
        rw[show i+(n+1-i)=n+1 by omega,show((n+1-i:Nat):Int)=(n:Int)+1-(i:Int) by omega,←hG,←U,←hr]at h
        exact h
      have av:∀(k:Nat)(y:Int),k<i→l[k]? =some y→z[k]? =some (.int .i64 y):=fun k y hk hy=>by
        have bz:((l.take i).map fun y=>Value.int .i64 y).toArray.size=i:=by simp;omega
        rw[U,Array.append_assoc,Array.getElem?_append_left (by omega)]
        simp only[Zf,List.getElem?_map,List.getElem?_take,if_pos hk,hy]
        rfl
      obtain⟨W0,af⟩:=Zx (w.drew.alloc (.cells z 3))
      have B0:Qh W0 r z 3:=by rw[af];exact Qh.new' _ _ hr
      have C0:Qc Qb w W0:=by rw[af];exact(Zg Qb w).drew.alloc _
      rw[←af]at an
      have ax:=C0.blk hV (fun h=>h)
      have aq:=C0.blk hB (fun h=>h)
      have B:∀ty K,(Builtin.copy_ #[46,46] ty #[.slice (some ⟨r,i,none⟩) (n+1-i) K,.slice (some ⟨vb,0,none⟩) 1 1]).run prog W0=.ok (.int .i64 1) (W0.setCells r i [.int .i64 x]):=fun ty K=>
        run_copy_cells (P:=prog) W0 46 46 ty 3 r i (n+1-i) K ⟨vb,0,none⟩ 1 1 [Value.int .i64 x] underlying46 Gg (by simp only[Nat.min_def,Zm,List.length_nil];split<;>omega)
          (fun j u c => by
            cases j with
            | zero => obtain rfl := Zs c; exact Jf ax
            | succ j => cases c)
          (fun j c => by
            have:j=0:=by simpa using c
            subst this
            rw[B0.cell,Array.getElem?_eq_getElem (by omega)];rfl) (fun j c=>B0.frozen _) (fun u hu=>by
            obtain rfl:u=_:=by simpa using hu
            rfl)
      obtain⟨W1,hW1⟩:=Zx (W0.setCells r i [.int .i64 x])
      obtain⟨c1,b1,s1,_,C1⟩:=Vc [Value.int .i64 x] i W0 z B0 (by simp only[Zm,List.length_nil];omega)
      rw[←hW1]at b1 C1 B
      have ar:=C1.blk aq (fun e=>by omega)
      have V:∀ty K sc,(Builtin.copy_ #[46,46] ty #[.slice (some ⟨r,i+1,none⟩) (n-i) K,.slice (some ⟨g,i,none⟩) (n-i) sc]).run prog W1.drew=.ok (.int .i64 ((n-i:Nat):Int)) (W1.drew.setCells r (i+1) ((l.drop i).map fun y=>.int .i64 y)):=fun ty K sc=>by
        have h:=run_copy_cells (P:=prog) W1.drew 46 46 ty 3 r (i+1) (n-i) K ⟨g,i,none⟩ (n-i) sc ((l.drop i).map fun y=>Value.int .i64 y) underlying46 Gg (by rw[Z];simp only[Nat.min_def];split<;>omega)
          (fun j u c => by rw [Addr.add_lit]; exact q W1.drew (fun k => by rw [ar.drew.cell, hB.cell]) j u c) (fun j c => by rw [b1.drew.cell, Array.getElem?_eq_getElem (by omega)]; rfl) (fun j c => b1.drew.frozen _) ae
        rw[Z]at h
        exact h
      have I:=Qtr (w:=W0.drew) (i:=i) x Xg B0.drew aw (by omega) au (fun k y hk hy=>av k y hk hy)
      rw[←Wd r [Value.int .i64 x] i W0,←hW1]at I
      obtain⟨W2,hW2⟩:=Zx (W1.drew.setCells r (i+1) ((l.drop i).map fun y=>.int .i64 y))
      rw[←hW2]at V I
      have FF:=O (Zt I.1 (C0.trans I.2.undrew fun k e=>.inr (by omega):Qc Qb w W2))
      have HR:=O hr
      have e1:(((i:Int)==(n:Int)))=false:=by
        have:(i:Int)≠(n:Int):=by omega
        simpa using this
      have bd:decide ((i:Int)=(n:Int))=false:=by
        have:(i:Int)≠(n:Int):=by omega
        simpa using this
      have bf:IntKind.i64.wrap ((n:Int)+1)=(n:Int)+1:=by rw[IntWalk.i64_in _ (by omega)]
      have be:IntKind.i64.wrap ((i:Int)+1)=(i:Int)+1:=by rw[IntWalk.i64_in _ (by omega)]
      have bu:IntKind.i64.wrap ((n:Int)+1-(i:Int))=(n:Int)+1-(i:Int):=by rw[IntWalk.i64_in _ (by omega)]
      have bc:decide ((cap:Int)<(n:Int)+1)=true:=by simp;omega
      rw[←hn]
      have a1:i<n:=by omega
      have bp:n<1099511627776:=by omega
      have bh:(0:Int)≤(i:Int)+1:=by omega
      have bi:¬(G=i+1):=by omega
      have bj:(i:Int)≤(n:Int)+1:=by omega
      have bk:¬(G=i):=by omega
      have bt:¬(cap=i):=by omega
      have bs:((i:Int)+1).toNat=i+1:=by omega
      have a8:((n:Int)+1).toNat=n+1:=by omega
      have bl:(i:Int)+1≤(n:Int)+1:=by omega
      have bm:(i:Int)≤(cap:Int):=by omega
      have bv:(i:Int)≤(n:Int):=by omega
      clear hI hB ao E d aa hV ab hl hi am Xg ac ai ak Z ae q af hW1 hW2 b1 s1 C1 hn R ag a0 a9 a7 al az hr hG bg au U ba bb aw aj av B0 C0 ax aq ar I
      go_enter func124,ntmps124
      go_wp2_with (at_builtin;refine Lib.wpList_append_run _ rfl (.tmp 34) (.tmp 39) 46 3 rfl _ _ rfl rfl _ _ (an _) ?_)
      clear an
      go_wp2_with fail
      clear B
      refine Qj [(0,0),(0,1),(0,2),(0,3),(0,4),(0,5),(0,6),(0,7),(2,8)] Zq (by kernel_rfl) (fun _ _ _ _ _ h=>h) ?_
      simp only[Jk,Zf,Ze,Zd]
      iterate 5 (refine Jq (by kernel_rfl) (by go_simp;try rfl) ?_)
      iterate 2 (refine Jq (by kernel_rfl) (by go_simp;try rfl) ?_)
      refine Jq (by kernel_rfl) (by go_simp;try rfl) ?_
      try simp only[Act.put,Za,Zc,Zb]
      refine J7 ?_
      go_wp2_with fail
      refine Jo ?_
      clear V
      go_wp2
      go_ret
      have F2:=FF.o
      rw[←HN.o]at F2
      exact⟨_,rfl,F2.1,F2.2.none,.inr ⟨_,rfl,Nat.le_of_eq HR.o.symm⟩⟩
end
end Go.Proofs.YtnnhmpehkbihnaaGreat
