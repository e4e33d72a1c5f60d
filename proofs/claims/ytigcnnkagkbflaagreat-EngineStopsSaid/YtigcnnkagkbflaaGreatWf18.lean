/- A part of the proof: no condition. -/
import Derived.Test.YtigcnnkagkbflaaGreatWf16
namespace Go.Proofs.YtigcnnkagkbflaaGreat
set_option linter.unusedVariables false
set_option maxRecDepth 100000
set_option maxHeartbeats 4000000
open Go.RowKit
open Go.Proofs.Tryz
attribute [local go_sem] Qp
attribute [local irreducible] Kl J9 Xo
section
variable{P:Program}{w:World}{t kt e:TypeId}{b r:Nat}{l left:List (Int×Value)}
theorem Tc{X:Type}{q:X→Bool}{f:X→X}:∀{l:List X}{n:Nat},(∀x,l[n]? =some x→q x=false∧q (f x)=false)→(l.modify n f).filter q=l.filter q
 |[],n,_=>by simp
 |x::l,0,h=>by obtain⟨c,d⟩:=h x rfl;simp[List.modify_cons,c,d]
 |x::l,n+1,h=>by have u:=Tc (l:=l) (n:=n) (f:=f) (q:=q) fun y k=>h y (by simpa using k);simp only[List.modify_succ_cons,List.filter_cons,u]
theorem Qbt{k:Int}{v:Value}:∀{l left:List (Int×Value)},left.Sublist l→(∀p∈left,p.1≠k)→left.Sublist (Oi k v l)
 |[],left,h,_=>by have:left=[]:=List.sublist_nil.1 h;subst this;exact List.nil_sublist _
 |p::l,left,h,hn=>by
  rw[Oi];split
  ·rename_i c;cases h with
   |cons _ h=>exact .cons _ h
   |cons_cons _ h=>exact absurd c.symm (hn _ (by simp))
  ·cases h with
   |cons _ h=>exact .cons _ (Qbt h hn)
   |cons_cons _ h=>exact .cons_cons _ (Qbt h fun q d=>hn q (by simp[d]))
theorem Qbi(h:Kj w b r l left)(ht:P.underlying t=some (.map kt e))(hk:P.underlying kt=some (.int .i64))(k:Int)(v:Value)(E:∃p∈l,p.1=k)(af:∀p∈left,p.1≠k):
  ∃w',(Instr.mapUpdate t (.map (some b)) (ZI k) v).run P w=.ok () w'∧Kj w' b r (Oi k v l) left∧Qc (fun j=>j=b) w w':=by
 obtain⟨w',J,hM,hc⟩:=X6 (P:=P) h.map ht hk k v;refine⟨w',J,?_,hc⟩;obtain⟨z,d,c,h1,h2,h3,h4,h5,h6,h7,h8,h9⟩:=h;have hb:b<w.heap.size:=(Z2.1 h1).1;have ah:w'.heap[r]? =some (.mapIter (some b) d c d):=hc.heap h6 (fun e=>h7 e);cases Z:Oe k l 0 with
 |none=> obtain⟨p,aj,ak⟩:=E;exact absurd ak (Pa Z p aj)
 |some q=>
  obtain⟨n,u⟩:=q;obtain⟨j,hj,ab,U⟩:=U6 Z;obtain rfl:n=j:=by omega
  have ac:z.toList.length=l.length:=by simpa using congrArg List.length h2
  have hn:n<z.size:=by rw[←ac]at ab;simpa using ab
  have I:z[n].key=ZI k:=by have:=congrArg (fun x=>x[n]?) h2;simp only[List.getElem?_map,U]at this;rw[Array.getElem?_toList,Array.getElem?_eq_getElem hn]at this;simpa using(congrArg Prod.fst (Zs this))
  have al:((Instr.keyThatStays (((z[n]?).map (·.key)).getD (ZI k)) (ZI k)).run P w)=.ok (ZI k) w:=by rw[Array.getElem?_eq_getElem hn];simp[I,Instr.keyThatStays,Instr.sameBits]
  have am:w'={w with heap:=w.heap.setIfInBounds b (.map (z.modify n fun e=>{e with key:=ZI k,val:=v}) d)}:=by have V:=J;unfold Instr.mapUpdate at V;simp only[Sem.run_bind,Qmp ht,Result.andThen_ok,Qkf h1,Ox hk,Dt hk k z.toList h2,Z]at V;simp only[al,Result.andThen_ok,Qsm _ h1]at V;injection V with _ V;exact V.symm
  have ai:w'.heap[b]? =some (.map (z.modify n fun e=>{e with key:=ZI k,val:=v}) d):=by rw[am];simp[hb]
  have K:(z.modify n fun e=>{e with key:=ZI k,val:=v}).toList.map (·.born)=z.toList.map (·.born):=by
   refine List.ext_getElem? fun i=>?_;simp only[List.getElem?_map,Array.getElem?_toList,Array.getElem?_modify];split;·cases z[i]? <;>rfl
   ·rfl
  refine⟨_,d,c,ai,?_,?_,by rw[K];exact h4,?_,ah,h7,?_,Qbt h9 af⟩
  ·rw[Ry (i:=0) (j:=n) (u:=u) (by rw[Z];simp)];refine List.ext_getElem? fun i=>?_;have aa:=congrArg (fun x=>x[i]?) h2;simp only[List.getElem?_map,Array.getElem?_toList]at aa;simp only[List.getElem?_map,Array.getElem?_toList,Array.getElem?_modify,List.getElem?_modify];by_cases E:n=i;·subst E;simp only[if_true,U,Array.getElem?_eq_getElem hn];simp
   ·simp only[E,if_false];simpa using aa
  ·rw[Fa ⟨(k,u),List.mem_of_getElem? U,rfl⟩];exact h3
  ·intro x hx;obtain⟨i,R⟩:=List.mem_iff_getElem?.1 hx;simp only[Array.getElem?_toList,Array.getElem?_modify]at R;split at R
   ·cases hy:z[i]? with
    |none=>rw[hy]at R;cases R
    |some y=> rw[hy]at R;obtain rfl:=Zs R;exact h5 y (List.mem_of_getElem? (by rw[Array.getElem?_toList];exact hy))
   ·exact h5 x (List.mem_of_getElem? (by rw[Array.getElem?_toList];exact R))
  ·rw[←h8];have B:c.contains z[n].born=true:=by
    cases hs:c.contains z[n].born with
    |true=>rfl
    |false=>
     exfalso;have hm:z[n]∈(leftOf z c).toList:=by unfold leftOf;rw[Array.toList_filter];exact List.mem_filter.2 ⟨by simp,by show(!c.contains z[n].born)=true;rw[hs];rfl⟩
     have ae:=List.mem_map_of_mem (f:=fun e:MapEntry=>(e.key,e.val)) hm;rw[h8]at ae;obtain⟨p,Z,ag⟩:=Z3.1 ae;simp only[Prod.mk.injEq]at ag;have e1:=ag.1;rw[I]at e1;injection e1 with _ e1;exact af p Z e1
   congr 1;unfold leftOf;simp only[Array.toList_filter,Array.toList_modify];refine Tc fun x hx=>?_;rw[Array.getElem?_toList,Array.getElem?_eq_getElem hn]at hx;obtain rfl:=Zs hx;exact⟨by show(!c.contains z[n].born)=false;rw[B];rfl,by show(!c.contains z[n].born)=false;rw[B];rfl⟩
end
theorem Qk0{w}{b:Nat}{L:List (Int×Value)}(h:Xq w b L):ZW 88 #[.map (some b)] w (.map (some w.heap.size)) fun w'=>Xq w' w.heap.size L∧Qc Qb w w':=by obtain⟨q,d,u,c⟩:=h;have k:=O c;have z:=fun w=>run_eql_map_nil_sl (P:=prog) w 111 _ _ (some b) underlying111;clear c;go_enter func88,ntmps88;go_wp2;rw[run_callFunc_extern func144 (by kernel_rfl) (by kernel_rfl) (by kernel_rfl) (e:=Extern.MapsClone.clone) (by kernel_rfl),run_maps_clone_sl w 111 u];simp only[Result.andThen];rw[Oper.upon_value];go_wp2;rw[run_typeAssert_map_sl _ 111 _ _ _ _ underlying111];simp only[Result.andThen];rw[Oper.upon_value];go_wp2;go_ret;exact⟨rfl,⟨q,d,(MapKept.heap_alloc w _).1,k.o⟩,(Zg _ _).alloc _⟩
theorem Qhy{w}{b:Nat}{L:List (Int×Value)}(h:Xq w b L):ZW 89 #[.map (some b)] w (.map (some w.heap.size)) fun w'=>Xq w' w.heap.size L∧Qc Qb w w':=by obtain⟨q,d,u,c⟩:=h;have k:=O c;have z:=fun w=>run_eql_map_nil_sl (P:=prog) w 112 _ _ (some b) underlying112;clear c;go_enter func89,ntmps89;go_wp2;rw[run_callFunc_extern func144 (by kernel_rfl) (by kernel_rfl) (by kernel_rfl) (e:=Extern.MapsClone.clone) (by kernel_rfl),run_maps_clone_sl w 112 u];simp only[Result.andThen];rw[Oper.upon_value];go_wp2;rw[run_typeAssert_map_sl _ 112 _ _ _ _ underlying112];simp only[Result.andThen];rw[Oper.upon_value];go_wp2;go_ret;exact⟨rfl,⟨q,d,(MapKept.heap_alloc w _).1,k.o⟩,(Zg _ _).alloc _⟩
structure Ai(w:World)(h:Qm)(l:List Vm)(b' ma mu r:Nat)(wr:World)(vsr left:List (Int×Value)):Prop where
 it:Kj wr mu r vsr left
 chg:Qc Qb w wr
 blk:Qh wr b' #[.map (some ma),.map (some mu)] 114
 mall:Xq wr ma (Us l)
 has:∀p∈vsr,Q6 wr p.2 (h.aM p.1)
 own:∀p∈vsr,∀k,p.2.ownBlock=some k→(p∈left∧k<w.heap.size)∨(w.heap.size≤k∧k<wr.heap.size∧k≠b'∧k≠ma∧k≠mu∧k≠r)
 dis:∀p∈vsr,∀q∈vsr,∀k,p.2.ownBlock=some k→q.2.ownBlock=some k→p.1=q.1
 miss:∀i,(∀p∈vsr,p.1≠i)→h.aM i=[]
 ne:b'≠ma∧b'≠mu∧ma≠mu∧r≠b'∧r≠ma∧r≠mu
 lo:w.heap.size≤b'∧w.heap.size≤ma∧w.heap.size≤mu∧w.heap.size≤r
section
variable{w wr w2 w3:World}{h:Qm}{l:List Vm}{b' ma mu r:Nat}{vsr left:List (Int×Value)}
theorem Ai.fin(C:Ai w h l b' ma mu r wr vsr [])(q:l.Perm h):Q9 wr (Qn Qb w wr) b' h∧Qc Qb w wr:=by
 have z:=C.it.map;obtain⟨I,J,K,Z,n5,n6⟩:=C.ne;obtain⟨E,R,U,V⟩:=C.lo;have d:∀p∈vsr,∀k,p.2.ownBlock=some k→w.heap.size≤k∧k<wr.heap.size∧k≠b'∧k≠ma∧k≠mu∧k≠r:=fun p q k c=>(C.own p q k c).resolve_left fun e=>by cases e.1
 refine⟨⟨ma,mu,l,vsr,q,?_⟩,C.chg⟩;have B:Bd (Qn Qb w wr) wr:=fun k c=>c.elim (fun h=>h.elim) (fun h=>h.2);have u:Y7 wr (fun k=>k=mu∨∃p∈vsr,p.2.ownBlock=some k) mu vsr h:=⟨z,fun k c=>c.elim (fun e=>e▸z.lt) (fun⟨p,q,c⟩=>(d p q k c).2.1),.inl rfl,C.has,fun p q k c=>⟨.inr ⟨p,q,c⟩,(d p q k c).2.2.2.2.1⟩,C.dis,C.miss⟩;refine Q7 (G:=fun k=>k=b') (H:=fun k=>k=ma∨k=mu∨∃p∈vsr,p.2.ownBlock=some k) ⟨C.blk,rfl,fun k e=>e▸C.blk.lt⟩ ?_ ?_ ?_ ?_ B
 ·refine Q7 (G:=fun k=>k=ma) (H:=fun k=>k=mu∨∃p∈vsr,p.2.ownBlock=some k) ⟨C.mall,rfl,fun k e=>e▸C.mall.lt⟩ (Y6 u u.bd) ?_ (fun k e=>.inl e) (fun k c=>.inr c) ?_
  ·rintro k rfl(e|⟨p,q,c⟩);·exact K e
   ·exact(d p q _ c).2.2.2.1 rfl
  ·exact fun k c=>c.elim (fun e=>e▸C.mall.lt) (u.bd k)
 ·rintro k rfl(e|e|⟨p,q,c⟩);·exact I e
  ·exact J e
  ·exact(d p q _ c).2.2.1 rfl
 ·rintro k rfl;exact .inr ⟨E,C.blk.lt⟩
 ·rintro k(e|e|⟨p,q,c⟩);·exact .inr ⟨by omega,e▸C.mall.lt⟩
  ·exact .inr ⟨by omega,e▸z.lt⟩
  ·exact .inr ⟨(d p q k c).1,(d p q k c).2.1⟩
theorem Ai.step(C:Ai w h l b' ma mu r wr vsr left){p:Int×Value}(hp:p∈left)(ab:Kj w2 mu r vsr (Vu p.1 left))(c2:Qc (fun j=>j=r) wr w2)(c3:Qc Qb w2 w3){K:Value}(hv:Q6 w3 K (h.aM p.1))(hn:∀k,K.ownBlock=some k→w2.heap.size≤k):
  ∃w4,(Instr.mapUpdate 112 (.map (some mu)) (ZI p.1) K).run prog w3=.ok () w4∧Ai w h l b' ma mu r w4 (Oi p.1 K vsr) (Vu p.1 left):=by
 obtain⟨n1,n2,n3,n4,n5,n6⟩:=C.ne;obtain⟨l1,l2,l3,l4⟩:=C.lo;have ac:p∈vsr:=C.it.sub.subset hp;have B:=C.it.map.nodup;have ai:r<wr.heap.size:=by obtain⟨es,aa,ae,_,_,_,_,_,h6,_⟩:=C.it;exact(Z2.1 h6).1
 obtain⟨w4,V,R,c4⟩:=Qbi (P:=prog) (ab.aB c3 (fun h=>h) (fun h=>h)) underlying112 underlying3 p.1 K ⟨p,ac,rfl⟩ (fun q d=>by have:=(List.mem_filter.1 d).2;simpa using this);have s2:=c2.size;have s3:=c3.size;have s4:=c4.size;have ag:=C.blk.lt;have af:=C.mall.lt;have ah:=C.it.map.lt;have E:Qc (fun j=>j=r∨j=mu) wr w4:=((c2.mono fun k c=>.inl (.inl c)).trans c3 fun k c=>c.elim).trans c4 fun k c=>.inl (.inr c);refine⟨w4,V,R,C.chg.trans E fun k c=>.inr (c.elim (fun e=>by omega) (fun e=>by omega)),E.blk C.blk (fun e=>e.elim (fun e=>n4 e.symm) (fun e=>n2 e)),C.mall.aB E (fun e=>e.elim (fun e=>n5 e.symm) (fun e=>n3 e)),fun q d=>?_,fun q d k c=>?_,fun q d q' u k c I=>?_,fun i hi=>?_,C.ne,C.lo⟩
 ·rcases Hu B d with rfl|⟨d,J⟩;·refine hv.aB c4 fun k c e=>?_;have:=hn k c;omega
  ·refine(C.has q d).aB E fun k c e=>?_;rcases C.own q d k c with⟨_,z⟩|⟨_,_,_,_,h5,h6⟩;·rcases e with e|e<;>omega
   ·exact e.elim h6 h5
 ·rcases Hu B d with rfl|⟨d,J⟩;·have z:=hn k c;have h2:=hv.lt k c;exact .inr ⟨by omega,by omega,by omega,by omega,by omega,by omega⟩
  ·rcases C.own q d k c with⟨h0,z⟩|⟨z,h2,h3⟩;·exact .inl ⟨List.mem_filter.2 ⟨h0,by simpa using J⟩,z⟩
   ·exact .inr ⟨z,by omega,h3⟩
 ·have Z:∀q∈vsr,∀k,q.2.ownBlock=some k→k<wr.heap.size:=fun q d k c=>by
   rcases C.own q d k c with⟨_,z⟩|⟨_,h2,_⟩;·have:=C.chg.size;omega
   ·exact h2
  rcases Hu B d with rfl|⟨d,J⟩
  ·rcases Hu B u with rfl|⟨u,U⟩;·rfl
   ·have z:=hn k c;have:=Z q' u k I;omega
  ·rcases Hu B u with rfl|⟨u,U⟩;·have z:=hn k I;have:=Z q d k c;omega
   ·exact C.dis q d q' u k c I
 ·refine C.miss i fun q d e=>?_;by_cases z:q.1=p.1;·exact hi _ (Qbr p.1 K vsr) (z.symm.trans e)
  ·exact hi q (Qbs d z) e
end
theorem Ww{w}{F:Fp}{b:Nat}{h:Qm}(hh:Q9 w F b h)(hl:h.length<1099511627776):
  Cl 50 #[ptr b] w fun e w'=>∃b',e=.returned (ptr b')∧Q9 w' (Qn Qb w w') b' h∧Qc Qb w w':=by
 obtain⟨ma,mu,l,vs,G,q,hn,aa,ac,E,fb,fm,fG,au,av,aw,ae,_⟩:=hh.opn;have HL:∀i,(h.aM i).length<1099511627776:=fun i=>by
  have:(h.aM i).length≤h.length:=by unfold Qm.aM;rw[List.length_map];exact List.length_filter_le _ _
  omega
 have ai:=O (fun w'(c:Qc Qb w w')=>Qk0 (ac.aB c (fun h=>h)));have aj:=O (fun w'(c:Qc Qb w w')=>Qhy (E.map.aB c (fun h=>h)));have HB:=O aa;have K:Hi (∀w0 w1 w2 w3,Qc Qb w w0→Qc Qb w0 w1→Qc Qb w1 w2→Xq w1 w0.heap.size (Us l)→Xq w2 w1.heap.size vs→w3=w2.alloc (.cells #[.map (some w0.heap.size),.map (some w1.heap.size)] 114)→
   ∃o,(Instr.range 112 (.map (some w1.heap.size))).run prog w3=.ok (.pointer (some ⟨w3.heap.size,0,none⟩)) (w3.alloc o)∧Qh w3 w2.heap.size #[.map (some w0.heap.size),.map (some w1.heap.size)] 114∧Ai w h l w2.heap.size w0.heap.size w1.heap.size w3.heap.size (w3.alloc o) vs vs):=O (by
  rintro w0 w1 w2 w3 c0 c1 U u z rfl;have c3:Qc Qb w2 (w2.alloc (.cells #[.map (some w0.heap.size),.map (some w1.heap.size)] 114)):=(Zg _ _).alloc _;have d:Qh (w2.alloc (.cells #[.map (some w0.heap.size),.map (some w1.heap.size)] 114)) w2.heap.size #[.map (some w0.heap.size),.map (some w1.heap.size)] 114:=Qh.new _ _ _;obtain⟨w3,ar⟩:=Zx (w2.alloc (.cells #[.map (some w0.heap.size),.map (some w1.heap.size)] 114));rw[←ar]at c3 d⊢;obtain⟨o,R,ap⟩:=Er (P:=prog) (z.aB c3 (fun h=>h)) underlying112;have c4:Qc Qb w3 (w3.alloc o):=(Zg _ _).alloc _;have cA:Qc Qb w (w3.alloc o):=(((c0.aA c1).aA U).aA c3).aA c4;have s0:=c0.size;have z1:=u.lt;have z2:=z.lt;have z3:=d.lt;have s1:=c1.size;have s2:=U.size;have hU:=E.aB cA (Jl.none G);exact⟨o,R,d,ap,cA,c4.blk d (fun h=>h),(u.aB U (fun h=>h)).aB (c3.aA c4) (fun h=>h),hU.has,fun p q k hk=>.inl ⟨q,ae k (fG k (E.own p q k hk).1)⟩,hU.dis,hU.miss,⟨by omega,by omega,by omega,by omega,by omega,by omega⟩,⟨by omega,by omega,by omega,by omega⟩⟩)
 have HP:=O q;have am:=O HL;clear hh q hn ac E fb fm fG au av aw ae hl HL;obtain⟨a0,a1⟩:=Q4 (HB.o.drew);clear aa;go_enter func50,ntmps50;go_wp2_with fail;refine ZC [0,1,2,3,105,106,107,108,204,309,10,311,312] (fun wv=>Qc (Qb) (w) wv) ?_;simp only[Z8,Zf,Ze,Zd];iterate 4 (refine Xe (h:=?_))
 iterate 3 (refine Qy (h:=?_);try simp only[Act.put,Za,Zc,Zb])
 iterate 1 (refine Qy (by kernel_rfl) (fun wv hv=>by(obtain⟨z0,z1⟩:=Q4 (hv.blk HB.o (fun h=>h)));go_simp;try rfl) ?_;try simp only[Act.put,Za,Zc,Zb])
 clear a0 a1;refine Yb ?_;go_wp2_with fail;refine Zz (ai.o w.drew (Zg Qb w).drew) ?_;rintro w1⟨u,c1⟩;have T1:=O (Zt u c1);clear u c1;go_wp2_with fail;refine⟨((Zg Qb w).drew.aA T1.o.2),?_⟩;refine Km ?_;go_wp2_with fail;refine Zz (aj.o w1 ((Zg Qb w).drew.aA T1.o.2)) ?_;rintro w2⟨z,U⟩;obtain⟨o,R,d,B⟩:=K.o w.drew w1 w2 _ (Zg Qb w).drew T1.o.2 U T1.o.1 z rfl;have ez:w.drew.heap.size=w.heap.size:=rfl;rw[ez]at R d B;rw[show(w2.alloc (.cells #[.map (some w.heap.size),.map (some w1.heap.size)] 114)).heap.size=w2.heap.size+1 by simp]at R B;clear ez;have ak:=O B;have e1:=(Q4 d).2;clear z U B d;go_wp2_with fail;refine Xe (h:=?_);refine Km ?_;go_wp2_with fail;refine Km ?_;go_wp2_with fail;refine Ky ?_;go_wp2_with fail;go_loopw [4,5] (fun _ _ wr=>∃vsr left,Ai w h l w2.heap.size w.heap.size w1.heap.size (w2.heap.size+1) wr vsr left) (fun _ _ wr=>Dq wr (w2.heap.size+1));case atStart=>exact⟨_,_,ak.o⟩
 case round=>
  obtain⟨vsr,left,C⟩:=hrel;obtain⟨e1,e2⟩:=Q4 C.blk;rcases Rx (P:=prog) C.it 0 with⟨h0,R⟩|⟨p,q,w4,R,J,I,ao⟩;·subst h0;have ah:=O (C.fin HP.o);clear C;go_wp2_with fail;go_ret;exact⟨_,rfl,ah.o⟩
  ·have al:=O J;have C4:=O I;have CC:=O C;have B4:=O (I.blk C.blk (fun e=>by have:=C.ne.2.2.2.1;omega));have ax:=O (C.it.sub.subset q);have an:=O q;have Z:Hi ((Vu p.1 left).length<left.length):=O (by
    unfold Vu;exact List.length_filter_lt_length_iff_exists.2 ⟨p,q,by simp⟩)
   have LW:=O C.it.left_eq;have HV:=O ((C.has p (C.it.sub.subset q)).aB I (fun k hk e=>by
    rcases C.own p (C.it.sub.subset q) k hk with⟨_,h1⟩|⟨_,_,_,_,_,h6⟩;·have:=C.lo.2.2.2;omega
    ·exact h6 e))
   clear C J I q;go_wp2_with fail;clear R ao e1 e2;obtain⟨z0,z1⟩:=Q4 (B4.o.drew);refine ZC [100,101,102,103,104,5,206,307] (fun wv=>Qc (Qb) (w4) wv) ?_;simp only[Z8,Zf,Ze,Zd];iterate 3 (refine Qy (h:=?_);try simp only[Act.put,Za,Zc,Zb])
   iterate 1 (refine Qy (by kernel_rfl) (fun wv hv=>by(obtain⟨ay,az⟩:=Q4 (hv.blk B4.o (fun h=>h)));go_simp;try rfl) ?_;try simp only[Act.put,Za,Zc,Zb])
   (refine Qy (h:=?_);try simp only[Act.put,Za,Zc,Zb]);refine Xe (h:=?_);clear z0 z1;refine Yb ?_;go_wp2_with fail;refine(Fy p.2 _ w4.drew (Q6.aB HV.o (Zg Qb w4).drew (fun _ _ h=>h)) (am.o p.1)).mono ?_;rintro e w5⟨v',rfl,ag,c5,af,_⟩;have C5:=O c5.aT;obtain⟨w6,aq,ab⟩:=CC.o.step an.o al.o C4.o c5.aT ag af;have V:=O ab;clear ag c5 af ab;go_wp2_with fail;refine⟨C5.o,?_⟩;refine Km ?_;go_wp2_with fail;refine Ky ?_;clear aq;go_wp2_with fail;go_roundw;case measure=> rw[V.o.it.left_eq,CC.o.it.left_eq];exact Z.o
   case rel=>exact⟨_,_,V.o⟩
end Go.Proofs.YtigcnnkagkbflaaGreat
