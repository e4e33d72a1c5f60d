/- A part of the proof: no condition. -/
import Derived.Test.YtnnhmpehkbihnaaGreatPk35
namespace Go.Proofs.YtnnhmpehkbihnaaGreat
set_option linter.unusedVariables false
set_option maxRecDepth 100000
set_option maxHeartbeats 4000000
open Go.RowKit
open Go.Proofs.Tryz
section
attribute [local go_sem] Qp
attribute [local irreducible] Kl J9 Xo
theorem Qk0{w}{b:Nat}{L:List (Int×Value)}(h:Xq w b L):Cl 79 #[.map (some b)] w fun e w'=>e=.returned (.map (some w.heap.size))∧Xq w' w.heap.size L∧Qc Qb w w':=by obtain⟨q,d,u,c⟩:=h;have k:=O c;have z:=fun w=>run_eql_map_nil_sl (P:=prog) w 89 _ _ (some b) underlying89;clear c;go_enter func79,ntmps79;go_wp2;rw[run_callFunc_extern func142 (by kernel_rfl) (by kernel_rfl) (by kernel_rfl) (e:=Extern.MapsClone.clone) (by kernel_rfl),run_maps_clone_sl w 89 u];simp only[Result.andThen];rw[Oper.upon_value];go_wp2;rw[run_typeAssert_map_sl _ 89 _ _ _ _ underlying89];simp only[Result.andThen];rw[Oper.upon_value];go_wp2;go_ret;exact⟨rfl,⟨q,d,(MapKept.heap_alloc w _).1,k.o⟩,(Zg _ _).alloc _⟩
theorem Qhy{w}{b:Nat}{L:List (Int×Value)}(h:Xq w b L):Cl 80 #[.map (some b)] w fun e w'=>e=.returned (.map (some w.heap.size))∧Xq w' w.heap.size L∧Qc Qb w w':=by obtain⟨q,d,u,c⟩:=h;have k:=O c;have z:=fun w=>run_eql_map_nil_sl (P:=prog) w 90 _ _ (some b) underlying90;clear c;go_enter func80,ntmps80;go_wp2;rw[run_callFunc_extern func142 (by kernel_rfl) (by kernel_rfl) (by kernel_rfl) (e:=Extern.MapsClone.clone) (by kernel_rfl),run_maps_clone_sl w 90 u];simp only[Result.andThen];rw[Oper.upon_value];go_wp2;rw[run_typeAssert_map_sl _ 90 _ _ _ _ underlying90];simp only[Result.andThen];rw[Oper.upon_value];go_wp2;go_ret;exact⟨rfl,⟨q,d,(MapKept.heap_alloc w _).1,k.o⟩,(Zg _ _).alloc _⟩
structure Ai(w:World)(h:Qm)(l:List Vm)(b' ma mu r:Nat)(wr:World)(vsr left:List (Int×Value)):Prop where
 it:Kj wr mu r vsr left
 chg:Qc Qb w wr
 blk:Qh wr b' #[.map (some ma),.map (some mu)] 92
 mall:Xq wr ma (Us l)
 has:∀p∈vsr,Q6 wr p.2 (h.aM p.1)
 own:∀p∈vsr,∀k,p.2.ownBlock=some k→(p∈left∧k<w.heap.size)∨(w.heap.size≤k∧k<wr.heap.size∧k≠b'∧k≠ma∧k≠mu∧k≠r)
 dis:∀p∈vsr,∀q∈vsr,∀k,p.2.ownBlock=some k→q.2.ownBlock=some k→p.1=q.1
 miss:∀i,(∀p∈vsr,p.1≠i)→h.aM i=[]
 ne:b'≠ma∧b'≠mu∧ma≠mu∧r≠b'∧r≠ma∧r≠mu
 lo:w.heap.size≤b'∧w.heap.size≤ma∧w.heap.size≤mu∧w.heap.size≤r
section
variable{w wr w2 w3:World}{h:Qm}{l:List Vm}{b' ma mu r:Nat}{vsr left:List (Int×Value)}
theorem Ai.fin(C:Ai w h l b' ma mu r wr vsr [])(q:l.Perm h):Q9 wr (Qn Qb w wr) b' h∧Qc Qb w wr:=by
 have z:=C.it.map;obtain⟨B,E,I,R,U,V⟩:=C.ne;obtain⟨l1,l2,J,K⟩:=C.lo;have d:∀p∈vsr,∀k,p.2.ownBlock=some k→w.heap.size≤k∧k<wr.heap.size∧k≠b'∧k≠ma∧k≠mu∧k≠r:=fun p q k c=>(C.own p q k c).resolve_left fun e=>by cases e.1
 refine⟨⟨ma,mu,l,vsr,q,?_⟩,C.chg⟩;have bd:Bd (Qn Qb w wr) wr:=fun k c=>c.elim (fun h=>h.elim) (fun h=>h.2);have u:Y7 wr (fun k=>k=mu∨∃p∈vsr,p.2.ownBlock=some k) mu vsr h:=⟨z,fun k c=>c.elim (fun e=>e▸z.lt) (fun⟨p,q,c⟩=>(d p q k c).2.1),.inl rfl,C.has,fun p q k c=>⟨.inr ⟨p,q,c⟩,(d p q k c).2.2.2.2.1⟩,C.dis,C.miss⟩;refine Q7 (G:=fun k=>k=b') (H:=fun k=>k=ma∨k=mu∨∃p∈vsr,p.2.ownBlock=some k) ⟨C.blk,rfl,fun k e=>e▸C.blk.lt⟩ ?_ ?_ ?_ ?_ bd
 ·refine Q7 (G:=fun k=>k=ma) (H:=fun k=>k=mu∨∃p∈vsr,p.2.ownBlock=some k) ⟨C.mall,rfl,fun k e=>e▸C.mall.lt⟩ (Y6 u u.bd) ?_ (fun k e=>.inl e) (fun k c=>.inr c) ?_
  ·rintro k rfl(e|⟨p,q,c⟩);·exact I e
   ·exact(d p q _ c).2.2.2.1 rfl
  ·exact fun k c=>c.elim (fun e=>e▸C.mall.lt) (u.bd k)
 ·rintro k rfl(e|e|⟨p,q,c⟩);·exact B e
  ·exact E e
  ·exact(d p q _ c).2.2.1 rfl
 ·rintro k rfl;exact .inr ⟨l1,C.blk.lt⟩
 ·rintro k(e|e|⟨p,q,c⟩);·exact .inr ⟨by omega,e▸C.mall.lt⟩
  ·exact .inr ⟨by omega,e▸z.lt⟩
  ·exact .inr ⟨(d p q k c).1,(d p q k c).2.1⟩
theorem Ai.step(C:Ai w h l b' ma mu r wr vsr left){p:Int×Value}(hp:p∈left)(ab:Kj w2 mu r vsr (Vu p.1 left))(c2:Qc (fun j=>j=r) wr w2)(V:Qc Qb w2 w3){v':Value}(hv:Q6 w3 v' (h.aM p.1))(hn:∀k,v'.ownBlock=some k→w2.heap.size≤k):
  ∃w4,(Instr.mapUpdate 90 (.map (some mu)) (.int .i64 p.1) v').run prog w3=.ok () w4∧Ai w h l b' ma mu r w4 (Oi p.1 v' vsr) (Vu p.1 left):=by
 obtain⟨n1,n2,n3,n4,n5,n6⟩:=C.ne;obtain⟨l1,l2,l3,l4⟩:=C.lo;have ac:p∈vsr:=C.it.sub.subset hp;have z:=C.it.map.nodup;have ai:r<wr.heap.size:=by obtain⟨es,aa,ae,_,_,_,_,_,h6,_⟩:=C.it;exact(Z2.1 h6).1
 obtain⟨w4,R,J,Z⟩:=Qbi (P:=prog) (ab.aB V (fun h=>h) (fun h=>h)) underlying90 underlying3 p.1 v' ⟨p,ac,rfl⟩ (fun q d=>by have:=(List.mem_filter.1 d).2;simpa using this);have s2:=c2.size;have s3:=V.size;have s4:=Z.size;have ag:=C.blk.lt;have af:=C.mall.lt;have ah:=C.it.map.lt;have B:Qc (fun j=>j=r∨j=mu) wr w4:=((c2.mono fun k c=>.inl (.inl c)).trans V fun k c=>c.elim).trans Z fun k c=>.inl (.inr c);refine⟨w4,R,J,C.chg.trans B fun k c=>.inr (c.elim (fun e=>by omega) (fun e=>by omega)),B.blk C.blk (fun e=>e.elim (fun e=>n4 e.symm) (fun e=>n2 e)),C.mall.aB B (fun e=>e.elim (fun e=>n5 e.symm) (fun e=>n3 e)),fun q d=>?_,fun q d k c=>?_,fun q d q' u k c E=>?_,fun i hi=>?_,C.ne,C.lo⟩
 ·rcases Hu z d with rfl|⟨d,I⟩;·refine hv.aB Z fun k c e=>?_;have:=hn k c;omega
  ·refine(C.has q d).aB B fun k c e=>?_;rcases C.own q d k c with⟨_,h1⟩|⟨_,_,_,_,h5,h6⟩;·rcases e with e|e<;>omega
   ·exact e.elim h6 h5
 ·rcases Hu z d with rfl|⟨d,I⟩;·have h1:=hn k c;have h2:=hv.lt k c;exact .inr ⟨by omega,by omega,by omega,by omega,by omega,by omega⟩
  ·rcases C.own q d k c with⟨h0,h1⟩|⟨h1,h2,h3⟩;·exact .inl ⟨List.mem_filter.2 ⟨h0,by simpa using I⟩,h1⟩
   ·exact .inr ⟨h1,by omega,h3⟩
 ·have U:∀q∈vsr,∀k,q.2.ownBlock=some k→k<wr.heap.size:=fun q d k c=>by
   rcases C.own q d k c with⟨_,h1⟩|⟨_,h2,_⟩;·have:=C.chg.size;omega
   ·exact h2
  rcases Hu z d with rfl|⟨d,I⟩
  ·rcases Hu z u with rfl|⟨u,K⟩;·rfl
   ·have h1:=hn k c;have:=U q' u k E;omega
  ·rcases Hu z u with rfl|⟨u,K⟩;·have h1:=hn k E;have:=U q d k c;omega
   ·exact C.dis q d q' u k c E
 ·refine C.miss i fun q d e=>?_;by_cases h1:q.1=p.1;·exact hi _ (Qbr p.1 v' vsr) (h1.symm.trans e)
  ·exact hi q (Qbs d h1) e
end
theorem Ww{w}{F:Fp}{b:Nat}{h:Qm}(hh:Q9 w F b h)(hl:h.length<1099511627776):
  Cl 33 #[ptr b] w fun e w'=>∃b',e=.returned (ptr b')∧Q9 w' (Qn Qb w w') b' h∧Qc Qb w w':=by
 obtain⟨ma,mu,l,vs,G,q,hn,ab,ae,I,fb,fm,fG,av,aw,ax,af,_⟩:=hh.opn;have HL:∀i,(h.aM i).length<1099511627776:=fun i=>by
  have:(h.aM i).length≤h.length:=by unfold Qm.aM;rw[List.length_map];exact List.length_filter_le _ _
  omega
 have aj:=O (fun w'(c:Qc Qb w w')=>Qk0 (ae.aB c (fun h=>h)));have ak:=O (fun w'(c:Qc Qb w w')=>Qhy (I.map.aB c (fun h=>h)));have HB:=O ab;have u:Hi (∀w0 w1 w2 w3,Qc Qb w w0→Qc Qb w0 w1→Qc Qb w1 w2→Xq w1 w0.heap.size (Us l)→Xq w2 w1.heap.size vs→w3=w2.alloc (.cells #[.map (some w0.heap.size),.map (some w1.heap.size)] 92)→
   ∃o,(Instr.range 90 (.map (some w1.heap.size))).run prog w3=.ok (.pointer (some ⟨w3.heap.size,0,none⟩)) (w3.alloc o)∧Qh w3 w2.heap.size #[.map (some w0.heap.size),.map (some w1.heap.size)] 92∧Ai w h l w2.heap.size w0.heap.size w1.heap.size w3.heap.size (w3.alloc o) vs vs):=O (by
  rintro w0 w1 w2 w3 c0 c1 U z B rfl;have c3:Qc Qb w2 (w2.alloc (.cells #[.map (some w0.heap.size),.map (some w1.heap.size)] 92)):=(Zg _ _).alloc _;have d:Qh (w2.alloc (.cells #[.map (some w0.heap.size),.map (some w1.heap.size)] 92)) w2.heap.size #[.map (some w0.heap.size),.map (some w1.heap.size)] 92:=Qh.new _ _ _;obtain⟨w3,au⟩:=Zx (w2.alloc (.cells #[.map (some w0.heap.size),.map (some w1.heap.size)] 92));rw[←au]at c3 d⊢;obtain⟨o,hr,aq⟩:=Er (P:=prog) (B.aB c3 (fun h=>h)) underlying90;have c4:Qc Qb w3 (w3.alloc o):=(Zg _ _).alloc _;have cA:Qc Qb w (w3.alloc o):=(((c0.aA c1).aA U).aA c3).aA c4;have s0:=c0.size;have z1:=z.lt;have z2:=B.lt;have z3:=d.lt;have s1:=c1.size;have s2:=U.size;have hU:=I.aB cA (Jl.none G);exact⟨o,hr,d,aq,cA,c4.blk d (fun h=>h),(z.aB U (fun h=>h)).aB (c3.aA c4) (fun h=>h),hU.has,fun p q k hk=>.inl ⟨q,af k (fG k (I.own p q k hk).1)⟩,hU.dis,hU.miss,⟨by omega,by omega,by omega,by omega,by omega,by omega⟩,⟨by omega,by omega,by omega,by omega⟩⟩)
 have HP:=O q;have an:=O HL;clear hh q hn ae I fb fm fG av aw ax af hl HL;unfold ptr at*;obtain⟨a0,a1⟩:=Q4 (HB.o.drew);clear ab;go_enter func33,ntmps33;go_wp2_with fail;refine Jp [(0,0),(0,1),(0,2),(0,3),(1,5),(1,6),(1,7),(1,8),(2,4),(3,9),(0,10),(3,11),(3,12)] (fun R=>Qc (Qb) (w) R) Zq (by kernel_rfl) (fun _ _ _ _ _ h=>h) (by(repeat' (first|(with_reducible first|exact Zg _ _|assumption|refine Zh ?_ _|refine Zi ?_ _|refine Zj ?_|refine Zk ?_ _ ?_|(apply Or.inl;rfl))|(apply Or.inl;simp;done)|(apply Or.inr;simp;first|done|omega)))) ?_;simp only[Jk,Zf,Ze,Zd];iterate 4 (refine Xe (by kernel_rfl) (by go_simp;try rfl) ?_)
 iterate 3 (refine Qy (by kernel_rfl) (fun R V=>by go_simp;try rfl) ?_;try simp only[Act.put,Za,Zc,Zb])
 iterate 1 (refine Qy (by kernel_rfl) (fun R V=>by(obtain⟨z0,z1⟩:=Q4 (V.blk HB.o (fun h=>h)));go_simp;try rfl) ?_;try simp only[Act.put,Za,Zc,Zb])
 clear a0 a1;refine Yb ?_;go_wp2_with fail;refine Zz (aj.o w.drew (Zg Qb w).drew) ?_;rintro w1⟨z,c1⟩;have T1:=O (Zt z c1);clear z c1;go_wp2_with fail;refine⟨((Zg Qb w).drew.aA T1.o.2),?_⟩;refine Km ?_;go_wp2_with fail;refine Zz (ak.o w1 ((Zg Qb w).drew.aA T1.o.2)) ?_;rintro w2⟨B,U⟩;obtain⟨o,hr,d,E⟩:=u.o w.drew w1 w2 _ (Zg Qb w).drew T1.o.2 U T1.o.1 B rfl;have ez:w.drew.heap.size=w.heap.size:=rfl;rw[ez]at hr d E;rw[show(w2.alloc (.cells #[.map (some w.heap.size),.map (some w1.heap.size)] 92)).heap.size=w2.heap.size+1 by simp]at hr E;clear ez;have al:=O E;have e1:=(Q4 d).2;clear B U E d u;go_wp2_with fail;refine Xe (by kernel_rfl) (by go_simp;try rfl) ?_;refine Km ?_;go_wp2_with fail;refine Km ?_;go_wp2_with fail;refine Ky ?_;go_wp2_with fail;go_loopw [4,5] (fun _ _ wr=>∃vsr left,Ai w h l w2.heap.size w.heap.size w1.heap.size (w2.heap.size+1) wr vsr left) (fun _ _ wr=>Dq wr (w2.heap.size+1));case atStart=>exact⟨_,_,al.o⟩
 case round=>
  obtain⟨vsr,left,C⟩:=hrel;obtain⟨e1,e2⟩:=Q4 C.blk;rcases Rx (P:=prog) C.it 0 with⟨h0,hr⟩|⟨p,q,w4,hr,K,J,ap⟩;·subst h0;have ai:=O (C.fin HP.o);clear C;go_wp2_with fail;go_ret;exact⟨_,rfl,ai.o⟩
  ·have am:=O K;have C4:=O J;have CC:=O C;have B4:=O (J.blk C.blk (fun e=>by have:=C.ne.2.2.2.1;omega));have ay:=O (C.it.sub.subset q);have ao:=O q;have aa:=O (show(Vu p.1 left).length<left.length from by
    unfold Vu;exact List.length_filter_lt_length_iff_exists.2 ⟨p,q,by simp⟩)
   have LW:=O C.it.left_eq;have HV:=O ((C.has p (C.it.sub.subset q)).aB J (fun k hk e=>by
    rcases C.own p (C.it.sub.subset q) k hk with⟨_,h1⟩|⟨_,_,_,_,_,h6⟩;·have:=C.lo.2.2.2;omega
    ·exact h6 e))
   clear C K J q;go_wp2_with fail;clear hr ap e1 e2;obtain⟨z0,z1⟩:=Q4 (B4.o.drew);refine Jp [(1,0),(1,1),(1,2),(1,3),(1,4),(0,5),(2,6),(3,7)] (fun R=>Qc (Qb) (w4) R) Zq (by kernel_rfl) (fun _ _ _ _ _ h=>h) (by(repeat' (first|(with_reducible first|exact Zg _ _|assumption|refine Zh ?_ _|refine Zi ?_ _|refine Zj ?_|refine Zk ?_ _ ?_|(apply Or.inl;rfl))|(apply Or.inl;simp;done)|(apply Or.inr;simp;first|done|omega)))) ?_;simp only[Jk,Zf,Ze,Zd];iterate 3 (refine Qy (by kernel_rfl) (fun R V=>by go_simp;try rfl) ?_;try simp only[Act.put,Za,Zc,Zb])
   iterate 1 (refine Qy (by kernel_rfl) (fun R V=>by(obtain⟨az,a2⟩:=Q4 (V.blk B4.o (fun h=>h)));go_simp;try rfl) ?_;try simp only[Act.put,Za,Zc,Zb])
   (refine Qy (by kernel_rfl) (fun R V=>by go_simp;try rfl) ?_;try simp only[Act.put,Za,Zc,Zb]);refine Xe (by kernel_rfl) (by go_simp;try rfl) ?_;clear z0 z1;refine Yb ?_;go_wp2_with fail;refine(Fy p.2 _ w4.drew (Q6.aB HV.o (Zg Qb w4).drew (fun _ _ h=>h)) (an.o p.1)).mono ?_;rintro e w5⟨v',rfl,ah,c5,ag,_⟩;have C5:=O c5.undrew;obtain⟨w6,ar,ac⟩:=CC.o.step ao.o am.o C4.o c5.undrew ah ag;have Z:=O ac;clear ah c5 ag ac;go_wp2_with fail;refine⟨C5.o,?_⟩;refine Km ?_;go_wp2_with fail;refine Ky ?_;clear ar;go_wp2_with fail;go_roundw;case measure=> rw[Z.o.it.left_eq,CC.o.it.left_eq];exact aa.o
   case rel=>exact⟨_,_,Z.o⟩
end
end Go.Proofs.YtnnhmpehkbihnaaGreat
