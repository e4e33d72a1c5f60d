/- A part of the proof: no condition. -/
import Derived.Test.YtnnhmpehkbihnaaGreatPp24
namespace Go.Proofs.YtnnhmpehkbihnaaGreat
set_option linter.unusedVariables false
set_option maxRecDepth 100000
set_option maxHeartbeats 4000000
open Go.RowKit
open Go.Proofs.Tryz
section
attribute [local go_sem] Qq
attribute [local irreducible] Y4 Jm Jw
theorem Qon{f:Int→Int}{l:List Int}{k:Nat}{x:Int}(c:l[k]? =some x):((l.take (k+1)).map f).sum=((l.take k).map f).sum+f x:=by rw[List.take_add_one,c];simp
theorem Qrg{f:Int→Int}{B:Int}:∀{l:List Int},(∀x∈l,0≤f x∧f x≤B)→0≤(l.map f).sum∧(l.map f).sum≤l.length*B
 |[],_=>by simp
 |x::l,h=>by
  have h1:=h x (by simp);have d:=Qrg (l:=l) (fun y c=>h y (by simp[c]));rw[List.map_cons,List.sum_cons,List.length_cons];have:((l.length+1:Nat):Int)*B=(l.length:Int)*B+B:=by rw[Int.natCast_add,Int.add_mul];simp
  omega
section
variable{A:SAd}{w:World}{F:Fp}{b:Nat}{s:Qg}{N:Nat}
theorem Qj.leafQ(h:Qj A w F b s){i:Int}{l:Qy}(hl:s.leaf i=some l):∃d c,Qh w (A.ad i) #[ptr d,c] 85∧(∃r,Jg w d r l.pk l.bt l.q)∧∃G,Kn w G c l.debt:=by obtain⟨G,h1,_⟩:=h.leafOf hl;exact h1.cells
theorem Qj.bounds(h:Qj A w F b s)(i:Int):(0≤((s.qOf i).length:Int)∧((s.qOf i).length:Int)≤4096)∧0≤Q0 (s.qOf i)∧Q0 (s.qOf i)≤16777216:=by
 cases hl:s.leaf i with
 |none=>rw[O8 hl];exact⟨⟨by simp,by simp⟩,by simp[Q0],by simp[Q0]⟩
 |some l=> rw[U8 hl];obtain⟨z,B,_,⟨r,c⟩,_⟩:=h.leafQ hl;have h1:=c.many;have k:=c.pk2;have q:=c.held;have u:=c.bt2;have d:=Ku _ c.good;exact⟨⟨by omega,by omega⟩,d,by omega⟩
theorem Dr(h:Qj A w F b s)(ok:X6 N s)(id:Int):Cl 11 #[ptr b,.int .i64 id] w fun e w'=>e=.returned (.tuple #[.int .i64 (s.many id),.int .i64 (s.bytes id)])∧Qc Qb w w':=by
 have ac:=O (fun w'(c:Qc Qb w w')=>(Qj.obj A).keep h c (Je.none F));have HN:=O (Vl h ok.most.1);obtain⟨a0,a1,a2,a3,a4⟩:=Ys h.blk;obtain⟨Gt,ht,_⟩:=h.treeOf;have af:=O (Qcq ok.tree 9 ht id (by omega));have BD:=O h.bounds;have V:=O (show(s.tree.leaves id).length≤64 from Nat.le_trans (Qdv _ _) ok.tree.many);have LF:Hid (∀x∈s.tree.leaves id,∃l,s.leaf x=some l):=O (fun x I=>by
  obtain⟨c,hc,rfl,K,_⟩:=Yb.1 I;exact ok.lv _ c (Dq ok.tree.sorted hc) K)
 unfold Qg.many Qg.bytes;unfold ptr at*;clear h ok ht;go_enter func11,ntmps11;go_wp2_with fail;refine HN.out.mono ?_;rintro e w1⟨rfl,rfl⟩;go_wp2_with fail;refine af.out.mono ?_;rintro e w2⟨uv,rfl,hI,_,c2⟩;obtain⟨a,cap,rfl,ae,_,_⟩:=hI.row intT.hc;have HI:=O hI;have C2:=O c2;obtain⟨Z,z⟩:=Zx ((s.tree.leaves id).length);have E:=O z;rw[←z]at ae⊢;clear hI c2 z a0 a1 a2 a3 a4;go_wp2_with fail;go_loopw [4,5,7,17] (fun t4 t5 _ ti wr=>∃(k:Nat),ti=.int .i64 (k:Int)∧k≤Z∧t4=.int .i64 ((((s.tree.leaves id).take k).map fun x=>((s.qOf x).length:Int)).sum)∧t5=.int .i64 ((((s.tree.leaves id).take k).map fun x=>Q0 (s.qOf x)).sum)∧Qc Qb w2 wr) (fun _ _ _ ti _=>Z-(intOf ti).toNat);case atStart=>exact⟨0,rfl,Nat.zero_le _,rfl,rfl,Qc.refl _ _⟩
 case round=>
  obtain⟨k,rfl,hk,rfl,rfl,hc⟩:=hrel;have HC:=O hc;clear hc;by_cases an:k<Z
  ·have hd:decide ((k:Int)<(Z:Int))=true:=by simp;omega
   have d:k<(s.tree.leaves id).length:=by have:=E.out;omega
   have U:s.tree.leaves id≠[]:=fun e=>by rw[e]at d;simp at d
   obtain⟨g,am,ao,ah,hB,ak,q,_,_⟩:=HI.out.opn U;injection ah with h1 h2 h3;subst h1;obtain⟨x,I⟩:∃x,(s.tree.leaves id)[k]? =some x:=⟨_,List.getElem?_eq_getElem d⟩;have K:wr.cell? ⟨g,k,none⟩=some (.int .i64 x):=by rw[(HC.out.blk hB (fun h=>h)).cell];exact q k x I
   have ab:x∈s.tree.leaves id:=List.mem_of_getElem? I;obtain⟨l,hl⟩:=LF.out x ab;have hS:=ac.out wr (C2.out.trans' HC.out);obtain⟨b0,b1,b2,b3,b4⟩:=Ys hS.blk;have aj:=hS.look1 x;rw[Li hl]at aj;obtain⟨qb,dv,R,⟨r,hq⟩,_⟩:=hS.leafQ hl;obtain⟨l0,l1⟩:=Qz R;have QL:=O (Qne hq);have QB:=O (Qqc hq);have ap:IntKind.i64.wrap ((k:Int)+1)=(k:Int)+1:=by have h4:=V.out;have h5:=E.out;rw[IntWalk.i64_in _ (by omega)]
   have T1:=O (Qon (f:=fun x=>((s.qOf x).length:Int)) I);have T2:=O (Qon (f:=fun x=>Q0 (s.qOf x)) I);have QO:=O (U8 hl);have aa:=Qrg (f:=fun x=>((s.qOf x).length:Int)) (B:=4096) (l:=(s.tree.leaves id).take k) (fun x _=>(BD.out x).1);have J:=Qrg (f:=fun x=>Q0 (s.qOf x)) (B:=16777216) (l:=(s.tree.leaves id).take k) (fun x _=>(BD.out x).2);have tl:((s.tree.leaves id).take k).length≤64:=by have:=V.out;rw[List.length_take];omega
   have bx:=BD.out x;rw[QO.out]at bx;generalize al:(((s.tree.leaves id).take k).map fun x=>((s.qOf x).length:Int)).sum=P1 at*;generalize ag:(((s.tree.leaves id).take k).map fun x=>Q0 (s.qOf x)).sum=P2 at*;have aq:IntKind.i64.wrap (P1+(l.q.length:Int))=P1+(l.q.length:Int):=by rw[IntWalk.i64_in _ (by omega)]
   have ar:IntKind.i64.wrap (P2+Q0 l.q)=P2+Q0 l.q:=by rw[IntWalk.i64_in _ (by omega)]
   unfold ptr at*;clear d U hB ak q I ab h2 h3 hl hS R hq aa J tl bx al ag;go_wp2_with fail;refine QL.out.mono ?_;rintro e w4⟨rfl,rfl⟩;go_wp2_with fail;refine QB.out.mono ?_;rintro e w4⟨rfl,rfl⟩;go_wp2_with fail;go_roundw;case measure=>simp only[intOf];omega
   case rel=>
    refine⟨k+1,by rw[←Int.natCast_one,←Int.natCast_add],by omega,?_,?_,HC.out⟩;·have:=T1.out;rw[QO.out]at this;rw[this]
    ·have:=T2.out;rw[QO.out]at this;rw[this]
  ·have hd:decide ((k:Int)<(Z:Int))=false:=by simp;omega
   have u:k=(s.tree.leaves id).length:=by have:=E.out;omega
   have TK:=O (show(s.tree.leaves id).take k=s.tree.leaves id by rw[u,List.take_length]);have ai:=O (C2.out.trans' HC.out);rw[TK.out];clear u;go_wp2;go_ret2;exact⟨rfl,ai.out⟩
end
end
section
variable{P:Program}{w:World}{t kt e:TypeId}{b r:Nat}{l left:List (Int×Value)}
theorem Qaw{X:Type}{q:X→Bool}{f:X→X}:∀{l:List X}{n:Nat},(∀x,l[n]? =some x→q x=false∧q (f x)=false)→(l.modify n f).filter q=l.filter q
 |[],n,_=>by simp
 |x::l,0,h=>by obtain⟨h1,k⟩:=h x rfl;simp[List.modify_cons,h1,k]
 |x::l,n+1,h=>by have d:=Qaw (l:=l) (n:=n) (f:=f) (q:=q) fun y c=>h y (by simpa using c);simp only[List.modify_succ_cons,List.filter_cons,d]
theorem Qhr{k:Int}{v:Value}:∀{l left:List (Int×Value)},left.Sublist l→(∀p∈left,p.1≠k)→left.Sublist (Ht k v l)
 |[],left,h,_=>by have:left=[]:=List.sublist_nil.1 h;subst this;exact List.nil_sublist _
 |p::l,left,h,hn=>by
  rw[Ht];split
  ·rename_i c;cases h with
   |cons _ h=>exact .cons _ h
   |cons_cons _ h=>exact absurd c.symm (hn _ (by simp))
  ·cases h with
   |cons _ h=>exact .cons _ (Qhr h hn)
   |cons_cons _ h=>exact .cons_cons _ (Qhr h fun q d=>hn q (by simp[d]))
theorem Qhs(h:Ka w b r l left)(ht:P.underlying t=some (.map kt e))(hk:P.underlying kt=some (.int .i64))(k:Int)(v:Value)(E:∃p∈l,p.1=k)(Z:∀p∈left,p.1≠k):
  ∃w',(Instr.mapUpdate t (.map (some b)) (.int .i64 k) v).run P w=.ok () w'∧Ka w' b r (Ht k v l) left∧Qc (fun j=>j=b) w w':=by
 obtain⟨w',I,hM,hc⟩:=J9 (P:=P) h.map ht hk k v;refine⟨w',I,?_,hc⟩;obtain⟨z,d,c,h1,h2,h3,h4,h5,h6,h7,h8,h9⟩:=h;have hb:b<w.heap.size:=(Array.getElem?_eq_some_iff.1 h1).1;have ah:w'.heap[r]? =some (.mapIter (some b) d c d):=hc.heap h6 (fun e=>h7 e);cases U:Ho k l 0 with
 |none=> obtain⟨p,af,ai⟩:=E;exact absurd ai (Gn U p af)
 |some q=>
  obtain⟨n,u⟩:=q;obtain⟨j,hj,ae,K⟩:=Hf U;obtain rfl:n=j:=by omega
  have ac:z.toList.length=l.length:=by simpa using congrArg List.length h2
  have hn:n<z.size:=by rw[←ac]at ae;simpa using ae
  have J:z[n].key=.int .i64 k:=by have:=congrArg (fun x=>x[n]?) h2;simp only[List.getElem?_map,K]at this;rw[Array.getElem?_toList,Array.getElem?_eq_getElem hn]at this;simpa using(congrArg Prod.fst (Option.some.inj this))
  have ag:((Instr.keyThatStays (((z[n]?).map (·.key)).getD (.int .i64 k)) (.int .i64 k)).run P w)=.ok (.int .i64 k) w:=by rw[Array.getElem?_eq_getElem hn];simp[J,Instr.keyThatStays,Instr.sameBits]
  have aj:w'={w with heap:=w.heap.setIfInBounds b (.map (z.modify n fun e=>{e with key:=.int .i64 k,val:=v}) d)}:=by have h0:=I;unfold Instr.mapUpdate at h0;simp only[Sem.run_bind,Qpe ht,Result.andThen_ok,Qpf h1,Hw hk,U0 hk k z.toList h2,U]at h0;simp only[ag,Result.andThen_ok,Qvi _ h1]at h0;injection h0 with _ h0;exact h0.symm
  have ak:w'.heap[b]? =some (.map (z.modify n fun e=>{e with key:=.int .i64 k,val:=v}) d):=by rw[aj];simp[hb]
  have R:(z.modify n fun e=>{e with key:=.int .i64 k,val:=v}).toList.map (·.born)=z.toList.map (·.born):=by
   refine List.ext_getElem? fun i=>?_;simp only[List.getElem?_map,Array.getElem?_toList,Array.getElem?_modify];split;·cases z[i]? <;>rfl
   ·rfl
  refine⟨_,d,c,ak,?_,?_,by rw[R];exact h4,?_,ah,h7,?_,Qhr h9 Z⟩
  ·rw[Ls (i:=0) (j:=n) (u:=u) (by rw[U];simp)];refine List.ext_getElem? fun i=>?_;have V:=congrArg (fun x=>x[i]?) h2;simp only[List.getElem?_map,Array.getElem?_toList]at V;simp only[List.getElem?_map,Array.getElem?_toList,Array.getElem?_modify,List.getElem?_modify];by_cases E:n=i;·subst E;simp only[if_true,K,Array.getElem?_eq_getElem hn];simp
   ·simp only[E,if_false];simpa using V
  ·rw[Qcx ⟨(k,u),List.mem_of_getElem? K,rfl⟩];exact h3
  ·intro x hx;obtain⟨i,hi⟩:=List.mem_iff_getElem?.1 hx;simp only[Array.getElem?_toList,Array.getElem?_modify]at hi;split at hi
   ·cases hy:z[i]? with
    |none=>rw[hy]at hi;cases hi
    |some y=> rw[hy]at hi;obtain rfl:=Option.some.inj hi;exact h5 y (List.mem_of_getElem? (by rw[Array.getElem?_toList];exact hy))
   ·exact h5 x (List.mem_of_getElem? (by rw[Array.getElem?_toList];exact hi))
  ·rw[←h8];have B:c.contains z[n].born=true:=by
    cases hs:c.contains z[n].born with
    |true=>rfl
    |false=>
     exfalso;have hm:z[n]∈(leftOf z c).toList:=by unfold leftOf;rw[Array.toList_filter];exact List.mem_filter.2 ⟨by simp,by show(!c.contains z[n].born)=true;rw[hs];rfl⟩
     have ab:=List.mem_map_of_mem (f:=fun e:MapEntry=>(e.key,e.val)) hm;rw[h8]at ab;obtain⟨p,U,aa⟩:=List.mem_map.1 ab;simp only[Prod.mk.injEq]at aa;have e1:=aa.1;rw[J]at e1;injection e1 with _ e1;exact Z p U e1
   congr 1;unfold leftOf;simp only[Array.toList_filter,Array.toList_modify];refine Qaw fun x hx=>?_;rw[Array.getElem?_toList,Array.getElem?_eq_getElem hn]at hx;obtain rfl:=Option.some.inj hx;exact⟨by show(!c.contains z[n].born)=false;rw[B];rfl,by show(!c.contains z[n].born)=false;rw[B];rfl⟩
end
section
attribute [local go_sem] Qq
attribute [local irreducible] Y4 Jm Jw
theorem Qrh{w:World}{b:Nat}{L:List (Int×Value)}(h:Xs w b L):Cl 79 #[.map (some b)] w fun e w'=>e=.returned (.map (some w.heap.size))∧Xs w' w.heap.size L∧Qc Qb w w':=by obtain⟨k,d,q,c⟩:=h;have u:=O c;have z:=fun w=>run_eql_map_nil_sl (P:=prog) w 89 _ _ (some b) underlying89;clear c;go_enter func79,ntmps79;go_wp2;rw[run_callFunc_extern func142 (by kernel_rfl) (by kernel_rfl) (by kernel_rfl) (e:=Extern.MapsClone.clone) (by kernel_rfl),run_maps_clone_sl w 89 q];simp only[Result.andThen];rw[Oper.upon_value];go_wp2;rw[run_typeAssert_map_sl _ 89 _ _ _ _ underlying89];simp only[Result.andThen];rw[Oper.upon_value];go_wp2;go_ret;exact⟨rfl,⟨k,d,(MapKept.heap_alloc w _).1,u.out⟩,(Qc.refl _ _).alloc _⟩
theorem Qoo{w:World}{b:Nat}{L:List (Int×Value)}(h:Xs w b L):Cl 80 #[.map (some b)] w fun e w'=>e=.returned (.map (some w.heap.size))∧Xs w' w.heap.size L∧Qc Qb w w':=by obtain⟨k,d,q,c⟩:=h;have u:=O c;have z:=fun w=>run_eql_map_nil_sl (P:=prog) w 90 _ _ (some b) underlying90;clear c;go_enter func80,ntmps80;go_wp2;rw[run_callFunc_extern func142 (by kernel_rfl) (by kernel_rfl) (by kernel_rfl) (e:=Extern.MapsClone.clone) (by kernel_rfl),run_maps_clone_sl w 90 q];simp only[Result.andThen];rw[Oper.upon_value];go_wp2;rw[run_typeAssert_map_sl _ 90 _ _ _ _ underlying90];simp only[Result.andThen];rw[Oper.upon_value];go_wp2;go_ret;exact⟨rfl,⟨k,d,(MapKept.heap_alloc w _).1,u.out⟩,(Qc.refl _ _).alloc _⟩
structure Qht(w:World)(h:Qm)(l:List Kk)(b' ma mu r:Nat)(wr:World)(vsr left:List (Int×Value)):Prop where
 it:Ka wr mu r vsr left
 chg:Qc Qb w wr
 blk:Qh wr b' #[.map (some ma),.map (some mu)] 92
 mall:Xs wr ma (V7 l)
 has:∀p∈vsr,Zw wr p.2 (h.under p.1)
 own:∀p∈vsr,∀k,p.2.ownBlock=some k→(p∈left∧k<w.heap.size)∨(w.heap.size≤k∧k<wr.heap.size∧k≠b'∧k≠ma∧k≠mu∧k≠r)
 dis:∀p∈vsr,∀q∈vsr,∀k,p.2.ownBlock=some k→q.2.ownBlock=some k→p.1=q.1
 miss:∀i,(∀p∈vsr,p.1≠i)→h.under i=[]
 ne:b'≠ma∧b'≠mu∧ma≠mu∧r≠b'∧r≠ma∧r≠mu
 lo:w.heap.size≤b'∧w.heap.size≤ma∧w.heap.size≤mu∧w.heap.size≤r
section
variable{w wr w2 w3:World}{h:Qm}{l:List Kk}{b' ma mu r:Nat}{vsr left:List (Int×Value)}
theorem Qht.fin(C:Qht w h l b' ma mu r wr vsr [])(q:l.Perm h):Zt wr (Qn Qb w wr) b' h∧Qc Qb w wr:=by
 have u:=C.it.map;obtain⟨B,E,I,R,J,K⟩:=C.ne;obtain⟨l1,l2,V,U⟩:=C.lo;have d:∀p∈vsr,∀k,p.2.ownBlock=some k→w.heap.size≤k∧k<wr.heap.size∧k≠b'∧k≠ma∧k≠mu∧k≠r:=fun p q k c=>(C.own p q k c).resolve_left fun e=>by cases e.1
 refine⟨⟨ma,mu,l,vsr,q,?_⟩,C.chg⟩;have bd:Bd (Qn Qb w wr) wr:=fun k c=>c.elim (fun h=>h.elim) (fun h=>h.2);have z:Ya wr (fun k=>k=mu∨∃p∈vsr,p.2.ownBlock=some k) mu vsr h:=⟨u,fun k c=>c.elim (fun e=>e▸u.lt) (fun⟨p,q,c⟩=>(d p q k c).2.1),.inl rfl,C.has,fun p q k c=>⟨.inr ⟨p,q,c⟩,(d p q k c).2.2.2.2.1⟩,C.dis,C.miss⟩;refine Zl (G:=fun k=>k=b') (H:=fun k=>k=ma∨k=mu∨∃p∈vsr,p.2.ownBlock=some k) ⟨C.blk,rfl,fun k e=>e▸C.blk.lt⟩ ?_ ?_ ?_ ?_ bd
 ·refine Zl (G:=fun k=>k=ma) (H:=fun k=>k=mu∨∃p∈vsr,p.2.ownBlock=some k) ⟨C.mall,rfl,fun k e=>e▸C.mall.lt⟩ (Yv z z.bd) ?_ (fun k e=>.inl e) (fun k c=>.inr c) ?_
  ·rintro k rfl(e|⟨p,q,c⟩);·exact I e
   ·exact(d p q _ c).2.2.2.1 rfl
  ·exact fun k c=>c.elim (fun e=>e▸C.mall.lt) (z.bd k)
 ·rintro k rfl(e|e|⟨p,q,c⟩);·exact B e
  ·exact E e
  ·exact(d p q _ c).2.2.1 rfl
 ·rintro k rfl;exact .inr ⟨l1,C.blk.lt⟩
 ·rintro k(e|e|⟨p,q,c⟩);·exact .inr ⟨by omega,e▸C.mall.lt⟩
  ·exact .inr ⟨by omega,e▸u.lt⟩
  ·exact .inr ⟨(d p q k c).1,(d p q k c).2.1⟩
theorem Qht.step(C:Qht w h l b' ma mu r wr vsr left){p:Int×Value}(hp:p∈left)(aa:Ka w2 mu r vsr (Kx p.1 left))(c2:Qc (fun j=>j=r) wr w2)(c3:Qc Qb w2 w3){v':Value}(hv:Zw w3 v' (h.under p.1))(hn:∀k,v'.ownBlock=some k→w2.heap.size≤k):
  ∃J,(Instr.mapUpdate 90 (.map (some mu)) (.int .i64 p.1) v').run prog w3=.ok () J∧Qht w h l b' ma mu r J (Ht p.1 v' vsr) (Kx p.1 left):=by
 obtain⟨n1,n2,n3,n4,n5,n6⟩:=C.ne;obtain⟨l1,l2,l3,l4⟩:=C.lo;have ac:p∈vsr:=C.it.sub.subset hp;have z:=C.it.map.nodup;have ah:r<wr.heap.size:=by obtain⟨es,ab,ae,_,_,_,_,_,Z,_⟩:=C.it;exact(Array.getElem?_eq_some_iff.1 Z).1
 obtain⟨J,K,U,c4⟩:=Qhs (P:=prog) (aa.keep c3 (fun h=>h) (fun h=>h)) underlying90 underlying3 p.1 v' ⟨p,ac,rfl⟩ (fun q d=>by have:=(List.mem_filter.1 d).2;simpa using this);have s2:=c2.size;have s3:=c3.size;have s4:=c4.size;have ag:=C.blk.lt;have af:=C.mall.lt;have ai:=C.it.map.lt;have B:Qc (fun j=>j=r∨j=mu) wr J:=((c2.mono fun k c=>.inl (.inl c)).trans c3 fun k c=>c.elim).trans c4 fun k c=>.inl (.inr c);refine⟨J,K,U,C.chg.trans B fun k c=>.inr (c.elim (fun e=>by omega) (fun e=>by omega)),B.blk C.blk (fun e=>e.elim (fun e=>n4 e.symm) (fun e=>n2 e)),C.mall.keep B (fun e=>e.elim (fun e=>n5 e.symm) (fun e=>n3 e)),fun q d=>?_,fun q d k c=>?_,fun q d q' u k c E=>?_,fun i hi=>?_,C.ne,C.lo⟩
 ·rcases Vj z d with rfl|⟨d,I⟩;·refine hv.keep c4 fun k c e=>?_;have:=hn k c;omega
  ·refine(C.has q d).keep B fun k c e=>?_;rcases C.own q d k c with⟨_,h1⟩|⟨_,_,_,_,h5,Z⟩;·rcases e with e|e<;>omega
   ·exact e.elim Z h5
 ·rcases Vj z d with rfl|⟨d,I⟩;·have h1:=hn k c;have h2:=hv.lt k c;exact .inr ⟨by omega,by omega,by omega,by omega,by omega,by omega⟩
  ·rcases C.own q d k c with⟨h0,h1⟩|⟨h1,h2,h3⟩;·exact .inl ⟨List.mem_filter.2 ⟨h0,by simpa using I⟩,h1⟩
   ·exact .inr ⟨h1,by omega,h3⟩
 ·have V:∀q∈vsr,∀k,q.2.ownBlock=some k→k<wr.heap.size:=fun q d k c=>by
   rcases C.own q d k c with⟨_,h1⟩|⟨_,h2,_⟩;·have:=C.chg.size;omega
   ·exact h2
  rcases Vj z d with rfl|⟨d,I⟩
  ·rcases Vj z u with rfl|⟨u,R⟩;·rfl
   ·have h1:=hn k c;have:=V q' u k E;omega
  ·rcases Vj z u with rfl|⟨u,R⟩;·have h1:=hn k E;have:=V q d k c;omega
   ·exact C.dis q d q' u k c E
 ·refine C.miss i fun q d e=>?_;by_cases h1:q.1=p.1;·exact hi _ (Qg5 p.1 v' vsr) (h1.symm.trans e)
  ·exact hi q (Qg6 d h1) e
end
theorem Qri{w:World}{F:Fp}{b:Nat}{h:Qm}(hh:Zt w F b h)(hl:h.length<1099511627776):
  Cl 33 #[ptr b] w fun e w'=>∃b',e=.returned (ptr b')∧Zt w' (Qn Qb w w') b' h∧Qc Qb w w':=by
 obtain⟨ma,mu,l,vs,G,q,hn,ac,ae,J,fb,fm,fG,aq,ap,au,aa,_⟩:=hh.opn;have HL:∀i,(h.under i).length<1099511627776:=fun i=>by
  have:(h.under i).length≤h.length:=by unfold Qm.under;rw[List.length_map];exact List.length_filter_le _ _
  omega
 have aj:=O (fun w'(c:Qc Qb w w')=>Qrh (ae.keep c (fun h=>h)));have ai:=O (fun w'(c:Qc Qb w w')=>Qoo (J.map.keep c (fun h=>h)));have HB:=O ac;have z:Hid (∀w0 w1 w2 w3,Qc Qb w w0→Qc Qb w0 w1→Qc Qb w1 w2→Xs w1 w0.heap.size (V7 l)→Xs w2 w1.heap.size vs→w3=w2.alloc (.cells #[.map (some w0.heap.size),.map (some w1.heap.size)] 92)→
   ∃o,(Instr.range 90 (.map (some w1.heap.size))).run prog w3=.ok (.pointer (some ⟨w3.heap.size,0,none⟩)) (w3.alloc o)∧Qh w3 w2.heap.size #[.map (some w0.heap.size),.map (some w1.heap.size)] 92∧Qht w h l w2.heap.size w0.heap.size w1.heap.size w3.heap.size (w3.alloc o) vs vs):=O (by
  rintro w0 w1 w2 w3 c0 c1 V u B rfl;have c3:Qc Qb w2 (w2.alloc (.cells #[.map (some w0.heap.size),.map (some w1.heap.size)] 92)):=(Qc.refl _ _).alloc _;have d:Qh (w2.alloc (.cells #[.map (some w0.heap.size),.map (some w1.heap.size)] 92)) w2.heap.size #[.map (some w0.heap.size),.map (some w1.heap.size)] 92:=Qh.new _ _ _;obtain⟨w3,ak⟩:=Zx (w2.alloc (.cells #[.map (some w0.heap.size),.map (some w1.heap.size)] 92));rw[←ak]at c3 d⊢;obtain⟨o,hr,ao⟩:=Qix (P:=prog) (B.keep c3 (fun h=>h)) underlying90;have c4:Qc Qb w3 (w3.alloc o):=(Qc.refl _ _).alloc _;have cA:Qc Qb w (w3.alloc o):=(((c0.trans' c1).trans' V).trans' c3).trans' c4;have s0:=c0.size;have z1:=u.lt;have z2:=B.lt;have z3:=d.lt;have s1:=c1.size;have s2:=V.size;have hU:=J.keep cA (Je.none G);exact⟨o,hr,d,ao,cA,c4.blk d (fun h=>h),(u.keep V (fun h=>h)).keep (c3.trans' c4) (fun h=>h),hU.has,fun p q k hk=>.inl ⟨q,aa k (fG k (J.own p q k hk).1)⟩,hU.dis,hU.miss,⟨by omega,by omega,by omega,by omega,by omega,by omega⟩,⟨by omega,by omega,by omega,by omega⟩⟩)
 have HP:=O q;have av:=O HL;clear hh q hn ae J fb fm fG aq ap au aa hl HL;unfold ptr at*;obtain⟨a0,a1⟩:=Qz (HB.out.drew);clear ac;go_enter func33,ntmps33;go_wp2_with fail;refine Z9 [(0,0),(0,1),(0,2),(0,3),(1,5),(1,6),(1,7),(1,8),(2,4),(3,9),(0,10),(3,11),(3,12)] (fun K=>Qc (Qb) (w) K) (by kernel_rfl) (by kernel_rfl) ?_ (by(repeat' (first|(with_reducible first|exact Zg _ _|assumption|refine Zh ?_ _|refine Zi ?_ _|refine Zj ?_ |refine Zk ?_ _ ?_ |(apply Or.inl;rfl))|(apply Or.inl;simp;done)|(apply Or.inr;simp;first|done|omega)))) ?_;·exact fun _ _ _ _ _ h=>h
 simp only[Zs,Zf,Ze,Zd];iterate 4 (refine Jr (by kernel_rfl) (by go_simp;try with_reducible rfl) ?_)
 iterate 3 (refine Q4 (by kernel_rfl) (fun K U=>by go_simp;try with_reducible rfl) ?_;try simp only[Act.put,Za,Zc,Zb])
 iterate 1 (refine Q4 (by kernel_rfl) (fun K U=>by(obtain⟨z0,z1⟩:=Qz (U.blk HB.out (fun h=>h)));go_simp;try with_reducible rfl) ?_;try simp only[Act.put,Za,Zc,Zb])
 clear a0 a1;refine Yc ?_;go_wp2_with fail;refine(aj.out w.drew (Qc.refl Qb w).drew).mono ?_;rintro e w1⟨rfl,u,c1⟩;have T1:=O (And.intro u c1);clear u c1;go_wp2_with fail;refine⟨((Qc.refl Qb w).drew.trans' T1.out.2),?_⟩;refine V5 ?_;go_wp2_with fail;refine(ai.out w1 ((Qc.refl Qb w).drew.trans' T1.out.2)).mono ?_;rintro e w2⟨rfl,B,V⟩;obtain⟨o,hr,d,E⟩:=z.out w.drew w1 w2 _ (Qc.refl Qb w).drew T1.out.2 V T1.out.1 B rfl;have ez:w.drew.heap.size=w.heap.size:=rfl;rw[ez]at hr d E;rw[show(w2.alloc (.cells #[.map (some w.heap.size),.map (some w1.heap.size)] 92)).heap.size=w2.heap.size+1 by simp]at hr E;clear ez;have al:=O E;have e1:=(Qz d).2;clear B V E d z;go_wp2_with fail;refine Jr (by kernel_rfl) (by go_simp;try with_reducible rfl) ?_;refine V5 ?_;go_wp2_with fail;refine V5 ?_;go_wp2_with fail;refine K8 ?_;go_wp2_with fail;go_loopw [4,5] (fun _ _ wr=>∃vsr left,Qht w h l w2.heap.size w.heap.size w1.heap.size (w2.heap.size+1) wr vsr left) (fun _ _ wr=>Qat wr (w2.heap.size+1));case atStart=>exact⟨_,_,al.out⟩
 case round=>
  obtain⟨vsr,left,C⟩:=hrel;obtain⟨e1,e2⟩:=Qz C.blk;rcases Ql4 (P:=prog) C.it 0 with⟨h0,hr⟩|⟨p,q,w4,hr,R,I,aw⟩;·subst h0;have ar:=O (C.fin HP.out);clear C;go_wp2_with fail;go_ret;exact⟨_,rfl,ar.out⟩
  ·have am:=O R;have C4:=O I;have CC:=O C;have B4:=O (I.blk C.blk (fun e=>by have:=C.ne.2.2.2.1;omega));have a2:=O (C.it.sub.subset q);have an:=O q;have ah:=O (show(Kx p.1 left).length<left.length from by
    unfold Kx;exact List.length_filter_lt_length_iff_exists.2 ⟨p,q,by simp⟩)
   have LW:=O C.it.left_eq;have HV:=O ((C.has p (C.it.sub.subset q)).keep I (fun k hk e=>by
    rcases C.own p (C.it.sub.subset q) k hk with⟨_,h1⟩|⟨_,_,_,_,_,h6⟩;·have:=C.lo.2.2.2;omega
    ·exact h6 e))
   clear C R I q;go_wp2_with fail;clear hr aw e1 e2;obtain⟨z0,z1⟩:=Qz (B4.out.drew);refine Z9 [(1,0),(1,1),(1,2),(1,3),(1,4),(0,5),(2,6),(3,7)] (fun K=>Qc (Qb) (w4) K) (by kernel_rfl) (by kernel_rfl) ?_ (by(repeat' (first|(with_reducible first|exact Zg _ _|assumption|refine Zh ?_ _|refine Zi ?_ _|refine Zj ?_ |refine Zk ?_ _ ?_ |(apply Or.inl;rfl))|(apply Or.inl;simp;done)|(apply Or.inr;simp;first|done|omega)))) ?_;·exact fun _ _ _ _ _ h=>h
   simp only[Zs,Zf,Ze,Zd];iterate 3 (refine Q4 (by kernel_rfl) (fun K U=>by go_simp;try with_reducible rfl) ?_;try simp only[Act.put,Za,Zc,Zb])
   iterate 1 (refine Q4 (by kernel_rfl) (fun K U=>by(obtain⟨ay,az⟩:=Qz (U.blk B4.out (fun h=>h)));go_simp;try with_reducible rfl) ?_;try simp only[Act.put,Za,Zc,Zb])
   (refine Q4 (by kernel_rfl) (fun K U=>by go_simp;try with_reducible rfl) ?_;try simp only[Act.put,Za,Zc,Zb]);refine Jr (by kernel_rfl) (by go_simp;try with_reducible rfl) ?_;clear z0 z1;refine Yc ?_;go_wp2_with fail;refine(Qeg p.2 _ w4.drew (Zw.keep HV.out (Qc.refl Qb w4).drew (fun _ _ h=>h)) (av.out p.1)).mono ?_;rintro e w5⟨v',rfl,ag,c5,ab,_⟩;have C5:=O c5.undrew;obtain⟨w6,ax,Z⟩:=CC.out.step an.out am.out C4.out c5.undrew ag ab;have af:=O Z;clear ag c5 ab Z;go_wp2_with fail;refine⟨C5.out,?_⟩;refine V5 ?_;go_wp2_with fail;refine K8 ?_;clear ax;go_wp2_with fail;go_roundw;case measure=> rw[af.out.it.left_eq,CC.out.it.left_eq];exact ah.out
   case rel=>exact⟨_,_,af.out⟩
end
section
attribute [local go_sem] Qq
attribute [local go_sem ↓] Xe Xn
attribute [local irreducible] Y4 Jm Jw
section
variable{A:SAd}{w:World}{F:Fp}{b:Nat}{s:Qg}{N:Nat}
theorem Qhu(h:Qj A w F b s)(ok:X6 N s)(id:Int):Cl 107 #[ptr b,.int .i64 id] w fun e w'=>e=.returned (.bool (decide (0<s.many id)))∧Qc Qb w w':=by have c:=O (Dr h ok id);generalize s.many id=m at c⊢;generalize s.bytes id=q at c;unfold ptr at*;clear h ok;go_enter func107,ntmps107;go_wp2_with fail;refine c.out.mono ?_;rintro e w1⟨rfl,k⟩;have d:=O k;clear k;go_wp2;go_ret;exact⟨rfl,d.out⟩
theorem Qij(h:Qj A w F b s)(ok:X6 N s):Cl 12 #[ptr b] w fun e w'=>∃b',e=.returned (ptr b')∧Zt w' (Qn Qb w w') b' s.tree∧Qc Qb w w':=by have u:=O (Vl h ok.most.1);obtain⟨z,a1,E,B,I⟩:=Ys h.blk;obtain⟨Gt,ht,_⟩:=h.treeOf;have q:=O (Qri ht (by have:=ok.tree.many;omega));unfold ptr at*;clear h ok ht;go_enter func12,ntmps12;go_wp2_with fail;refine u.out.mono ?_;rintro e w1⟨rfl,rfl⟩;go_wp2_with fail;refine q.out.mono ?_;rintro e w2⟨b',rfl,k,d⟩;have c:=O (And.intro k d);clear k d;go_wp2;go_ret;exact⟨_,rfl,c.out⟩
theorem Qrj(h:Qj A w F b s)(ok:X6 N s):Cl 18 #[ptr b] w fun e w'=>e=.returned (.int .u64 ((s.tick:Nat):Int))∧Qc Qb w w':=by
 have Z:=O (Vl h ok.most.1);have B:=O h.blk;obtain⟨Gr,hr,_⟩:=h.rowOf;obtain⟨Gp,⟨AP,z⟩,_⟩:=h.pickOf;have K:=O (Qqm (Kh.obj.keep hr (Qc.refl Qb w).drew (Je.none _)));have J:=O (fun w'(c:Qc Qb w w')=>Qqp ((Qo.obj AP).keep z c (Je.none _)) ok.pick);unfold Qg.tick;generalize Of s.row=x at K⊢;generalize s.pick.tick=y at J⊢;obtain⟨R,a1,U,a3,a4⟩:=Ys B.out.drew;unfold ptr at*;clear h ok hr z;go_enter func18,ntmps18;go_wp2_with fail;refine Z.out.mono ?_;rintro e w1⟨rfl,rfl⟩;go_wp2_with fail;refine Z9 [(0,0),(0,1),(0,2),(0,3),(1,5),(1,6),(1,7),(1,8),(2,4),(3,9),(0,10),(3,11)] (fun d=>Qc (Qb) (w) d) (by kernel_rfl) (by kernel_rfl) ?_ (by(repeat' (first|(with_reducible first|exact Zg _ _|assumption|refine Zh ?_ _|refine Zi ?_ _|refine Zj ?_ |refine Zk ?_ _ ?_ |(apply Or.inl;rfl))|(apply Or.inl;simp;done)|(apply Or.inr;simp;first|done|omega)))) ?_;·exact fun _ _ _ _ _ h=>h
 simp only[Zs,Zf,Ze,Zd];iterate 4 (refine Jr (by kernel_rfl) (by go_simp;try with_reducible rfl) ?_)
 iterate 3 (refine Q4 (by kernel_rfl) (fun d q=>by go_simp;try with_reducible rfl) ?_;try simp only[Act.put,Za,Zc,Zb])
 iterate 1 (refine Q4 (by kernel_rfl) (fun d q=>by(obtain⟨z0,z1,z2,z3,z4⟩:=Ys (q.blk B.out (fun h=>h)));go_simp;try with_reducible rfl) ?_;try simp only[Act.put,Za,Zc,Zb])
 clear R a1 U a3 a4;refine Yc ?_;go_wp2_with fail;refine K.out.mono ?_;rintro e w2⟨rfl,u⟩;have k:=O u.undrew;clear u;go_wp2_with fail;refine⟨k.out,?_⟩;refine V5 ?_;go_wp2_with fail;refine(J.out _ k.out).mono ?_;rintro e w3⟨rfl,I⟩;have V:=O (k.out.trans' I);have E:=O (show((min x y:Nat):Int)=min (x:Int) (y:Int) by omega);clear I;go_wp2_with fail;refine Jr (by kernel_rfl) (by go_simp;try with_reducible rfl) ?_;refine V5 ?_;go_wp2_with fail;refine K8 ?_;go_wp2;go_ret;exact⟨by rw[E.out];rfl,V.out⟩
end
end
section
attribute [local go_sem] Qq
attribute [local irreducible] Y4 Jm Jw
section
variable{w:World}{F:Fp}{b:Nat}{h:Qm}
theorem Ya.later{w0 w1:World}{G:Fp}{m:Nat}{vs:List (Int×Value)}(q:Ya w1 (Qn G w0 w1) m vs h){w:World}(hs:w.heap.size≤w0.heap.size)(d:Bd (Qn G w w1) w1):Ya w1 (Qn G w w1) m vs h:=
 (Ya.good m vs h).more q (fun k c=>c.elim .inl fun c=>.inr ⟨by omega,c.2⟩) d
theorem Qrk(hh:Zt w F b h){id:Int}{c:Kk}(ha:h.at id=some c)(hu:h.under id=[])(ak:(h.under c.sp.par).length<1099511627776):
  Cl 110 #[ptr b,.int .i64 id] w fun e w'=>e=.returned (.int .i64 0)∧Zt w' (Qn F w w') b (h.drop id)∧Qc F w w':=by
 have ba:=O (fun w'(c:Qc Qb w w')=>Zt.obj.keep hh c (Je.none F));obtain⟨W,hW⟩:=Zx (w.alloc (.cells #[.int .i64 id] 3));have CW:Qc Qb w W:=by rw[hW];exact(Qc.refl _ _).alloc _
 have hN:=O (O2 (ba.out W CW));have BX:=O (show Qh W w.heap.size #[.int .i64 id] 3 by rw[hW];exact Qh.new _ _ _);obtain⟨ma,mu,l,vs,G,hp,hn,au,Z,K,fb,fm,fG,ar,J,a9,a3,bi⟩:=hh.opn;obtain⟨bc,a1⟩:=Qm.at_mem ha;have av:h.under c.sp.par≠[]:=fun e=>by have:id∈h.under c.sp.par:=List.mem_map.2 ⟨c,List.mem_filter.2 ⟨bc,by simp⟩,a1⟩;rw[e]at this;cases this
 have b5:c.sp.par≠id:=fun e=>av (by rw[e];exact hu);have b9:=O (show w.heap.size<W.heap.size from BX.out.lt);have V:Hid (∀w2,Qc Qb w w2→(∃a cap,(Instr.lookup 90 (.map (some mu)) (.int .i64 id) false).run prog w2=.ok (.slice a 0 cap) w2)∧
   ∃w3,(Builtin.delete_ #[89,3] 0 #[.map (some ma),.int .i64 id]).run prog w2.drew=.ok (.tuple #[]) w3∧Qc (fun k=>k=ma) w2 w3∧
   ∃q,(Builtin.delete_ #[90,3] 0 #[.map (some mu),.int .i64 id]).run prog w3.drew=.ok (.tuple #[]) q∧Qc (fun k=>k=ma∨k=mu) w2 q∧
   ∃g cap,(g<w.heap.size∧g≠b∧g≠mu)∧(Instr.lookup 90 (.map (some mu)) (.int .i64 c.sp.par) false).run prog q.drew=.ok (.slice (some ⟨g,0,none⟩) (h.under c.sp.par).length cap) q.drew∧
   (∀gf z,(∀ai w,(callFunc gf ai).run prog w=.ok (.enter gf ai) w)→(∀w',Qc (fun k=>k=g) q.drew w'→∀y,Cl gf (#[.int .i64 y]++z) w' fun e bj=>e=.returned (.bool (decide (y=id)))∧w'=bj)→
    Cl 53 #[.slice (some ⟨g,0,none⟩) (h.under c.sp.par).length cap,.func (.func gf) #[] z] q.drew fun e w5=>∃n,e=.returned (.slice (some ⟨g,0,none⟩) n cap)∧Qc (fun k=>k=g) q.drew w5∧
     ∃I,(Instr.mapUpdate 90 (.map (some mu)) (.int .i64 c.sp.par) (.slice (some ⟨g,0,none⟩) n cap)).run prog w5=.ok () I∧Zt I (Qn F w I) b (h.drop id)∧Qc F w I)):=O (by
  intro w2 ab;have ap:=K.keep ab (Je.none G);have aq:=ap.at_;refine⟨?_,?_⟩;·obtain⟨v,hr,hI,_⟩:=ap.look id;rw[hu]at hI;obtain⟨a,cap,rfl,_⟩:=hI.row intT.hc;exact⟨a,cap,hr⟩
  ·obtain⟨w3,r3,b4,c3⟩:=Uq (P:=prog) ((Z.keep ab (fun h=>h)).keep (Qc.refl Qb w2).drew (fun h=>h)) underlying89 underlying3 3 0 id;have an:Qc (fun k=>k=ma) w2 w3:=c3.undrew;refine⟨w3,r3,an,?_⟩;have bh:=ap.keep an (fun k d e=>J (e▸d));obtain⟨q,r4,b1,c4⟩:=Uq (P:=prog) (bh.map.keep (Qc.refl Qb w3).drew (fun h=>h)) underlying90 underlying3 3 0 id;have ao:Qc (fun k=>k=mu) w3 q:=c4.undrew;have b2:=bh.del id hu b1 ao;have ay:Qc (fun k=>k=ma∨k=mu) w2 q:=(an.mono fun k d=>.inl (.inl d)).trans ao fun k d=>.inl (.inr d);refine⟨q,r4,ay,?_⟩;have B:=b2.keep (Qc.refl Qb q).drew (Je.none G);obtain⟨v,hr,hI,E⟩:=B.look c.sp.par;obtain⟨g,cap,cb,rfl,br,bp,bf,bb,a5⟩:=hI.opn av;have al:(c.sp.par,Value.slice (some ⟨g,0,none⟩) (h.under c.sp.par).length cap)∈Kx id vs:=E.resolve_left fun e=>by cases e.1
   obtain⟨gG,gm⟩:=B.own _ al g rfl;refine⟨g,cap,⟨a3 g (fG g gG),fun e=>ar (e▸gG),gm⟩,hr,fun gf z eg hT=>?_⟩;refine(Qla br bp bf bb a5 hI ak gf z eg (fun y=>decide (y=id)) hT).mono ?_;rintro e w5⟨n,rfl,bv,aa⟩;refine⟨n,rfl,aa,?_⟩;have bx:=B.map.keep aa (fun e=>gm e.symm);obtain⟨I,r6,bw,aw⟩:=J9 (P:=prog) bx underlying90 underlying3 c.sp.par (.slice (some ⟨g,0,none⟩) n cap);refine⟨I,r6,?_⟩;have hd:=Qm.drop_eq ha hu;have ax:(h.drop id).under c.sp.par=(h.under c.sp.par).filter fun y=>!decide (y=id):=by rw[hd];exact Lf h id _
   have am:∀k,k≠c.sp.par→(h.drop id).under k=h.under k:=fun k d=>by rw[hd];exact Qej ((hp.map _).nodup_iff.1 hn) ha d
   have bl:Zw I (.slice (some ⟨g,0,none⟩) n cap) ((h.drop id).under c.sp.par):=by rw[ax];refine bv.keep aw fun k d e=>?_;have:g=k:=Option.some.inj d;exact gm (this.trans e)
   have bt:Qc (fun k=>k=mu∨k=g) q.drew I:=(aa.mono fun k d=>.inl (.inr d)).trans aw fun k d=>.inl (.inl d);obtain⟨bz,bu⟩:=B.put am bl (fun k d=>.inl ⟨_,al,d⟩) bw bt (fun k d=>d.elim .inl fun e=>.inr ⟨_,al,by rw[e];rfl⟩);have cA:Qc (fun k=>k=ma∨G k) w I:=by refine(ab.none.trans' (ay.mono fun k d=>.inl (d.elim .inl fun e=>.inr (e▸aq)))).trans' ?_;exact bu.undrew.sub fun k d=>.inr d
   have bq:Bd G w:=K.bd;refine bi I (l.filter fun x=>!decide (x.sp.id=id)) _ _ (by rw[hd];exact hp.filter _) ?_ ((bz.later (w:=w) (Nat.le_trans ab.size ay.size) ?_)) cA;·rw[←Qqz];exact(((b4.keep ao (fun e=>J (e▸aq))).keep (Qc.refl Qb q).drew (fun h=>h)).keep aa (fun e=>J (e▸gG))).keep aw (fun e=>J (e▸aq))
   ·exact fun k d=>d.elim (fun d=>Nat.lt_of_lt_of_le (bq k d) cA.size) (fun d=>d.2))
 have LK:=O (fun(w':World)(cc:Qc Qb w w')=>show(Instr.lookup 89 (.map (some ma)) (.int .i64 id) true).run prog w'=.ok (.tuple #[.agg (Ei c),.bool true]) w' by
  have hL:=Up (P:=prog) (Z.keep cc (fun h=>h)) underlying89 underlying3 (Ej w') id;rw[Gg id l hn,←Qm.at_perm hp hn,ha]at hL;exact hL)
 have NE:=O (show b≠ma∧b≠mu∧b<w.heap.size∧ma<w.heap.size∧mu<w.heap.size from⟨a9,fun e=>ar (e▸K.at_),au.lt,Z.lt,K.map.lt⟩);have a4:=O au;have af:=O CW;clear hh au CW Z K hp hn ha hu bi fb fm fG ar J a9 a3 av bc a1 ak;unfold ptr at*;go_enter func110,ntmps110;go_wp2_with fail;rw[←hW];clear hW;refine hN.out.mono ?_;rintro e w1⟨rfl,rfl⟩;go_wp2_with fail;refine Z9 [(1,0),(1,1),(1,2),(1,3),(1,4),(1,5),(1,6),(1,7),(1,8),(2,9),(2,10),(3,11)] (fun U=>Qc (Qb) (W) U) (by kernel_rfl) (by kernel_rfl) ?_ (by(repeat' (first|(with_reducible first|exact Zg _ _|assumption|refine Zh ?_ _|refine Zi ?_ _|refine Zj ?_ |refine Zk ?_ _ ?_ |(apply Or.inl;rfl))|(apply Or.inl;simp;done)|(apply Or.inr;simp;first|done|omega)))) ?_;·exact fun _ _ _ _ _ h=>h
 simp only[Zs,Zf,Ze,Zd];iterate 3 (refine Q4 (by kernel_rfl) (fun U E=>by go_simp;try with_reducible rfl) ?_;try simp only[Act.put,Za,Zc,Zb])
 iterate 3 (refine Q4 (by kernel_rfl) (fun U E=>by(have zz:=E.blk (af.out.blk a4.out (fun h=>h)) (fun h=>h);have yy:=E.blk BX.out (fun h=>h);obtain⟨z0,z1⟩:=Qz zz;have y0:=Zv yy;have lk:=LK.out U (af.out.trans' E));go_simp;try with_reducible rfl) ?_;try simp only[Act.put,Za,Zc,Zb])
 iterate 3 (refine Q4 (by kernel_rfl) (fun U E=>by go_simp;try with_reducible rfl) ?_;try simp only[Act.put,Za,Zc,Zb])
 refine Yc ?_;go_wp2_with fail;refine⟨((Qc.refl Qb W).alloc _).drew,?_⟩;have az:Qh (W.alloc (.cells #[.int .i64 0,.int .i64 0,.bool false,.int .u64 0,.int .u64 0,.int .u64 0,.int .u64 0,.int .u64 0,.int .u64 0,.int .u64 0,.int .u64 0,.int .u64 0,.int .i64 0,.int .i64 0,.int .i64 0] 87)).drew W.heap.size #[.int .i64 0,.int .i64 0,.bool false,.int .u64 0,.int .u64 0,.int .u64 0,.int .u64 0,.int .u64 0,.int .u64 0,.int .u64 0,.int .u64 0,.int .u64 0,.int .i64 0,.int .i64 0,.int .i64 0] 87:=(Qh.new _ _ _).drew;have C1:Qc Qb W (W.alloc (.cells #[.int .i64 0,.int .i64 0,.bool false,.int .u64 0,.int .u64 0,.int .u64 0,.int .u64 0,.int .u64 0,.int .u64 0,.int .u64 0,.int .u64 0,.int .u64 0,.int .i64 0,.int .i64 0,.int .i64 0] 87)).drew:=((Qc.refl Qb W).alloc _).drew;generalize(W.alloc (.cells #[.int .i64 0,.int .i64 0,.bool false,.int .u64 0,.int .u64 0,.int .u64 0,.int .u64 0,.int .u64 0,.int .u64 0,.int .u64 0,.int .u64 0,.int .u64 0,.int .i64 0,.int .i64 0,.int .i64 0] 87)).drew=W1 at az C1⊢;obtain⟨W2,s2,a8,C2⟩:=Z1 (P:=prog) (vs:=Ei c) az rfl (Qab c);have bd:Qc Qb W W2:=C1.trans C2 (fun k e=>.inr (by omega));have R:=O bd;have bs:=O a8;clear az C1 a8 C2 bd;refine Yc ?_;go_wp2_with fail;refine⟨R.out,?_⟩;refine V5 ?_;go_wp2_with fail;refine K8 ?_;go_wp2_with fail;clear s2;have C2:=O (af.out.trans' R.out);obtain⟨⟨u,b6,bm⟩,w3,r3,c3,q,r4,c4,g,cap,⟨a6,bg,be⟩,bo,DF⟩:=V.out W2.drew C2.out.drew;have C3:=O c3.undrew;have C4:=O c4.undrew;have a7:=O DF;have HG:=O (And.intro a6 (And.intro bg be));have NB:=NE.out;have ah:=O af.out.size;have ac:=O (C2.out.blk a4.out (fun h=>h));have ae:=O (R.out.blk BX.out (fun h=>h));have b3:=O (C3.out.blk ac.out (fun e=>NE.out.1 e));have bk:=O (C3.out.blk ae.out (fun e=>by have:=NE.out.2.2.2.1;omega));have a0:=O (C4.out.blk ac.out (fun e=>e.elim (fun e=>NE.out.1 e) (fun e=>NE.out.2.1 e)));have b0:=O (C4.out.blk ae.out (fun e=>by have:=NE.out.2.2.2.1;have:=NE.out.2.2.2.2;rcases e with e|e<;>omega));have a2:=O (C4.out.blk bs.out (fun e=>by have:=NE.out.2.2.2.1;have:=NE.out.2.2.2.2;have:=ah.out;rcases e with e|e<;>omega));clear c3 c4 DF a6 bg be NB V;obtain⟨z0,z1⟩:=Qz (ac.out.drew);have y0:=Zv (ae.out.drew);refine Qi [(0,0),(0,1),(0,2),(0,3),(0,4),(0,5),(0,6),(0,7),(2,8)] (by kernel_rfl) (by kernel_rfl) ?_ ?_;·exact fun _ _ _ _ _ h=>h
 simp only[Zs,Zf,Ze,Zd];iterate 8 (refine Zz (by kernel_rfl) (by go_simp;try with_reducible rfl) ?_)
 clear bm z0 z1 y0;refine Jj ?_;go_wp2_with fail;refine Zu ?_;go_wp2_with fail;obtain⟨z0,z1⟩:=Qz (ac.out.drew.drew);have y0:=Zv (ae.out.drew.drew);refine Qi [(0,0),(0,1),(0,2),(0,3),(0,4),(2,5)] (by kernel_rfl) (by kernel_rfl) ?_ ?_;·exact fun _ _ _ _ _ h=>h
 simp only[Zs,Zf,Ze,Zd];iterate 5 (refine Zz (by kernel_rfl) (by go_simp;try with_reducible rfl) ?_)
 clear z0 z1 y0;refine Jj ?_;go_wp2_with fail;refine Zu ?_;clear r3;go_wp2_with fail;obtain⟨z0,z1⟩:=Qz (b3.out.drew);have y0:=Zv (bk.out.drew);refine Qi [(0,0),(0,1),(0,2),(0,3),(0,4),(2,5)] (by kernel_rfl) (by kernel_rfl) ?_ ?_;·exact fun _ _ _ _ _ h=>h
 simp only[Zs,Zf,Ze,Zd];iterate 5 (refine Zz (by kernel_rfl) (by go_simp;try with_reducible rfl) ?_)
 clear z0 z1 y0;refine Jj ?_;go_wp2_with fail;refine Zu ?_;clear r4;go_wp2_with fail;obtain⟨z0,z1⟩:=Qz (a0.out.drew);have y1:=(Uy a2.out.drew).2.1;refine Z9 [(1,0),(1,1),(1,2),(1,3),(1,4),(1,5),(1,6),(0,7),(0,8),(0,9),(0,10),(0,11),(0,12),(0,13),(0,14),(0,15),(2,16),(3,17)] (fun U=>Qc (fun k=>k=g) (q) U) (by kernel_rfl) (by kernel_rfl) ?_ (by(repeat' (first|(with_reducible first|exact Zg _ _|assumption|refine Zh ?_ _|refine Zi ?_ _|refine Zj ?_ |refine Zk ?_ _ ?_ |(apply Or.inl;rfl))|(apply Or.inl;simp;done)|(apply Or.inr;simp;first|done|omega)))) ?_;·exact fun _ _ _ _ _ h=>h
 simp only[Zs,Zf,Ze,Zd];iterate 3 (refine Q4 (by kernel_rfl) (fun U E=>by go_simp;try with_reducible rfl) ?_;try simp only[Act.put,Za,Zc,Zb])
 iterate 1 (refine Q4 (by kernel_rfl) (fun U E=>by(obtain⟨b7,ca⟩:=Qz (E.blk a0.out (fun e=>HG.out.2.1 e.symm)));go_simp;try with_reducible rfl) ?_;try simp only[Act.put,Za,Zc,Zb])
 iterate 2 (refine Q4 (by kernel_rfl) (fun U E=>by go_simp;try with_reducible rfl) ?_;try simp only[Act.put,Za,Zc,Zb])
 iterate 1 (refine Q4 (by kernel_rfl) (fun U E=>by(have b8:=(Uy (E.blk a2.out (fun e=>by have:=HG.out.1;have:=ah.out;omega))).2.1);go_simp;try with_reducible rfl) ?_;try simp only[Act.put,Za,Zc,Zb])
 iterate 9 (refine Jr (by kernel_rfl) (by go_simp;try with_reducible rfl) ?_)
 clear bo z0 z1 y1;refine Yc ?_;go_wp2_with fail;refine(a7.out 174 #[.pointer (some ⟨w.heap.size,0,none⟩)] (enters_of func174 (by kernel_rfl) rfl) (fun w' cc y=>Quk w.heap.size id y w' (Zv (cc.blk b0.out.drew (fun e=>by have:=HG.out.1;omega))))).mono ?_;rintro e w5⟨n,rfl,c5,I,r6,aj,ag⟩;have C5:=O c5.undrew;have bn:=O (And.intro aj ag);clear c5 aj ag a7;go_wp2_with fail;refine⟨C5.out,?_⟩;refine V5 ?_;go_wp2_with fail;refine K8 ?_;clear r6;go_wp2;go_ret;exact⟨rfl,bn.out⟩
end
section
variable{A:SAd}{w w1 w2:World}{F:Fp}{b:Nat}{s:Qg}{N:Nat}
theorem Qj.delLeaf(h:Qj A w F b s)(i:Int)(I ty:TypeId):
  ∃w',(Builtin.delete_ #[75,I] ty #[.map (some A.m),.int .i64 i]).run prog w=.ok (.tuple #[]) w'∧Qj A w' (Qn F w w') b {s with leaves:=s.leaves.filter fun l=>!decide (l.id=i)}∧Qc F w w':=by
 obtain⟨L,R,G,u,U,q⟩:=h.collOf;obtain⟨w',d,z,c⟩:=Uq (P:=prog) u.map underlying75 underlying3 I ty i;have E:Qc G w w':=c.sub fun k B=>B▸u.at_;have h1:Xy Qy.id Xl w' (Qn G w w') A.m A.ad (Yw Qy.id i L):=(u.del Xl.obj i z c).more (fun k B=>.inl B) (u.bd.ext E);obtain⟨J,K⟩:=q w' _ {s with leaves:=s.leaves.filter fun l=>!decide (l.id=i)} (R.filter _) rfl rfl rfl rfl h1 E;exact⟨w',d,J,K⟩
theorem Qop(sp:Xm)(w1:World):∃c,Qc Qb w1 c∧Qh c w1.heap.size (spA sp) 40∧
  (storeCells ⟨w1.heap.size,0,none⟩ (spA sp).toList 0).run prog (w1.alloc (.cells #[.int .i64 0,.int .i64 0,.bool false,.int .u64 0,.int .u64 0,.int .u64 0,.int .u64 0,.int .u64 0,.int .u64 0,.int .u64 0,.int .u64 0,.int .u64 0,.int .i64 0,.int .i64 0] 40))=.ok () c:=by
 obtain⟨c,s2,d,q⟩:=Z1 (P:=prog) (vs:=spA sp) (Qh.new w1 #[.int .i64 0,.int .i64 0,.bool false,.int .u64 0,.int .u64 0,.int .u64 0,.int .u64 0,.int .u64 0,.int .u64 0,.int .u64 0,.int .u64 0,.int .u64 0,.int .i64 0,.int .i64 0] 40) rfl (Lc _);exact⟨c,((Qc.refl Qb w1).alloc _).trans q (fun k e=>.inr (by omega)),d,s2⟩
theorem Qrl(h:Qs w F b s)(ok:X6 N s)(id:Int):
  Cl 52 #[ptr b,.int .i64 id] w fun e w'=>e=.returned (.int .i64 (s.dropE id))∧Qs w' (Qn F w w') b (s.drop id)∧Qc F w w':=by
 obtain⟨A,h⟩:=h;have U:=(Qj.obj A).bd h;have K:=O (fun w'(c:Qc Qb w w')=>(Qj.obj A).keep h c (Je.none F));have NO:Hid (∀w',Qc Qb w w'→s.dropE id≠0→Qs w' (Qn F w w') b (s.drop id)∧Qc F w w'):=O (fun w' c h0=>by rw[Qe4 h0];exact Qs.obj.same ⟨A,h⟩ c);have HN:=O (Vl h ok.most.1);obtain⟨V,a1,Z,a3,a4⟩:=Ys h.blk;have HG:Hid (Cl 13 #[ptr A.tb,.int .i64 id] w fun e w'=>e=.returned (.tuple #[.agg (spA (s.tree.get id).sp),.bool (s.tree.at id).isSome])∧Qc Qb w w'):=O (by
  obtain⟨G,hT,_⟩:=h.treeOf;exact Gh hT id)
 have I:=O (show s.dropE id=if(s.tree.at id).isNone then 81 else if s.tree.under id≠[]then 161 else if 0<s.many id then 230 else 0 from rfl);cases hc:s.tree.at id with
 |none=> have E:=O (show s.dropE id=81 by rw[I.out,hc];rfl);rw[hc]at HG;dsimp only[Option.isSome_none]at HG;unfold ptr at*;clear h ok U hc I;go_enter func52,ntmps52;go_wp2_with fail;refine HN.out.mono ?_;rintro e w1⟨rfl,rfl⟩;go_wp2_with fail;refine HG.out.mono ?_;rintro e w1⟨rfl,c1⟩;obtain⟨W2,c2,_,aj⟩:=Qop (s.tree.get id).sp w1;have u:=O (NO.out W2 (c1.trans' c2) (by rw[E.out];decide));clear c1 c2 NO;go_wp2_with fail;go_ret;exact⟨by rw[E.out];rfl,u.out⟩
 |some c=>
  have HU:Hid (∀w',Qc Qb w w'→Cl 35 #[ptr A.tb,.int .i64 id] w' fun e ag=>∃v,e=.returned v∧Zw ag v (s.tree.under id)∧(∀k,v.ownBlock=some k→w'.heap.size≤k)∧Qc Qb w' ag):=O (fun w' cc=>by
   obtain⟨G,hT,_⟩:=(K.out w' cc).treeOf;exact Qeh hT id (by have:=Qdp s.tree id;have:=ok.tree.many;omega))
  have B:=O (fun w'(cc:Qc Qb w w')=>Qhu (K.out w' cc) ok id);have d:Hid (s.dropE id=0→∀w3,Qc Qb w w3→Cl 110 #[ptr A.tb,.int .i64 id] w3 fun e z=>e=.returned (.int .i64 0)∧Qc F w z∧Qj A z (Qn F w z) b {s with tree:=s.tree.drop id}∧
    Cl 111 #[ptr A.pb,.int .i64 id] z fun e w5=>e=.returned (.bool true)∧Qj A w5 (Qn F w w5) b {s with tree:=s.tree.drop id,pick:=s.pick.drop id}∧
     ∃w6,(Builtin.delete_ #[75,3] 0 #[.map (some A.m),.int .i64 id]).run prog w5=.ok (.tuple #[]) w6∧Qs w6 (Qn F w w6) b (s.drop id)∧Qc F w w6):=O (fun h0 w3 c3=>by
   obtain⟨J,ak⟩:=Qcp h0;obtain⟨c',ap,R⟩:=Qbl ak;have ha:=ok.asleep J;obtain⟨x,q,hx,i1,am,hq,ao,_⟩:=ok.mt.drop ok.tree ok.pick ak ha;have h3:=K.out w3 c3;obtain⟨G,hT,_,al⟩:=h3.treeOf;refine(Qrk hT ap R (by have:=Qdp s.tree c'.sp.par;have:=ok.tree.many;omega)).mono ?_;rintro e z⟨rfl,ar,c4⟩;obtain⟨m1,m2⟩:=al z _ ar c4;have af:Qc F w z:=c3.none.trans' m2;have ah:=(Qj.obj A).more m1 (Yl c3.size) (U.ext af);refine⟨rfl,af,ah,?_⟩;obtain⟨Gp,⟨AP,hP⟩,_,ac⟩:=ah.pickOf;refine(Qqv hP ok.pick i1 hx am ha hq ao).mono ?_;rintro e w5⟨rfl,aq,c5⟩;obtain⟨n1,n2⟩:=ac w5 _ ⟨AP,aq⟩ c5;obtain⟨p1,p2⟩:=(Qj.obj A).two n1 U af n2;refine⟨rfl,p1,?_⟩;obtain⟨w6,r6,h6,c6⟩:=p1.delLeaf id 3 0;obtain⟨q1,q2⟩:=(Qj.obj A).two h6 U p2 c6;refine⟨w6,r6,?_,q2⟩;have e:s.drop id={s with tree:=s.tree.drop id,pick:=s.pick.drop id,leaves:=s.leaves.filter fun l=>!decide (l.id=id)}:=by unfold Qg.drop;rw[if_pos h0]
   rw[e];exact⟨A,q1⟩)
  have HA:=O h.blk;rw[hc]at HG I;dsimp only[Option.isSome_some,Option.isNone_some]at HG I;obtain⟨m,J⟩:=Zx (s.many id);rw[←J]at I B;unfold ptr at*;clear h ok hc J;go_enter func52,ntmps52;go_wp2_with fail;refine HN.out.mono ?_;rintro e w1⟨rfl,rfl⟩;go_wp2_with fail;refine HG.out.mono ?_;rintro e w1⟨rfl,c1⟩;obtain⟨W2,c2,_,aj⟩:=Qop (s.tree.get id).sp w1;have C2:=O (c1.trans' c2);clear c1 c2 V a1 Z a3 a4;obtain⟨V,a1,Z,a3,a4⟩:=Ys (C2.out.blk HA.out (fun h=>h));unfold ptr at*;go_wp2_with fail;clear aj;refine(HU.out W2 C2.out).mono ?_;rintro e w3⟨uv,rfl,hI,_,c3⟩;obtain⟨ua,cap,rfl,_,_,_⟩:=hI.row intT.hc;have C3:=O (C2.out.trans' c3);obtain⟨n0,ae⟩:=Zx ((s.tree.under id).length);have ai:=O ae;rw[←ae];clear hI c3 ae V a1 Z a3 a4;by_cases R:s.tree.under id=[]
  ·have hz:n0=0:=by rw[ai.out,R];rfl
   subst hz;by_cases J:0<m
   ·have E:=O (show s.dropE id=230 by rw[I.out,if_neg (by decide),if_neg (by simpa using R),if_pos J]);have dm:decide (0<m)=true:=by simpa using J
    rw[dm]at B;clear J R dm I d;go_wp2_with fail;refine(B.out w3 C3.out).mono ?_;rintro e z⟨rfl,c4⟩;have u:=O (NO.out z (C3.out.trans' c4) (by rw[E.out];decide));clear c4;go_wp2_with fail;go_ret;exact⟨by rw[E.out];rfl,u.out⟩
   ·have E:=O (show s.dropE id=0 by rw[I.out,if_neg (by decide),if_neg (by simpa using R),if_neg J]);have dm:decide (0<m)=false:=by simpa using J
    rw[dm]at B;have ST:=O (d.out E.out);clear J R dm I d NO;go_wp2_with fail;refine(B.out w3 C3.out).mono ?_;rintro e z⟨rfl,c4⟩;have C4:=O (C3.out.trans' c4);clear c4;obtain⟨V,a1,Z,a3,a4⟩:=Ys (C4.out.blk HA.out (fun h=>h));unfold ptr at*;go_wp2_with fail;clear V a1 Z a3 a4;refine(ST.out z C4.out).mono ?_;rintro e w5⟨rfl,c5,h5,hP⟩;have HP:=O hP;obtain⟨V,a1,Z,a3,a4⟩:=Ys h5.blk;clear hP c5 h5 ST;unfold ptr at*;go_wp2_with fail;clear V a1 Z a3 a4;refine HP.out.mono ?_;rintro e w6⟨rfl,h6,w7,r7,aa,ab⟩;obtain⟨V,a1,Z,a3,a4⟩:=Ys h6.blk;have u:=O (And.intro aa ab);clear h6 aa ab HP;unfold ptr at*;go_wp2_with fail;go_ret;exact⟨by rw[E.out];rfl,u.out⟩
  ·have an:n0≠0:=fun e=>R (List.eq_nil_of_length_eq_zero (by rw[←ai.out,e]));have E:=O (show s.dropE id=161 by rw[I.out,if_neg (by decide),if_pos R]);have dn:decide ((0:Int)<(n0:Int))=true:=by simp;omega
   have au:decide (0<n0)=true:=by simp;omega
   have u:=O (NO.out w3 C3.out (by rw[E.out];decide));clear R an I d NO;go_wp2_with fail;go_ret;exact⟨by rw[E.out];rfl,u.out⟩
end
end
end Go.Proofs.YtnnhmpehkbihnaaGreat
