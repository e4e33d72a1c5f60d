/- A part of the proof: no condition. -/
import Derived.Test.YtigcnnkagkbflaaGreatUo18
import Derived.Lib.AppendZerosOnto
import Derived.Lib.Overlaps
import Derived.Test.YtigcnnkagkbflaaGreatUo25
namespace Go.Proofs.YtigcnnkagkbflaaGreat
set_option linter.unusedVariables false
set_option maxRecDepth 100000
set_option maxHeartbeats 4000000
open Go.RowKit
open Go.Proofs.Tryz
attribute [local go_sem] Qp
attribute [local irreducible] Kl J9 Xo
section
variable{w w':World}{F:Fp}{b:Nat}{h:Qm}
theorem Q9.opn(hh:Q9 w F b h):∃ma mu l vs G,l.Perm h/\(l.map Vm.id).Nodup/\Qh w b #[.map (some ma),.map (some mu)] 114/\Xq w ma (Us l)/\Y7 w G mu vs h/\F b/\F ma/\(∀k,G k->F k)/\¬G b/\¬G ma/\b≠ma/\Bd F w/\
  ∀w' V u h',V.Perm h'->Xq w' ma (Us V)->Y7 w' (Qn G w w') mu u h'->Qc (λk=>k=ma\/G k) w w'->Q9 w' (Qn F w w') b h'/\Qc F w w':=by
 obtain⟨ma,mu,l,vs,hp,U,G0,R0,B,⟨ab,G1,R1,E,⟨ac,z,R2,g2,_,_,s4,_⟩,d1,s2,s3⟩,d0,s0,s1⟩:=hh;have nb:b≠ma:=λe=>d0 b B.2.1 (e▸s2 _ E.2.1);have f2:∀k,z k->F k:=λk c=>s1 _ (s3 _ (s4 _ c));have nG:¬z b:=λc=>d0 b B.2.1 (s3 _ (s4 _ c));have nA:¬z ma:=λc=>d1 ma E.2.1 (s4 _ c);have fb:=s0 _ B.2.1;have R:=s1 _ (s2 _ E.2.1);refine⟨ma,mu,l,vs,z,hp,by have:=E.1.nodup;rwa[Ma]at this,B.1,E.1,g2,fb,R,f2,nG,nA,nb,U,λw' V u h' aa d q J=>?_⟩;have K:Qc F w w':=J.sub λk c=>c.elim (λe=>e▸R) (f2 k);have ae:=U _ fb;have af:=U _ R;have Z:Bd (Qn F w w') w':=U.ext K;have I:Qh w' b #[.map (some ma),.map (some mu)] 114:=J.blk B.1 (λc=>c.elim nb nG);refine⟨⟨ma,mu,V,u,aa,?_⟩,K⟩;refine Q7 (G:=λk=>k=b) (H:=λk=>k=ma\/Qn z w w' k) ⟨I,rfl,λk e=>e▸I.lt⟩ ?_ ?_ (λk e=>.inl (e▸fb)) ?_ Z
 .refine Q7 (G:=λk=>k=ma) (H:=Qn z w w') ⟨d,rfl,λk e=>e▸d.lt⟩ (Y6 q q.bd) ?_ (λk e=>.inl e) (λk c=>.inr c) ?_
  .rintro k rfl c;rcases c with c|c;·exact nA c
   .omega
  .rintro k(e|c);·exact e▸d.lt
   .exact q.bd k c
 .rintro k rfl(e|c|c);·exact nb e
  .exact nG c
  .omega
 .rintro k(e|c);·exact .inl (e▸R)
  .exact Qn.mono f2 k c
end
section
variable{w:World}{v:Value}{l:List Int}
theorem Wo(l:List Int):Jm W7 l=l.map λx=>Value.int .i64 x:=by
 induction l with
 |nil=>rfl
 |cons x l c=> rw[V8,c];rfl
theorem Q6.opn(h:Q6 w v l)(I:l≠[]):∃g cap c,v=.slice (some ⟨g,0,none⟩) l.length cap/\Qh w g c 3/\c.size=cap/\(∀(k:Nat)(y:Int),l[k]? =some y->c[k]? =some (ZI y))/\l.length<=cap/\cap<=maxLen:=by
 obtain⟨R,z|⟨g,cap,c,rfl,U,B,J,q,K,d⟩⟩:=h;·exact absurd (List.eq_nil_of_length_eq_zero z.2) I
 .refine⟨g,cap,c,rfl,B,by omega,λk y u=>?_,J,q⟩;have E:k<l.length:=(Z1.1 u).1;have e:(c.toList.take (l.length*1))[k]? =(l.map λx=>Value.int .i64 x)[k]? :=by rw[d,Wo]
  rw[List.getElem?_take_of_lt (by omega),List.getElem?_map,u]at e;simpa using e
end
section
variable{w:World}{g:Nat}
theorem Vc{t:TypeId}:∀(vs:List Value)(o:Nat)(w)(cs:Array Value),Qh w g cs t->o+vs.length<=cs.size->
  ∃c,Qh (w.setCells g o vs) g c t/\c.size=cs.size/\(∀k,c[k]? =if o<=k/\k<o+vs.length then vs[k-o]? else cs[k]?)/\Qc (λk=>k=g) w (w.setCells g o vs)
 |[],o,w,cs,h,_=>⟨cs,h,rfl,λk=>by rw[if_neg (by simp)],Zg _ _⟩
 |v::vs,o,w,cs,h,hb=>by
  simp only[Zm]at hb;obtain⟨c,u,z,B,E⟩:=Vc vs (o+1) (w.setCell ⟨g,o,none⟩ v) _ (h.set o v) (by simp;omega);refine⟨c,u,by rw[z];simp,λk=>?_,?_⟩
  .rw[B k];by_cases e:k=o
   .subst e;rw[if_neg (by omega),if_pos (by simp),Nat.sub_self];have:k<cs.size:=by omega
    simp[this]
   .by_cases d:o+1<=k/\k<o+1+vs.length;·rw[if_pos d,if_pos (by simp only[Zm];omega),show k-o=(k-(o+1))+1 by omega,Zd]
    .rw[if_neg d,if_neg (by simp only[Zm];omega),Array.getElem?_setIfInBounds_ne (λq=>e q.symm)]
  .have I:Qc (λk=>k=g) w (w.setCell ⟨g,o,none⟩ v):=(Zg _ _).setCell _ (.inl rfl);exact I.aA E
theorem Q6.mk{cap:Nat}{l:List Int}{c:Array Value}(q:Qh w g c 3)(E:c.size=cap)(B:l.length<=cap)(z:cap<=maxLen)(u:∀(k:Nat)(y:Int),l[k]? =some y->c[k]? =some (ZI y)):Q6 w (.slice (some ⟨g,0,none⟩) l.length cap) l:=by
 refine⟨by rw[Wo];simp,.inr ⟨g,cap,c,rfl,Nat.zero_le _,q,B,z,by omega,?_⟩⟩;rw[Wo];apply List.ext_getElem?;intro k;rw[List.getElem?_take,List.getElem?_map];by_cases d:k<l.length;·rw[if_pos (by omega),List.getElem?_eq_getElem d];have:=u k _ (List.getElem?_eq_getElem d);simpa using this
 .rw[if_neg (by omega),List.getElem?_eq_none (by omega)];rfl
theorem Qm9(l:List Int)(x:Int){i:Nat}(u:i<=l.length)(k:Nat):(l.take i++x::l.drop i)[k]? =if k<i then l[k]? else if k=i then some x else l[k-1]? :=by
 have q:(l.take i).length=i:=by rw[List.length_take];omega
 by_cases c:k<i;·rw[if_pos c,List.getElem?_append_left (by omega),List.getElem?_take,if_pos c]
 .rw[if_neg c,List.getElem?_append_right (by omega),q];by_cases d:k=i;·rw[if_pos d,d,Nat.sub_self];rfl
  .rw[if_neg d,show k-i=(k-i-1)+1 by omega,Zd,List.getElem?_drop,show i+(k-i-1)=k-1 by omega]
theorem Qou{cap i:Nat}{l:List Int}{c:Array Value}(x:Int)(hi:i<l.length)(U:Qh w g c 3)(hs:c.size=cap)(hn:l.length+1<=cap)(Z:cap<=maxLen)(V:∀(k:Nat)(y:Int),l[k]? =some y->c[k]? =some (ZI y)):
  Q6 ((w.setCells g (i+1) ((l.drop i).map λy=>ZI y)).setCells g i [ZI x]) (.slice (some ⟨g,0,none⟩) (l.length+1) cap) (l.take i++x::l.drop i)/\Qc (λk=>k=g) w ((w.setCells g (i+1) ((l.drop i).map λy=>ZI y)).setCells g i [ZI x]):=by
 obtain⟨J,E,s1,B,K⟩:=Vc ((l.drop i).map λy=>Value.int .i64 y) (i+1) w c U (by simp;omega);obtain⟨c2,I,s2,k2,R⟩:=Vc [Value.int .i64 x] i _ J E (by simp;omega);have q:(l.take i++x::l.drop i).length=l.length+1:=by simp;omega
 have:=Q6.mk (l:=l.take i++x::l.drop i) I (cap:=cap) (by omega) (by omega) Z (λk y d=>by
  rw[Qm9 l x (by omega)]at d;rw[k2];simp only[Zm,List.length_nil,List.length_map,List.length_drop]at B|-;by_cases u:k=i;·rw[if_neg (by omega),if_pos u]at d;obtain rfl:=Zs d;rw[if_pos (by omega),u,Nat.sub_self];rfl
  .rw[if_neg (by omega),B];by_cases z:k<i;·rw[if_pos z]at d;rw[if_neg (by omega)];exact V k y d
   .rw[if_neg z,if_neg u]at d;have:=(Z1.1 d).1;rw[if_pos (by omega),List.getElem?_map,List.getElem?_drop,show i+(k-(i+1))=k-1 by omega,d];rfl)
 rw[q]at this;exact⟨this,K.aA R⟩
theorem Qtr{cap i r:Nat}{l:List Int}{c:Array Value}(x:Int)(hi:i<l.length)(U:Qh w r c 3)(hs:c.size=cap)(hn:l.length+1<=cap)(Z:cap<=maxLen)(V:∀(k:Nat)(y:Int),k<i->l[k]? =some y->c[k]? =some (ZI y)):
  Q6 ((w.setCells r i [ZI x]).setCells r (i+1) ((l.drop i).map λy=>ZI y)) (.slice (some ⟨r,0,none⟩) (l.length+1) cap) (l.take i++x::l.drop i)/\Qc (λk=>k=r) w ((w.setCells r i [ZI x]).setCells r (i+1) ((l.drop i).map λy=>ZI y)):=by
 obtain⟨J,E,s1,B,K⟩:=Vc [Value.int .i64 x] i w c U (by simp;omega);obtain⟨c2,I,s2,k2,R⟩:=Vc ((l.drop i).map λy=>Value.int .i64 y) (i+1) _ J E (by simp;omega);have q:(l.take i++x::l.drop i).length=l.length+1:=by simp;omega
 have:=Q6.mk (l:=l.take i++x::l.drop i) I (cap:=cap) (by omega) (by omega) Z (λk y d=>by
  rw[Qm9 l x (by omega)]at d;rw[k2];simp only[Zm,List.length_nil,List.length_map,List.length_drop]at B|-;by_cases z:k<i;·rw[if_pos z]at d;rw[if_neg (by omega),B,if_neg (by omega)];exact V k y z d
  .rw[if_neg z]at d;by_cases u:k=i;·rw[if_pos u]at d;obtain rfl:=Zs d;rw[if_neg (by omega),B,if_pos (by omega),u,Nat.sub_self];rfl
   .rw[if_neg u]at d;have:=(Z1.1 d).1;rw[if_pos (by omega),List.getElem?_map,List.getElem?_drop,show i+(k-(i+1))=k-1 by omega,d];rfl)
 rw[q]at this;exact⟨this,K.aA R⟩
end
theorem Qk0{w}{b:Nat}{L:List (Int×Value)}(h:Xq w b L):ZW 88 #[.map (some b)] w (.map (some w.heap.size)) λw'=>Xq w' w.heap.size L/\Qc Qb w w':=by obtain⟨q,d,u,c⟩:=h;have k:=O c;have z:=λw=>run_eql_map_nil_sl (P:=prog) w 111 _ _ (some b) underlying111;clear c;apply WH func88;go_wp2;rw[run_callFunc_extern func144 (by kernel_rfl) (by kernel_rfl) (by kernel_rfl) (e:=Extern.MapsClone.clone) (by kernel_rfl),run_maps_clone_sl w 111 u];simp only[Result.andThen];rw[Oper.upon_value];go_wp2;rw[run_typeAssert_map_sl _ 111 _ _ _ _ underlying111];simp only[Result.andThen];rw[Oper.upon_value];go_wp2;go_ret;exact⟨rfl,⟨q,d,(MapKept.heap_alloc w _).1,k.o⟩,(Zg _ _).alloc _⟩
theorem Qhy{w}{b:Nat}{L:List (Int×Value)}(h:Xq w b L):ZW 89 #[.map (some b)] w (.map (some w.heap.size)) λw'=>Xq w' w.heap.size L/\Qc Qb w w':=by obtain⟨q,d,u,c⟩:=h;have k:=O c;have z:=λw=>run_eql_map_nil_sl (P:=prog) w 112 _ _ (some b) underlying112;clear c;apply WH func89;go_wp2;rw[run_callFunc_extern func144 (by kernel_rfl) (by kernel_rfl) (by kernel_rfl) (e:=Extern.MapsClone.clone) (by kernel_rfl),run_maps_clone_sl w 112 u];simp only[Result.andThen];rw[Oper.upon_value];go_wp2;rw[run_typeAssert_map_sl _ 112 _ _ _ _ underlying112];simp only[Result.andThen];rw[Oper.upon_value];go_wp2;go_ret;exact⟨rfl,⟨q,d,(MapKept.heap_alloc w _).1,k.o⟩,(Zg _ _).alloc _⟩
structure Ai(w:World)(h:Qm)(l:List Vm)(b' ma mu r:Nat)(wr:World)(vsr left:List (Int×Value)):Prop where
 it:Kj wr mu r vsr left
 chg:Qc Qb w wr
 blk:Qh wr b' #[.map (some ma),.map (some mu)] 114
 mall:Xq wr ma (Us l)
 has:∀p∈vsr,Q6 wr p.2 (h.aM p.1)
 own:∀p∈vsr,∀k,p.2.ownBlock=some k->(p∈left/\k<w.heap.size)\/(w.heap.size<=k/\k<wr.heap.size/\k≠b'/\k≠ma/\k≠mu/\k≠r)
 dis:∀p∈vsr,∀q∈vsr,∀k,p.2.ownBlock=some k->q.2.ownBlock=some k->p.1=q.1
 miss:∀i,(∀p∈vsr,p.1≠i)->h.aM i=[]
 ne:b'≠ma/\b'≠mu/\ma≠mu/\r≠b'/\r≠ma/\r≠mu
 lo:w.heap.size<=b'/\w.heap.size<=ma/\w.heap.size<=mu/\w.heap.size<=r
section
variable{w wr w2 w3:World}{h:Qm}{l:List Vm}{b' ma mu r:Nat}{vsr left:List (Int×Value)}
theorem Ai.fin(C:Ai w h l b' ma mu r wr vsr [])(q:l.Perm h):Q9 wr (Qn Qb w wr) b' h/\Qc Qb w wr:=by
 have z:=C.it.map;obtain⟨I,J,K,Z,n5,n6⟩:=C.ne;obtain⟨E,R,U,V⟩:=C.lo;have d:∀p∈vsr,∀k,p.2.ownBlock=some k->w.heap.size<=k/\k<wr.heap.size/\k≠b'/\k≠ma/\k≠mu/\k≠r:=λp q k c=>(C.own p q k c).resolve_left λe=>by cases e.1
 refine⟨⟨ma,mu,l,vsr,q,?_⟩,C.chg⟩;have B:Bd (Qn Qb w wr) wr:=λk c=>c.elim (λh=>h.elim) (λh=>h.2);have u:Y7 wr (λk=>k=mu\/∃p∈vsr,p.2.ownBlock=some k) mu vsr h:=⟨z,λk c=>c.elim (λe=>e▸z.lt) (λ⟨p,q,c⟩=>(d p q k c).2.1),.inl rfl,C.has,λp q k c=>⟨.inr ⟨p,q,c⟩,(d p q k c).2.2.2.2.1⟩,C.dis,C.miss⟩;refine Q7 (G:=λk=>k=b') (H:=λk=>k=ma\/k=mu\/∃p∈vsr,p.2.ownBlock=some k) ⟨C.blk,rfl,λk e=>e▸C.blk.lt⟩ ?_ ?_ ?_ ?_ B
 .refine Q7 (G:=λk=>k=ma) (H:=λk=>k=mu\/∃p∈vsr,p.2.ownBlock=some k) ⟨C.mall,rfl,λk e=>e▸C.mall.lt⟩ (Y6 u u.bd) ?_ (λk e=>.inl e) (λk c=>.inr c) ?_
  .rintro k rfl(e|⟨p,q,c⟩);·exact K e
   .exact(d p q _ c).2.2.2.1 rfl
  .exact λk c=>c.elim (λe=>e▸C.mall.lt) (u.bd k)
 .rintro k rfl(e|e|⟨p,q,c⟩);·exact I e
  .exact J e
  .exact(d p q _ c).2.2.1 rfl
 .rintro k rfl;exact .inr ⟨E,C.blk.lt⟩
 .rintro k(e|e|⟨p,q,c⟩);·exact .inr ⟨by omega,e▸C.mall.lt⟩
  .exact .inr ⟨by omega,e▸z.lt⟩
  .exact .inr ⟨(d p q k c).1,(d p q k c).2.1⟩
theorem Ai.step(C:Ai w h l b' ma mu r wr vsr left){p:Int×Value}(hp:p∈left)(ab:Kj w2 mu r vsr (Vu p.1 left))(c2:Qc (λj=>j=r) wr w2)(c3:Qc Qb w2 w3){K:Value}(hv:Q6 w3 K (h.aM p.1))(hn:∀k,K.ownBlock=some k->w2.heap.size<=k):
  ∃w4,(Instr.mapUpdate 112 (.map (some mu)) (ZI p.1) K).run prog w3=.ok () w4/\Ai w h l b' ma mu r w4 (Oi p.1 K vsr) (Vu p.1 left):=by
 obtain⟨n1,n2,n3,n4,n5,n6⟩:=C.ne;obtain⟨l1,l2,l3,l4⟩:=C.lo;have ac:p∈vsr:=C.it.sub.subset hp;have B:=C.it.map.nodup;have ai:r<wr.heap.size:=by obtain⟨es,aa,ae,_,_,_,_,_,h6,_⟩:=C.it;exact(Z2.1 h6).1
 obtain⟨w4,V,R,c4⟩:=Qbi (P:=prog) (ab.aB c3 (λh=>h) (λh=>h)) underlying112 underlying3 p.1 K ⟨p,ac,rfl⟩ (λq d=>by have:=(List.mem_filter.1 d).2;simpa using this);have s2:=c2.size;have s3:=c3.size;have s4:=c4.size;have ag:=C.blk.lt;have af:=C.mall.lt;have ah:=C.it.map.lt;have E:Qc (λj=>j=r\/j=mu) wr w4:=((c2.mono λk c=>.inl (.inl c)).trans c3 λk c=>c.elim).trans c4 λk c=>.inl (.inr c);refine⟨w4,V,R,C.chg.trans E λk c=>.inr (c.elim (λe=>by omega) (λe=>by omega)),E.blk C.blk (λe=>e.elim (λe=>n4 e.symm) (λe=>n2 e)),C.mall.aB E (λe=>e.elim (λe=>n5 e.symm) (λe=>n3 e)),λq d=>?_,λq d k c=>?_,λq d q' u k c I=>?_,λi hi=>?_,C.ne,C.lo⟩
 .rcases Hu B d with rfl|⟨d,J⟩;·refine hv.aB c4 λk c e=>?_;have:=hn k c;omega
  .refine(C.has q d).aB E λk c e=>?_;rcases C.own q d k c with⟨_,z⟩|⟨_,_,_,_,h5,h6⟩;·rcases e with e|e<;>omega
   .exact e.elim h6 h5
 .rcases Hu B d with rfl|⟨d,J⟩;·have z:=hn k c;have h2:=hv.lt k c;exact .inr ⟨by omega,by omega,by omega,by omega,by omega,by omega⟩
  .rcases C.own q d k c with⟨h0,z⟩|⟨z,h2,h3⟩;·exact .inl ⟨List.mem_filter.2 ⟨h0,by simpa using J⟩,z⟩
   .exact .inr ⟨z,by omega,h3⟩
 .have Z:∀q∈vsr,∀k,q.2.ownBlock=some k->k<wr.heap.size:=λq d k c=>by
   rcases C.own q d k c with⟨_,z⟩|⟨_,h2,_⟩;·have:=C.chg.size;omega
   .exact h2
  rcases Hu B d with rfl|⟨d,J⟩
  .rcases Hu B u with rfl|⟨u,U⟩;·rfl
   .have z:=hn k c;have:=Z q' u k I;omega
  .rcases Hu B u with rfl|⟨u,U⟩;·have z:=hn k I;have:=Z q d k c;omega
   .exact C.dis q d q' u k c I
 .refine C.miss i λq d e=>?_;by_cases z:q.1=p.1;·exact hi _ (Qbr p.1 K vsr) (z.symm.trans e)
  .exact hi q (Qbs d z) e
end
theorem Ww{w}{F:Fp}{b:Nat}{h:Qm}(hh:Q9 w F b h)(hl:h.length<1099511627776):
  Cl 50 #[ptr b] w λe w'=>∃b',e=.returned (ptr b')/\Q9 w' (Qn Qb w w') b' h/\Qc Qb w w':=by
 obtain⟨ma,mu,l,vs,G,q,hn,aa,ac,E,fb,fm,fG,au,av,aw,ae,_⟩:=hh.opn;have HL:∀i,(h.aM i).length<1099511627776:=λi=>by
  have:(h.aM i).length<=h.length:=by unfold Qm.aM;rw[List.length_map];exact List.length_filter_le _ _
  omega
 have ai:=O (λw'(c:Qc Qb w w')=>Qk0 (ac.aB c (λh=>h)));have aj:=O (λw'(c:Qc Qb w w')=>Qhy (E.map.aB c (λh=>h)));have HB:=O aa;have K:Hi (∀w0 w1 w2 w3,Qc Qb w w0->Qc Qb w0 w1->Qc Qb w1 w2->Xq w1 w0.heap.size (Us l)->Xq w2 w1.heap.size vs->w3=w2.alloc (.cells #[.map (some w0.heap.size),.map (some w1.heap.size)] 114)->
   ∃o,(Instr.range 112 (.map (some w1.heap.size))).run prog w3=.ok (.pointer (some ⟨w3.heap.size,0,none⟩)) (w3.alloc o)/\Qh w3 w2.heap.size #[.map (some w0.heap.size),.map (some w1.heap.size)] 114/\Ai w h l w2.heap.size w0.heap.size w1.heap.size w3.heap.size (w3.alloc o) vs vs):=O (by
  rintro w0 w1 w2 w3 c0 c1 U u z rfl;have c3:Qc Qb w2 (w2.alloc (.cells #[.map (some w0.heap.size),.map (some w1.heap.size)] 114)):=(Zg _ _).alloc _;have d:Qh (w2.alloc (.cells #[.map (some w0.heap.size),.map (some w1.heap.size)] 114)) w2.heap.size #[.map (some w0.heap.size),.map (some w1.heap.size)] 114:=Qh.new _ _ _;obtain⟨w3,ar⟩:=Zx (w2.alloc (.cells #[.map (some w0.heap.size),.map (some w1.heap.size)] 114));rw[<-ar]at c3 d|-;obtain⟨o,R,ap⟩:=Er (P:=prog) (z.aB c3 (λh=>h)) underlying112;have c4:Qc Qb w3 (w3.alloc o):=(Zg _ _).alloc _;have cA:Qc Qb w (w3.alloc o):=(((c0.aA c1).aA U).aA c3).aA c4;have s0:=c0.size;have z1:=u.lt;have z2:=z.lt;have z3:=d.lt;have s1:=c1.size;have s2:=U.size;have hU:=E.aB cA (Jl.none G);exact⟨o,R,d,ap,cA,c4.blk d (λh=>h),(u.aB U (λh=>h)).aB (c3.aA c4) (λh=>h),hU.has,λp q k hk=>.inl ⟨q,ae k (fG k (E.own p q k hk).1)⟩,hU.dis,hU.miss,⟨by omega,by omega,by omega,by omega,by omega,by omega⟩,⟨by omega,by omega,by omega,by omega⟩⟩)
 have HP:=O q;have am:=O HL;clear hh q hn ac E fb fm fG au av aw ae hl HL;have a0:=Q4 (HB.o.drew);clear aa;apply WH func50;go_wp2_with fail;apply YC [0,1,2,3,105,106,107,108,204,309,10,311,312] Qb w;iterate 4 (refine Xe (h:=?_))
 iterate 3 (refine Qy (h:=?_);try simp only[Act.put,Za,Zc,Zb])
 iterate 1 (apply YK λ_ hv=>Q4 (hv.blk HB.o (λh=>h)))
 clear a0;refine Yb ?_;go_wp2_with fail;apply ZD (ai.o w.drew (Zg Qb w).drew);intro w1 T1;go_wp2_with fail;refine⟨((Zg Qb w).drew.aA T1.o.2),?_⟩;refine Km ?_;go_wp2_with fail;apply Zz (aj.o w1 ((Zg Qb w).drew.aA T1.o.2));rintro w2⟨z,U⟩;obtain⟨o,R,d,B⟩:=K.o w.drew w1 w2 _ (Zg Qb w).drew T1.o.2 U T1.o.1 z rfl;have ez:w.drew.heap.size=w.heap.size:=rfl;rw[ez]at R d B;rw[show(w2.alloc (.cells #[.map (some w.heap.size),.map (some w1.heap.size)] 114)).heap.size=w2.heap.size+1 by simp]at R B;clear ez;have ak:=O B;have e1:=(Q4 d).2;clear z U B d;go_wp2_with fail;apply YA 0;go_wp2_with fail;apply YI 0;go_wp2_with fail;go_loopw [4,5] (λ_ _ wr=>∃vsr left,Ai w h l w2.heap.size w.heap.size w1.heap.size (w2.heap.size+1) wr vsr left) (λ_ _ wr=>Dq wr (w2.heap.size+1));case atStart=>exact⟨_,_,ak.o⟩
 case round=>
  obtain⟨vsr,left,C⟩:=hrel;have e1:=Q4 C.blk;rcases Rx (P:=prog) C.it 0 with⟨h0,R⟩|⟨p,q,w4,R,J,I,ao⟩;·subst h0;have ah:=O (C.fin HP.o);clear C;go_wp2_with fail;go_ret;exact⟨_,rfl,ah.o⟩
  .have al:=O J;have C4:=O I;have CC:=O C;have B4:=O (I.blk C.blk (λe=>by have:=C.ne.2.2.2.1;omega));have ax:=O (C.it.sub.subset q);have an:=O q;have Z:Hi ((Vu p.1 left).length<left.length):=O (by
    unfold Vu;exact List.length_filter_lt_length_iff_exists.2 ⟨p,q,by simp⟩)
   have LW:=O C.it.left_eq;have HV:=O ((C.has p (C.it.sub.subset q)).aB I (λk hk e=>by
    rcases C.own p (C.it.sub.subset q) k hk with⟨_,h1⟩|⟨_,_,_,_,_,h6⟩;·have:=C.lo.2.2.2;omega
    .exact h6 e))
   clear C J I q;go_wp2_with fail;clear R ao e1;have z0:=Q4 (B4.o.drew);apply XC 32011111 Qb w4;iterate 3 (refine Qy (h:=?_);try simp only[Act.put,Za,Zc,Zb])
   iterate 1 (apply YK λ_ hv=>Q4 (hv.blk B4.o (λh=>h)))
   apply YA 0;clear z0;go_wp2_with fail;refine(Fy p.2 _ w4.drew (Q6.aB HV.o (Zg Qb w4).drew (λ_ _ h=>h)) (am.o p.1)).mono ?_;rintro e w5⟨v',rfl,ag,c5,af,_⟩;have C5:=O c5.aT;obtain⟨w6,aq,ab⟩:=CC.o.step an.o al.o C4.o c5.aT ag af;have V:=O ab;clear ag c5 af ab;go_wp2_with fail;refine⟨C5.o,?_⟩;apply YI 0;clear aq;go_wp2_with fail;go_roundw;case measure=> rw[V.o.it.left_eq,CC.o.it.left_eq];exact Z.o
   case rel=>exact⟨_,_,V.o⟩
section
variable{w:World}{F:Fp}{b:Nat}{h:Qm}
theorem Y7.later{w0 w1}{G:Fp}{m:Nat}{vs:List (Int×Value)}(d:Y7 w1 (Qn G w0 w1) m vs h){w:World}(u:w.heap.size<=w0.heap.size)(q:Bd (Qn G w w1) w1):Y7 w1 (Qn G w w1) m vs h:=
 (Y7.good m vs h).more d (λk c=>c.elim .inl λc=>.inr ⟨by omega,c.2⟩) q
theorem Qkl(hh:Q9 w F b h){id:Int}{c:Vm}(ha:h.at id=some c)(hu:h.aM id=[])(ai:(h.aM c.sp.par).length<1099511627776):
  ZW 121 #[ptr b,ZI id] w (ZI 0) λw'=>Q9 w' (Qn F w w') b (h.drop id)/\Qc F w w':=by
 have a3:=O (λw'(c:Qc Qb w w')=>Q9.obj.aB hh c (Jl.none F));obtain⟨W,hW⟩:=Zx (w.alloc (.cells #[ZI id] 3));have CW:Qc Qb w W:=by rw[hW];exact(Zg _ _).alloc _
 have hN:=O (Gz (a3.o W CW));have BX:=O (show Qh W w.heap.size #[ZI id] 3 by rw[hW];exact Qh.new _ _ _);obtain⟨ma,mu,l,vs,G,hp,hn,ao,ac,I,fb,fm,fG,ay,J,bg,a7,a4⟩:=hh.opn;obtain⟨ba,a9⟩:=Qm.aE ha;have au:h.aM c.sp.par≠[]:=λe=>by have:id∈h.aM c.sp.par:=Z3.2 ⟨c,List.mem_filter.2 ⟨ba,by simp⟩,a9⟩;rw[e]at this;cases this
 have b7:c.sp.par≠id:=λe=>au (by rw[e];exact hu);have b8:Hi (w.heap.size<W.heap.size):=O (BX.o.lt);have aj:Hi (∀w2,Qc Qb w w2->(∃a cap,(Instr.lookup 112 (.map (some mu)) (ZI id) false).run prog w2=.ok (.slice a 0 cap) w2)/\
   ∃w3,(Builtin.delete_ #[111,3] 0 #[.map (some ma),ZI id]).run prog w2.drew=.ok (.tuple #[]) w3/\Qc (λk=>k=ma) w2 w3/\
   ∃q,(Builtin.delete_ #[112,3] 0 #[.map (some mu),ZI id]).run prog w3.drew=.ok (.tuple #[]) q/\Qc (λk=>k=ma\/k=mu) w2 q/\
   ∃g cap,(g<w.heap.size/\g≠b/\g≠mu)/\(Instr.lookup 112 (.map (some mu)) (ZI c.sp.par) false).run prog q.drew=.ok (.slice (some ⟨g,0,none⟩) (h.aM c.sp.par).length cap) q.drew/\
   (∀gf z,(∀af w,(callFunc gf af).run prog w=.ok (.enter gf af) w)->(∀w',Qc (λk=>k=g) q.drew w'->∀y,Cl gf (#[ZI y]++z) w' λe b5=>e=.returned (.bool (decide (y=id)))/\w'=b5)->
    Cl 183 #[.slice (some ⟨g,0,none⟩) (h.aM c.sp.par).length cap,.func (.func gf) #[] z] q.drew λe w5=>∃n,e=.returned (.slice (some ⟨g,0,none⟩) n cap)/\Qc (λk=>k=g) q.drew w5/\
     ∃K,(Instr.mapUpdate 112 (.map (some mu)) (ZI c.sp.par) (.slice (some ⟨g,0,none⟩) n cap)).run prog w5=.ok () K/\Q9 K (Qn F w K) b (h.drop id)/\Qc F w K)):=O (by
  intro w2 aa;have aq:=I.aB aa (Jl.none G);have ar:=aq.at_;refine⟨?_,?_⟩;·obtain⟨v,hr,hI,_⟩:=aq.look id;rw[hu]at hI;obtain⟨a,cap,rfl,_⟩:=hI.row intT.hc;exact⟨a,cap,hr⟩
  .obtain⟨w3,r3,bu,c3⟩:=Di (P:=prog) ((ac.aB aa (λh=>h)).aB (Zg Qb w2).drew (λh=>h)) underlying111 underlying3 3 0 id;have ak:Qc (λk=>k=ma) w2 w3:=c3.aT;refine⟨w3,r3,ak,?_⟩;have a6:=aq.aB ak (λk d e=>J (e▸d));obtain⟨q,r4,bv,c4⟩:=Di (P:=prog) (a6.map.aB (Zg Qb w3).drew (λh=>h)) underlying112 underlying3 3 0 id;have am:Qc (λk=>k=mu) w3 q:=c4.aT;have b0:=a6.del id hu bv am;have al:Qc (λk=>k=ma\/k=mu) w2 q:=(ak.mono λk d=>.inl (.inl d)).trans am λk d=>.inl (.inr d);refine⟨q,r4,al,?_⟩;have B:=b0.aB (Zg Qb q).drew (Jl.none G);obtain⟨v,hr,hI,hv⟩:=B.look c.sp.par;obtain⟨g,cap,b9,rfl,br,b4,bb,a8,bf⟩:=hI.opn au;have ax:(c.sp.par,Value.slice (some ⟨g,0,none⟩) (h.aM c.sp.par).length cap)∈Vu id vs:=hv.resolve_left λe=>by cases e.1
   obtain⟨gG,gm⟩:=B.own _ ax g rfl;refine⟨g,cap,⟨a7 g (fG g gG),λe=>ay (e▸gG),gm⟩,hr,λgf z eg hT=>?_⟩;refine(Qex br b4 bb a8 bf hI ai gf z eg (λy=>decide (y=id)) hT).mono ?_;rintro e w5⟨n,rfl,bs,ab⟩;refine⟨n,rfl,ab,?_⟩;have bw:=B.map.aB ab (λe=>gm e.symm);obtain⟨K,r6,bz,an⟩:=X6 (P:=prog) bw underlying112 underlying3 c.sp.par (.slice (some ⟨g,0,none⟩) n cap);refine⟨K,r6,?_⟩;have hd:=Qm.drop_eq ha hu;have aw:(h.drop id).aM c.sp.par=(h.aM c.sp.par).filter λy=>!decide (y=id):=by rw[hd];exact Ph h id _
   have av:∀k,k≠c.sp.par->(h.drop id).aM k=h.aM k:=λk d=>by rw[hd];exact Ij ((hp.map _).nodup_iff.1 hn) ha d
   have bt:Q6 K (.slice (some ⟨g,0,none⟩) n cap) ((h.drop id).aM c.sp.par):=by rw[aw];refine bs.aB an λk d e=>?_;have:g=k:=Zs d;exact gm (this.trans e)
   have bp:Qc (λk=>k=mu\/k=g) q.drew K:=(ab.mono λk d=>.inl (.inr d)).trans an λk d=>.inl (.inl d);obtain⟨b1,bq⟩:=B.put av bt (λk d=>.inl ⟨_,ax,d⟩) bz bp (λk d=>d.elim .inl λe=>.inr ⟨_,ax,by rw[e];rfl⟩);have cA:Qc (λk=>k=ma\/G k) w K:=by refine(aa.none.aA (al.mono λk d=>.inl (d.elim .inl λe=>.inr (e▸ar)))).aA ?_;exact bq.aT.sub λk d=>.inr d
   have bo:Bd G w:=I.bd;refine a4 K (l.filter λx=>!decide (x.sp.id=id)) _ _ (by rw[hd];exact hp.filter _) ?_ ((b1.later (w:=w) (Zp aa.size al.size) ?_)) cA;·rw[<-Qj7];exact(((bu.aB am (λe=>J (e▸ar))).aB (Zg Qb q).drew (λh=>h)).aB ab (λe=>J (e▸gG))).aB an (λe=>J (e▸ar))
   .exact λk d=>d.elim (λd=>Nat.lt_of_lt_of_le (bo k d) cA.size) (λd=>d.2))
 have LK:=O (λ(w')(cc:Qc Qb w w')=>show(Instr.lookup 111 (.map (some ma)) (ZI id) true).run prog w'=.ok (.tuple #[.agg (P0 c),.bool true]) w' by
  have hL:=Dj (P:=prog) (ac.aB cc (λh=>h)) underlying111 underlying3 (Sf w') id;rw[Ed id l hn,<-Qm.at_perm hp hn,ha]at hL;exact hL)
 have Z:Hi (b≠ma/\b≠mu/\b<w.heap.size/\ma<w.heap.size/\mu<w.heap.size):=O (⟨bg,λe=>ay (e▸I.at_),ao.lt,ac.lt,I.map.lt⟩);have a2:=O ao;have V:=O CW;clear hh ao CW ac I hp hn ha hu a4 fb fm fG ay J bg a7 au ba a9 ai;apply WH func121;go_wp2_with fail;rw[<-hW];clear hW;apply Zz hN.o;rintro w1 rfl;go_wp2_with fail;apply XC 322111111111 Qb W;iterate 3 (refine Qy (h:=?_);try simp only[Act.put,Za,Zc,Zb])
 iterate 3 (apply YK λwv hv=>Zt (Q4 (hv.blk (V.o.blk a2.o (λh=>h)) (λh=>h))) (Zt (Jf (hv.blk BX.o (λh=>h))) (LK.o wv (V.o.aA hv))))
 apply YA 0;go_wp2_with fail;refine⟨((Zg Qb W).alloc _).drew,?_⟩;have ap:Qh (W.alloc (.cells Z6 109)).drew W.heap.size Z6 109:=(Qh.new _ _ _).drew;have C1:Qc Qb W (W.alloc (.cells Z6 109)).drew:=((Zg Qb W).alloc _).drew;generalize(W.alloc (.cells Z6 109)).drew=W1 at ap C1|-;obtain⟨W2,s2,a5,C2⟩:=Q0 (P:=prog) (vs:=P0 c) ap rfl (Sn c);have a1:Qc Qb W W2:=C1.trans C2 (λk e=>.inr (by omega));have E:=O a1;have bl:=O a5;clear ap C1 a5 C2 a1;refine Yb ?_;go_wp2_with fail;refine⟨E.o,?_⟩;apply YI 0;go_wp2_with fail;clear s2;have C2:=O (V.o.aA E.o);obtain⟨⟨u,b6,b2⟩,w3,r3,c3,q,r4,c4,g,cap,⟨bc,bd,be⟩,b3,DF⟩:=aj.o W2.drew C2.o.drew;have C3:=O c3.aT;have C4:=O c4.aT;have bm:=O DF;have HG:=O (Zt bc (Zt bd be));have NB:=Z.o;have ae:=O V.o.size;have R:=O (C2.o.blk a2.o (λh=>h));have U:=O (E.o.blk BX.o (λh=>h));have bh:=O (C3.o.blk R.o (λe=>Z.o.1 e));have bi:=O (C3.o.blk U.o (λe=>by have:=Z.o.2.2.2.1;omega));have az:=O (C4.o.blk R.o (λe=>e.elim (λe=>Z.o.1 e) (λe=>Z.o.2.1 e)));have bj:=O (C4.o.blk U.o (λe=>by have:=Z.o.2.2.2.1;have:=Z.o.2.2.2.2;rcases e with e|e<;>omega));have a0:=O (C4.o.blk bl.o (λe=>by have:=Z.o.2.2.2.1;have:=Z.o.2.2.2.2;have:=ae.o;rcases e with e|e<;>omega));clear c3 c4 DF bc bd be NB;have z0:=Q4 (R.o.drew);have y0:=Jf (U.o.drew);apply XB 200000000;apply YA 0;clear b2 z0 y0;go_wp2_with fail;refine Jo ?_;go_wp2_with fail;have z0:=Q4 (R.o.drew.drew);have y0:=Jf (U.o.drew.drew);apply XB 200000;apply YA 0;clear z0 y0;go_wp2_with fail;refine Jo ?_;clear r3;go_wp2_with fail;have z0:=Q4 (bh.o.drew);have y0:=Jf (bi.o.drew);apply XB 200000;apply YA 0;clear z0 y0;go_wp2_with fail;refine Jo ?_;clear r4;go_wp2_with fail;have z0:=Q4 (az.o.drew);have y1:=(Dm a0.o.drew).2.1;apply XC 320000000001111111 (λk=>k=g) q;iterate 3 (refine Qy (h:=?_);try simp only[Act.put,Za,Zc,Zb])
 iterate 1 (apply YK λ_ hv=>Q4 (hv.blk az.o (λe=>HG.o.2.1 e.symm)))
 iterate 2 (refine Qy (h:=?_);try simp only[Act.put,Za,Zc,Zb])
 iterate 1 (refine Qy (by kernel_rfl) (λwv hv=>by(have ca:=(Dm (hv.blk a0.o (λe=>by have:=HG.o.1;have:=ae.o;omega))).2.1);go_simp;try rfl) ?_;try simp only[Act.put,Za,Zc,Zb])
 apply YA 0;clear b3 z0 y1;go_wp2_with fail;refine(bm.o 184 #[ZP w.heap.size] (enters_of func184 (by kernel_rfl) rfl) (λw' cc y=>Qn9 w.heap.size id y w' (Jf (cc.blk bj.o.drew (λe=>by have:=HG.o.1;omega))))).mono ?_;rintro e w5⟨n,rfl,c5,K,r6,ah,ag⟩;have C5:=O c5.aT;have bk:=O (Zt ah ag);clear c5 ah ag;go_wp2_with fail;refine⟨C5.o,?_⟩;apply YI 0;clear r6;exact WD bk
end
theorem Qcw{w}{g:Nat}{cs:Array Value}{t:TypeId}(h:Qh w g cs t):w.shape? g=some (t,cs.size):=by unfold Qh at h;unfold World.shape?;rw[h]
theorem Qsp(w):(sizeOf 3).run prog w=.ok 1 w:=by go_simp
theorem Gg:(prog.info? 3).map (·.size)=some 1:=by kernel_rfl
theorem Wd(b:Nat):∀(vs:List Value)(o:Nat)(w:World),(w.setCells b o vs).drew=w.drew.setCells b o vs
 |[],_,_=>rfl
 |v::vs,o,w=>by show((w.setCell ⟨b,o,none⟩ v).setCells b (o+1) vs).drew=_;rw[Wd b vs];rfl
theorem Qkn{w}{v:Value}{l:List Int}(hI:Q6 w v l)(hl:l.length<1099511627776)(i:Nat)(hi:i<=l.length)(x:Int){vb:Nat}(hV:Qh w vb #[ZI x] 3)(ac:∀k,v.ownBlock=some k->k≠vb):
    Cl 166 #[v,ZI i,.slice (some ⟨vb,0,none⟩) 1 1] w λe w'=>∃R,e=.returned R/\Q6 w' R (l.take i++x::l.drop i)/\Qc (λk=>v.ownBlock=some k) w w'/\(R.ownBlock=v.ownBlock\/∃k,R.ownBlock=some k/\w.heap.size<=k):=by
  have ak:Hi (Kb W7 1 w (some ⟨vb,0,none⟩) [x]):=O (λj c=>by
    obtain rfl:j=0:=by simpa using c
    refine⟨vb,0,rfl,λk u hu=>?_⟩
    cases k with
    | zero => obtain rfl := Zs hu; exact Jf hV
    | succ k => cases hu)
  by_cases ap:i=l.length
  · subst ap
    have HI:=O hI
    obtain⟨a,cap,rfl,d,h0,_⟩:=hI.row intT.hc
    obtain⟨n,hn⟩:=Zx (l.length)
    have HN:=O hn
    have HE:=O (show l.take l.length++x::l.drop l.length=l++[x] by rw[List.take_length,List.drop_length])
    rw[<-hn]at d hl
    rw[HE.o]
    have HL:=O hl
    rw[<-hn]at HI|-
    have af:Hi (∀R w',Q6 w' R (l++[x])->Qc (λk=>(Value.slice a n cap).ownBlock=some k) w w'->(R.ownBlock=(Value.slice a n cap).ownBlock\/R.ownBlock=some w.heap.size)->
        (∃ aj, Ending.returned R = .returned aj /\ Q6 w' aj (l ++ [x]) /\ Qc (λk => (Value.slice a n cap).ownBlock = some k) w w' /\ (aj.ownBlock = (Value.slice a n cap).ownBlock \/ ∃ k, aj.ownBlock = some k /\ w.heap.size <= k))) := O (λR w' h1 h2 h3 => ⟨R, rfl, h1, h2, h3.imp id λh => ⟨_, h, Zv _⟩⟩)
    cases a with
    | none =>
      obtain rfl:=h0 rfl
      have br:n=0:=by omega
      clear hI ac hn h0 hl hi
      subst br
      clear d
      apply WH func166
      go_wp2_with (at_builtin;refine Jj intT rfl (.tmp 23) (.tmp 24) rfl _ l rfl HI.o _ _ [x] rfl ?a2 ?a3 ?a4 ?a5 ?a6)
      case a2=>exact nofun
      case a3=>exact ak.o
      case a4=>have:=HL.o;have:=HN.o;simp only[maxLen,Zm,List.length_nil];omega
      case a5=>have:=HL.o;have:=HN.o;simp only[Zm,List.length_nil];omega
      case a6=>
        intro R w' h1 h2 h3
        have FF:=O (af.o R w' h1 h2 h3)
        clear h1 h2 h3
        go_wp2
        go_ret
        exact FF.o
    | some ad =>
      clear hI ac hn h0 hl hi
      have b2:n<=cap:=d
      apply WH func166
      go_wp2_with (at_builtin;refine Jj intT rfl (.tmp 23) (.tmp 24) rfl _ l rfl HI.o _ _ [x] rfl ?a2 ?a3 ?a4 ?a5 ?a6)
      all_goals first
        | exact ak.o
        | (have := HL.o; have := HN.o; simp only [maxLen, Zm, List.length_nil]; omega)
        | (intro R w' h1 h2 h3
           have FF:=O (af.o R w' h1 h2 h3)
           clear h1 h2 h3
           go_wp2
           go_ret
           exact FF.o)
        | (intro h; cases h)
  · have Xg : i < l.length := by omega
    have ae:l≠[]:=λe=>by rw[e]at Xg;simp at Xg
    obtain⟨g,cap,au,rfl,hB,ar,I,d,ab⟩:=hI.opn ae
    have ai:g≠vb:=ac g rfl
    obtain⟨n,hn⟩:=Zx (l.length)
    have HN:=O hn
    have al:=hB.lt
    have an:=hV.lt
    have aa:((l.drop i).map λy=>Value.int .i64 y).length=n-i:=by rw[List.length_map,List.length_drop,hn]
    have ag:∀u∈(l.drop i).map λy=>Value.int .i64 y,u.oneCell'=true:=λu hu=>by
      obtain⟨y,_,rfl⟩:=Z3.1 hu
      rfl
    have q:∀W:World,(∀k,W.cell? ⟨g,k,none⟩=w.cell? ⟨g,k,none⟩)->∀j u,((l.drop i).map λy=>Value.int .i64 y)[j]? =some u->W.cell? ⟨g,i+j,none⟩=some u:=λW hW j u c=>by
      rw[hW,hB.cell]
      rw[List.getElem?_map,List.getElem?_drop]at c
      cases hy:l[i+j]? with
      | none => rw [hy] at c; cases c
      | some y =>
        rw[hy]at c
        obtain rfl:=Zs c
        exact I _ _ hy
    by_cases bu:n+1<=cap
    ·
      have af:=O (show∀W,W=w.drew->_ from λW hW=>Qou (w:=W) x Xg (hW▸hB.drew) ar (by omega) ab I)
      have bt:∀lb cb,(callFunc 225 #[.slice (some ⟨vb,0,none⟩) 1 1,.slice (some ⟨g,i+1,none⟩) lb cb]).run prog w=.ok (.value (.bool false)) w:=λlb cb=>by
        rw[run_callFunc_extern func225 (by kernel_rfl) (by kernel_rfl) (by kernel_rfl) (e:=Extern.SlicesOverlaps.overlaps #[100,100] #[4]) (by kernel_rfl),
          Lib.run_overlaps_apart w 100 4 3 underlying100 1 Qsp ⟨vb,0,none⟩ ⟨g,i+1,none⟩ 1 1 lb cb (λe=>ai e.symm) 3 3 1 au.size (Qcw hV) (Qcw hB) (by omega) (hV.frozen 0) (hV.frozen 1)]
        rfl
      have E:∀ty K sc,(Builtin.copy_ #[100,100] ty #[.slice (some ⟨g,i+1,none⟩) (n-i) K,.slice (some ⟨g,i,none⟩) (n+1-i) sc]).run prog w.drew=.ok (ZI ((n-i:Nat):Int)) (w.drew.setCells g (i+1) ((l.drop i).map λy=>ZI y)):=λty K sc=>by
        have h:=run_copy_cells (P:=prog) w.drew 100 100 ty 3 g (i+1) (n-i) K ⟨g,i,none⟩ (n+1-i) sc ((l.drop i).map λy=>Value.int .i64 y) underlying100 Gg (by rw[aa];simp only[Nat.min_def];split<;>omega)
          (λj u c => by rw [Addr.add_lit]; exact q w.drew (λ_ => rfl) j u c) (λj c => by rw [hB.drew.cell, Array.getElem?_eq_getElem (by omega)]; rfl) (λj c => hB.drew.frozen _) ag
        rw[aa]at h
        exact h
      obtain⟨W1,B⟩:=Zx (w.drew.setCells g (i+1) ((l.drop i).map λy=>ZI y))
      obtain⟨c1,b1,s1,_,C1⟩:=Vc ((l.drop i).map λy=>Value.int .i64 y) (i+1) w.drew au hB.drew (by omega)
      rw[<-B]at b1 C1
      have a1:=C1.blk (hV.drew) (λe=>ai e.symm)
      have V:∀ty K,(Builtin.copy_ #[100,100] ty #[.slice (some ⟨g,i,none⟩) (n+1-i) K,.slice (some ⟨vb,0,none⟩) 1 1]).run prog W1=.ok (ZI 1) (W1.setCells g i [ZI x]):=λty K=>
        run_copy_cells (P:=prog) W1 100 100 ty 3 g i (n+1-i) K ⟨vb,0,none⟩ 1 1 [Value.int .i64 x] underlying100 Gg (by simp only[Nat.min_def,Zm,List.length_nil];split<;>omega)
          (λj u c => by
            cases j with
            | zero => obtain rfl := Zs c; exact Jf a1
            | succ j => cases c)
          (λj c => by
            have:j=0:=by simpa using c
            subst this
            rw[b1.cell,Array.getElem?_eq_getElem (by omega)];rfl) (λj c=>b1.frozen _) (λu hu=>by
            obtain rfl:u=_:=by simpa using hu
            rfl)
      obtain⟨W2,Z⟩:=Zx (W1.setCells g i [ZI x])
      have FF:=O (af.o w.drew rfl)
      rw[<-B,<-Z]at FF
      rw[<-B]at E
      rw[<-Z]at V
      have e1:(((i:Int)==(n:Int)))=false:=by
        have:(i:Int)≠(n:Int):=by omega
        simpa using this
      have bg:decide ((i:Int)=(n:Int))=false:=by
        have:(i:Int)≠(n:Int):=by omega
        simpa using this
      have bi:IntKind.i64.wrap ((n:Int)+1)=(n:Int)+1:=by rw[IntWalk.i64_in _ (by omega)]
      have bh:IntKind.i64.wrap ((i:Int)+1)=(i:Int)+1:=by rw[IntWalk.i64_in _ (by omega)]
      have bf:decide ((cap:Int)<(n:Int)+1)=false:=by simp;omega
      rw[<-hn]
      have a9:i<n:=by omega
      have bs:n<1099511627776:=by omega
      have bk:(0:Int)<=(i:Int)+1:=by omega
      have bl:¬(cap=i+1):=by omega
      have bm:(i:Int)<=(n:Int)+1:=by omega
      have bo:¬(cap=i):=by omega
      have bv:((i:Int)+1).toNat=i+1:=by omega
      have bb:((n:Int)+1).toNat=n+1:=by omega
      have bp:(i:Int)+1<=(n:Int)+1:=by omega
      have bq:(n:Int)+1<=(cap:Int):=by omega
      clear hI hB ar I d ab hV ac hl hi ap Xg ae al an aa ag q B Z b1 s1 C1 a1 hn ai
      apply WH func166
      go_wp2_with (simp only[bt])
      refine ZB [0,1,2,3,4,5,6,7,208] ?_
      simp only[Z8,Zf,Ze,Zd]
      apply YA 0
      go_wp2_with fail
      refine Jo ?_
      clear E
      go_wp2
      go_ret
      have F2:=FF.o
      rw[<-HN.o]at F2
      exact⟨_,rfl,F2.1,F2.2.aT.mono (λk e=>.inl (by rw[e];rfl)),.inl rfl⟩
    ·
      obtain⟨i0,z0,a8,bc,ba,ao,a7⟩:=intT.hi
      obtain⟨r,hr⟩:=Zx (w.heap.size)
      obtain⟨G,hG⟩:=Zx (grownCap w (n+1) cap 3)
      have bj:n+1<=G:=by rw[hG];exact grownCap_ge _ _ _ _
      have ax:G<=maxLen:=by rw[hG];exact grownCap_le_maxLen _ _ _ _ (by simp only[maxLen];omega)
      obtain⟨z,U⟩:∃z:Array Value,z=((l.take i).map λy=>Value.int .i64 y).toArray++Builtin.zeroCells z0.cells (n+1-i)++Builtin.zeroCells z0.cells (G-(n+1)):=⟨_,rfl⟩
      have bd:z0.cells.size=1:=by rw[a7];rfl
      have be:∀k,(Builtin.zeroCells z0.cells k).size=k:=λk=>by simp[Builtin.zeroCells,bd]
      have az:z.size=G:=by
        rw[U]
        simp only[Array.size_append,be,List.size_toArray,List.length_map,List.length_take]
        omega
      have am:(Builtin.firstCells i0.size i (.slice (some ⟨g,0,none⟩) i cap)).run prog w.drew=.ok ((l.take i).map λy=>Value.int .i64 y).toArray w.drew:=by
        rw[ba]
        refine run_firstCells_some w.drew 1 i ⟨g,0,none⟩ i cap ((l.take i).map λy=>Value.int .i64 y) (by rw[List.length_map,List.length_take];omega) (λj u c=>?_)
        rw[Addr.add_lit,Nat.zero_add]
        rw[List.getElem?_map,List.getElem?_take]at c
        split at c
        · cases hy : l[j]? with
          | none => rw [hy] at c; cases c
          | some y =>
            rw[hy]at c
            obtain rfl:=Zs c
            rw[hB.drew.cell]
            exact I _ _ hy
        · cases c
      have aq:∀ty,(Builtin.append_ #[100,3] ty #[.slice (some ⟨g,0,none⟩) i cap,ZI ((n:Int)+1-(i:Int))]).run prog w=.ok (.slice (some ⟨r,0,none⟩) (n+1) G) (w.drew.alloc (.cells z 3)):=λty=>by
        have h:=Lib.run_append_grow_zeros (P:=prog) w 100 3 ty 3 i0 z0 .i64 .i64 underlying100 underlying3 a8 bc (some ⟨g,0,none⟩) i cap _ am (n+1-i) (by omega) (by omega) (by omega) (by omega) (by rw[ao];omega) (by rw[ao,show i+(n+1-i)=n+1 by omega];exact growslice_fits (by omega) (by omega))
        rw[show i+(n+1-i)=n+1 by omega,show((n+1-i:Nat):Int)=(n:Int)+1-(i:Int) by omega,<-hG,<-U,<-hr]at h
        exact h
      have ay:∀(k:Nat)(y:Int),k<i->l[k]? =some y->z[k]? =some (ZI y):=λk y hk hy=>by
        have b3:((l.take i).map λy=>Value.int .i64 y).toArray.size=i:=by simp;omega
        rw[U,Array.append_assoc,Array.getElem?_append_left (by omega)]
        simp only[Zf,List.getElem?_map,List.getElem?_take,if_pos hk,hy]
        rfl
      obtain⟨W0,ah⟩:=Zx (w.drew.alloc (.cells z 3))
      have B0:Qh W0 r z 3:=by rw[ah];exact Qh.new' _ _ hr
      have C0:Qc Qb w W0:=by rw[ah];exact(Zg Qb w).drew.alloc _
      rw[<-ah]at aq
      have a0:=C0.blk hV (λh=>h)
      have av:=C0.blk hB (λh=>h)
      have E:∀ty K,(Builtin.copy_ #[100,100] ty #[.slice (some ⟨r,i,none⟩) (n+1-i) K,.slice (some ⟨vb,0,none⟩) 1 1]).run prog W0=.ok (ZI 1) (W0.setCells r i [ZI x]):=λty K=>
        run_copy_cells (P:=prog) W0 100 100 ty 3 r i (n+1-i) K ⟨vb,0,none⟩ 1 1 [Value.int .i64 x] underlying100 Gg (by simp only[Nat.min_def,Zm,List.length_nil];split<;>omega)
          (λj u c => by
            cases j with
            | zero => obtain rfl := Zs c; exact Jf a0
            | succ j => cases c)
          (λj c => by
            have:j=0:=by simpa using c
            subst this
            rw[B0.cell,Array.getElem?_eq_getElem (by omega)];rfl) (λj c=>B0.frozen _) (λu hu=>by
            obtain rfl:u=_:=by simpa using hu
            rfl)
      obtain⟨W1,B⟩:=Zx (W0.setCells r i [ZI x])
      obtain⟨c1,b1,s1,_,C1⟩:=Vc [Value.int .i64 x] i W0 z B0 (by simp only[Zm,List.length_nil];omega)
      rw[<-B]at b1 C1 E
      have aw:=C1.blk av (λe=>by omega)
      have V:∀ty K sc,(Builtin.copy_ #[100,100] ty #[.slice (some ⟨r,i+1,none⟩) (n-i) K,.slice (some ⟨g,i,none⟩) (n-i) sc]).run prog W1.drew=.ok (ZI ((n-i:Nat):Int)) (W1.drew.setCells r (i+1) ((l.drop i).map λy=>ZI y)):=λty K sc=>by
        have h:=run_copy_cells (P:=prog) W1.drew 100 100 ty 3 r (i+1) (n-i) K ⟨g,i,none⟩ (n-i) sc ((l.drop i).map λy=>Value.int .i64 y) underlying100 Gg (by rw[aa];simp only[Nat.min_def];split<;>omega)
          (λj u c => by rw [Addr.add_lit]; exact q W1.drew (λk => by rw [aw.drew.cell, hB.cell]) j u c) (λj c => by rw [b1.drew.cell, Array.getElem?_eq_getElem (by omega)]; rfl) (λj c => b1.drew.frozen _) ag
        rw[aa]at h
        exact h
      have J:=Qtr (w:=W0.drew) (i:=i) x Xg B0.drew az (by omega) ax (λk y hk hy=>ay k y hk hy)
      rw[<-Wd r [Value.int .i64 x] i W0,<-B]at J
      obtain⟨W2,Z⟩:=Zx (W1.drew.setCells r (i+1) ((l.drop i).map λy=>ZI y))
      rw[<-Z]at V J
      have FF:=O (Zt J.1 (C0.trans J.2.aT λk e=>.inr (by omega):Qc Qb w W2))
      have HR:=O hr
      have e1:(((i:Int)==(n:Int)))=false:=by
        have:(i:Int)≠(n:Int):=by omega
        simpa using this
      have bg:decide ((i:Int)=(n:Int))=false:=by
        have:(i:Int)≠(n:Int):=by omega
        simpa using this
      have bi:IntKind.i64.wrap ((n:Int)+1)=(n:Int)+1:=by rw[IntWalk.i64_in _ (by omega)]
      have bh:IntKind.i64.wrap ((i:Int)+1)=(i:Int)+1:=by rw[IntWalk.i64_in _ (by omega)]
      have bz:IntKind.i64.wrap ((n:Int)+1-(i:Int))=(n:Int)+1-(i:Int):=by rw[IntWalk.i64_in _ (by omega)]
      have bf:decide ((cap:Int)<(n:Int)+1)=true:=by simp;omega
      rw[<-hn]
      have a9:i<n:=by omega
      have bs:n<1099511627776:=by omega
      have bk:(0:Int)<=(i:Int)+1:=by omega
      have bl:¬(G=i+1):=by omega
      have bm:(i:Int)<=(n:Int)+1:=by omega
      have bo:¬(G=i):=by omega
      have bw:¬(cap=i):=by omega
      have bv:((i:Int)+1).toNat=i+1:=by omega
      have bb:((n:Int)+1).toNat=n+1:=by omega
      have bp:(i:Int)+1<=(n:Int)+1:=by omega
      have bq:(i:Int)<=(cap:Int):=by omega
      have b0:(i:Int)<=(n:Int):=by omega
      clear hI hB ar I d ab hV ac hl hi ap Xg ae al an aa ag q ah B Z b1 s1 C1 hn ai a8 bc ba ao a7 hr hG bj ax U bd be az am ay B0 C0 a0 av aw J
      apply WH func166
      go_wp2_with (at_builtin;refine Lib.wpList_append_run _ rfl (.tmp 34) (.tmp 39) 100 3 rfl _ _ rfl rfl _ _ (aq _) ?_)
      clear aq
      go_wp2_with fail
      clear E
      refine ZB [0,1,2,3,4,5,6,7,208] ?_
      simp only[Z8,Zf,Ze,Zd]
      iterate 5 (refine Jq (h:=?_))
      iterate 2 (refine Jq (h:=?_))
      refine Jq (by kernel_rfl) (by go_simp;try rfl) ?_
      apply YA 0
      go_wp2_with fail
      refine Jo ?_
      clear V
      go_wp2
      go_ret
      have F2:=FF.o
      rw[<-HN.o]at F2
      exact⟨_,rfl,F2.1,F2.2.none,.inr ⟨_,rfl,Nat.le_of_eq HR.o.symm⟩⟩
end Go.Proofs.YtigcnnkagkbflaaGreat
