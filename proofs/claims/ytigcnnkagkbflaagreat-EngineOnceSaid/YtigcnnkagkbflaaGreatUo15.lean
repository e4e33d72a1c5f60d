/- A part of the proof: no condition. -/
import Derived.Test.YtigcnnkagkbflaaGreatUo13
import Derived.Shelf.SlMaps.Clone
import Derived.Test.YtigcnnkagkbflaaGreatUo09
import Derived.Test.YtigcnnkagkbflaaGreatUo12
import Derived.Test.YtigcnnkagkbflaaGreatUo14
namespace Go.Proofs.YtigcnnkagkbflaaGreat
set_option linter.unusedVariables false
set_option maxRecDepth 100000
set_option maxHeartbeats 4000000
open Go.RowKit
open Go.Proofs.Tryz
attribute [local go_sem] Qp
def Tr.like:Tr->Tr->Prop
 | .nil,.nil=>True
 | .aD x c l r,.aD y d l' r'=>(y.n=x.n/\y.i=x.i/\y.v=x.v/\y.sv=x.sv/\y.si=x.si/\d=c)/\l.like l'/\r.like r'
 |_,_=>False
theorem Ck:∀{t k:Tr},t.like k->k.flat=t.flat
 | .nil,.nil,_=>rfl
 | .aD x c l r,.aD y d l' r',⟨⟨h1,h2,h3,_⟩,hl,hr⟩=>by rw[Jb,Jb,Ck hl,Ck hr,h1,h2,h3]
theorem Qah{t c:Tr}(h:t.like c):c.red=t.red:=by cases t<;>cases c<;>first|rfl|exact h.elim|exact h.1.2.2.2.2.2
theorem I9:∀{t k:Tr},t.like k->k.bh=t.bh
 | .nil,.nil,_=>rfl
 | .aD x c l r,.aD y d l' r',⟨⟨_,_,_,_,_,h6⟩,hl,hr⟩=>by simp only[Tr.bh,I9 hl,h6]
theorem Qe8:∀{t k:Tr},t.like k->t.ok->k.ok
 | .nil,.nil,_,_=>trivial
 | .aD x c l r,.aD y d l' r',⟨⟨_,_,_,_,_,h6⟩,hl,hr⟩,⟨o1,o2,o3,o4⟩=>⟨Qe8 hl o1,Qe8 hr o2,by rw[Qah hr];exact o3,λq=>by rw[Qah hl];exact o4 (h6▸q)⟩
theorem Qhq:∀{t k:Tr},t.like k->k.sum=t.sum
 | .nil,.nil,_=>rfl
 | .aD x c l r,.aD y d l' r',⟨⟨_,_,_,h4,h5,_⟩,hl,hr⟩=>by simp only[Tr.sum,h4,h5]
theorem Cj:∀{t k:Tr},t.like k->t.even->k.even
 | .nil,.nil,_,_=>trivial
 | .aD x c l r,.aD y d l' r',⟨⟨h1,h2,h3,h4,h5,h6⟩,hl,hr⟩,⟨o1,o2,o3,o4⟩=>by
  refine⟨Cj hl o1,Cj hr o2,by rw[I9 hl,I9 hr];exact o3,?_⟩;have e:some (Pr y l' r')=some (Pr x l r):=by rw[Qmo,Qmo,Qhq hl,Qhq hr,h2,h3]
  rw[h4,h5,o4];exact(Zs e).symm
theorem Qo3{t d:Tr}(h:t.like d){m:Nat}(c:Yp t m):Yp d m:=⟨Qe8 h c.1,Cj h c.2.1,by rw[I9 h];exact c.2.2⟩
theorem Qfe{w}{x:Nd}{c:Bool}{l r:Tr}(hA:Jw w (.aD x c l r))
  (il:∀w,Jw w l->Cl 232 #[l.aH] w λe w'=>∃q,e=.returned q.aH/\l.like q/\Jw w' q/\q.aC.Nodup/\(∀a∈q.aC,w.heap.size<=a/\a<w'.heap.size)/\Qc Qb w w')
  (ir:∀w,Jw w r->Cl 232 #[r.aH] w λe w'=>∃q,e=.returned q.aH/\r.like q/\Jw w' q/\q.aC.Nodup/\(∀a∈q.aC,w.heap.size<=a/\a<w'.heap.size)/\Qc Qb w w'):
  Cl 232 #[ptr x.a] w λe w'=>∃q,e=.returned q.aH/\(Tr.aD x c l r).like q/\Jw w' q/\q.aC.Nodup/\(∀a∈q.aC,w.heap.size<=a/\a<w'.heap.size)/\Qc Qb w w':=by
 obtain⟨k,hk⟩:=Zx (w.heap.size);obtain⟨W,hW⟩:=Zx (w.alloc (.cells (It x c l.aH r.aH) 267));have C0:Hi (Qc Qb w W):=O (by rw[hW];exact(Zg _ _).alloc _);have B0:Hi (Qh W k (It x c l.aH r.aH) 267):=O (by rw[hW,hk];exact Qh.new _ _ _);have HA:=O hA;have HK:=O hk;have IL:=O il;have IR:=O ir;obtain⟨pl,V⟩:=l.aS;obtain⟨pr,Z⟩:=r.aS;obtain⟨a0,a1,a2,a3,a4,a5,a6,a7⟩:=Ja hA.1;have af:=O V;have ag:=O Z;dsimp only[It]at*;rw[V]at a6 hW B0 IL;rw[Z]at a7 hW B0 IR;clear hA il ir V Z;apply WH func232;go_wp2_with fail;rw[<-hk,<-hW];clear hk hW a0 a1 a2 a3 a4 a5 a6 a7;have AW:=O (Jw.aB C0.o _ HA.o (λa _ h=>h));have E1:=λx=>Ja (Qk (S:=Qb) AW.o.1 (λh=>h) x);rw[af.o,ag.o]at E1;go_wp2_with fail;refine ZE [] [0,1,2,3,5,6,7,8] [4,9] [10,11,12,13] (Qb) W ?_;simp only[pick,Zf,Ze,Zd];refine Qg ?_;iterate 8 (refine Ql (λK hK=>?_);go_simp;refine hK _ ?_;clear hK K)
 refine Qg ?_;intro _ ah;obtain⟨xo,ac⟩:=ah;subst ac;simp only[Jd];have c1:=O (Qv Qb W xo);generalize Qz Qb W xo=w1 at c1|-;clear E1;go_wp2_with fail;refine(IL.o w1 (Jw.aB c1.o _ AW.o.2.1 (λa _ h=>h))).mono ?_;rintro e w2⟨tl,rfl,u,I,R,B,d2⟩;have c2:=O (c1.o.aA d2);have HL:=O (Zt u (Zt I (Zt R (Zt B c1.o.size))));clear u I R B d2;go_wp2;refine⟨Qd c2.o,?_⟩;go_wp2_with fail;refine(IR.o w2 (Jw.aB c2.o _ AW.o.2.2 (λa _ h=>h))).mono ?_;rintro e w3⟨tr,rfl,z,J,U,E,d3⟩;have c3:=O (c2.o.aA d3);have HR:=O (Zt z (Zt J (Zt U E)));have D3:=O d3;clear z J U E d3;go_wp2;refine⟨Qd c3.o,?_⟩;have B3:=O (c3.o.blk B0.o (λh=>h));have f3:=B3.o.frozen;obtain⟨ql,aa⟩:=tl.aS;obtain⟨qr,ab⟩:=tr.aS;have ae:Hi (∀w',w'=(w3.setCell ⟨k,6,none⟩ (.pointer ql)).setCell ⟨k,7,none⟩ (.pointer qr)->∃q:Tr,.returned (ZP k)=Ending.returned q.aH/\(Tr.aD x c l r).like q/\Jw w' q/\q.aC.Nodup/\(∀a∈q.aC,w.heap.size<=a/\a<w'.heap.size)/\Qc Qb w w'):=O (by
  rintro w' rfl;obtain⟨u,I,R,B,s1⟩:=HL.o;obtain⟨z,J,U,E⟩:=HR.o;have aj:=HK.o;have s0:=C0.o.size;have s2:=c2.o.size;have s3:=D3.o.size;have ai:=B0.o.lt;have hc:Qc (λj=>j=k) w3 ((w3.setCell ⟨k,6,none⟩ (.pointer ql)).setCell ⟨k,7,none⟩ (.pointer qr)):=((Zg (λj=>j=k) w3).setCell (a:=⟨k,6,none⟩) _ (.inl rfl)).setCell (a:=⟨k,7,none⟩) _ (.inl rfl);have n1:∀a∈tl.aC,¬a=k:=λa ha=>by have:=B a ha;omega
  have n2:∀a∈tr.aC,¬a=k:=λa ha=>by have:=E a ha;omega
  refine⟨.aD {x with a:=k} c tl tr,rfl,⟨⟨rfl,rfl,rfl,rfl,rfl,rfl⟩,u,z⟩,⟨?_,Jw.aB hc _ (Jw.aB D3.o _ I (λa _ h=>h)) n1,Jw.aB hc _ J n2⟩,?_,?_,?_⟩;·have:=(B3.o.set' 6 (.pointer ql) rfl).set' 7 (.pointer qr) rfl;rw[aa,ab];exact this
  .simp only[Tr.aC,List.nodup_append,List.nodup_cons,Zu];refine⟨R,⟨λh=>n2 _ h rfl,U⟩,λa ha d hd e=>?_⟩;subst e;rcases hd with rfl|hd;·exact n1 _ ha rfl
   .have q1:=B _ ha;have q2:=E _ hd;omega
  .intro a ha;have:=hc.size;simp only[Tr.aC,Zl,Zu]at ha;rcases ha with ha|rfl|ha;·have:=B _ ha;omega
   .omega
   .have:=E _ ha;omega
  .exact((C0.o.aA c3.o).setCell (a:=⟨k,6,none⟩) _ (.inr (by show w.heap.size<=k;omega))).setCell (a:=⟨k,7,none⟩) _ (.inr (by show w.heap.size<=k;omega)))
 rw[aa,ab];have a0:=Ja B3.o;clear aa ab D3;go_wp2;go_ret;exact ae.o _ rfl
theorem Rj:∀(t:Tr)(w),Jw w t->Cl 232 #[t.aH] w λe w'=>∃d,e=.returned d.aH/\t.like d/\Jw w' d/\d.aC.Nodup/\(∀a∈d.aC,w.heap.size<=a/\a<w'.heap.size)/\Qc Qb w w'
 | .nil,w,_=>by
  have h:ZW 232 #[.pointer none] w (.pointer none) λw'=>w=w':=by apply WH func232;exact WE
  apply Zz h;rintro w' rfl;exact⟨.nil,rfl,trivial,trivial,List.nodup_nil,nofun,Zg _ _⟩
 | .aD x c l r,w,h=>Qfe h (λw k=>Rj l w k) (λw q=>Rj r w q)
theorem Qlx{w}{F:Fp}{T:Nat}{l:List Xu}(h:Vz w F T l):
  Cl 185 #[ptr T] w λe w'=>∃b,e=.returned (ptr b)/\Vz w' (Qn Qb w w') b l/\Qc Qb w w':=by
 obtain⟨t,h⟩:=h;obtain⟨k,U⟩:=Zx (w.heap.size);obtain⟨pt,u⟩:=t.aS;obtain⟨W,B⟩:=Zx (w.alloc (.cells #[Dd,Vv,.pointer pt,ZI l.length] 269));have K:Hi (Qc Qb w W):=O (by rw[B];exact(Zg _ _).alloc _);have J:Hi (Qh W k #[Dd,Vv,.pointer pt,ZI l.length] 269):=O (by rw[B,U];exact Qh.new _ _ _);have H:=O h;have HK:=O U;have HC:=O (Rj t W (Jw.aB K.o _ h.sub.at' (λa _ h=>h)));rw[u]at HC;have R:=h.top;rw[u]at R;have HT:=O (K.o.blk R (λh=>h));have a0:=X9 R;unfold ptr Dd Vv at*;have e0:=X9 (show Qh (w.alloc (.cells #[.func (.func 180) #[] #[],.func (.func 181) #[] #[],.pointer pt,ZI l.length] 269)) T _ _ from B▸HT.o);clear h u R;apply WH func185;go_wp2_with fail;rw[<-U,<-B];clear U B a0;go_wp2_with fail;apply Zo HC;rintro e w2⟨V,rfl,c,E,I,d,z⟩;obtain⟨q,hq⟩:=V.aS;have Z:Hi (∀w',w'=w2.setCell ⟨k,2,none⟩ (.pointer q)->Vz w' (Qn Qb w w') k l/\Qc Qb w w'):=O (by
  rintro w' rfl;have hc:Qc (λj=>j=k) w2 (w2.setCell ⟨k,2,none⟩ (.pointer q)):=(Zg (λj=>j=k) w2).setCell (a:=⟨k,2,none⟩) _ (.inl rfl);have ac:=HK.o;have ab:=J.o.lt;have s2:=z.size;have s0:=K.o.size;have aa:Qc Qb w (w2.setCell ⟨k,2,none⟩ (.pointer q)):=(K.o.aA z).setCell (a:=⟨k,2,none⟩) _ (.inr (by show w.heap.size<=k;omega));have hB:=(z.blk J.o (λh=>h)).set' 2 (.pointer q) (cs':=#[Dd,Vv,V.aH,ZI l.length]) (by rw[hq];rfl);have n1:∀a∈V.aC,¬a=k:=λa ha=>by have:=d a ha;omega
  obtain⟨m,hm⟩:=H.o.fine;refine⟨⟨V,hB,⟨⟨_,_,hB⟩,List.nodup_cons.2 ⟨λh=>n1 _ h rfl,I⟩,Jw.aB hc _ E n1⟩,⟨m,Qo3 c hm⟩,(Qah c).trans H.o.blk,(Ck c).trans H.o.flat,H.o.ris,?_,λj hj=>hj.elim (λh=>h.elim) (λh=>h.2)⟩,aa⟩;intro a ha;have sz:=hc.size;rcases Zu.1 ha with rfl|ha;·exact .inr ⟨by omega,by omega⟩
  .have:=d a ha;exact .inr ⟨by omega,by omega⟩)
 have f2:∀j,w2.frozen? ⟨k,j,none⟩=false:=(z.blk J.o (λh=>h)).frozen;have d0:=X9 (z.blk J.o (λh=>h));rw[hq];clear hq E I d c z e0;go_wp2;go_ret;exact⟨_,rfl,Z.o _ rfl⟩
def Qet(b T m:Nat)(l:List Xu)(L:List (Int×Value)):List Ya:=
 [Tv b #[ptr T,.map (some m)] 208,λw G=>Vz w G T l,Qo8 m L]
theorem Yl(b T m:Nat)(l:List Xu)(L:List (Int×Value)):∀P∈Qet b T m l L,Uy P:=by
 intro P c;simp only[Qet,Zu,List.not_mem_nil,or_false]at c;rcases c with rfl|rfl|rfl;·exact Ks _ _ _
 .exact Vz.obj.good T l
 .exact Qhd _ _
def Jg(w:World)(F:Fp)(b:Nat)(l:List Xu):Prop:=Ol l/\∃T m L,L.Perm (atV l)/\Oh (Qet b T m l L) w F
theorem Jg.obj:Hf Jg where
 bd:=λ⟨_,T,m,L,_,h⟩=>(Je (Yl _ T m _ L)).bd h
 own:=λ⟨_,T,m,L,_,h⟩=>by obtain⟨G,k,q⟩:=J6 (Yl _ T m _ L) 0 rfl h;exact q _ k.2.1
 aB:=λ⟨c,T,m,L,d,h⟩z B=>⟨c,T,m,L,d,(Je (Yl _ T m _ L)).aB h z B⟩
 more:=λ⟨c,T,m,L,d,h⟩E u=>⟨c,T,m,L,d,(Je (Yl _ T m _ L)).more h E u⟩
theorem Jg.opn{w}{F:Fp}{b:Nat}{l:List Xu}(h:Jg w F b l):
  ∃T m L,L.Perm (atV l)/\Qh w b #[ptr T,.map (some m)] 208/\(∃G,Vz w G T l)/\Xq w m L:=by
 obtain⟨_,T,m,L,u,h⟩:=h;obtain⟨z,d,_⟩:=J6 (Yl _ T m _ L) 0 rfl h;obtain⟨c,k,_⟩:=J6 (Yl _ T m _ L) 1 rfl h;obtain⟨B,q,_⟩:=J6 (Yl _ T m _ L) 2 rfl h;exact⟨T,m,L,u,d.1,⟨c,k⟩,q.1⟩
theorem Dp{w}{b T:Nat}{v:Value}(h:Qh w b #[ptr T,v] 208):ZW 130 #[ptr b] w (ptr T) λw'=>w=w':=by have c:=Q4 h;clear h;apply WH func130;exact WE
theorem Qn1{w}{F:Fp}{b:Nat}{l:List Xu}(h:Jg w F b l):ZW 160 #[ptr b] w (ZI l.length) λw'=>w=w':=by obtain⟨T,m,L,z,c,⟨G,d⟩,u⟩:=h.opn;have q:=O (Dp c);have k:=O (Qp0 d);clear h z c d u;apply WH func160;go_wp2_with fail;apply Zy q;rintro w1 rfl;go_wp2_with fail;apply Zy k;rintro w1 rfl;exact WE
theorem My{w}{F:Fp}{b:Nat}{l:List Xu}(h:Jg w F b l):ZW 80 #[ptr b] w (.tuple #[ZU (((low l).getD (0,0)).1:Int),.bool (low l).isSome]) λw'=>Qc Qb w w':=by obtain⟨T,m,L,z,d,⟨G,k⟩,u⟩:=h.opn;have q:=O (Dp d);have c:=O (Qpy k);generalize low l=o at c|-;unfold ptr Ur at*;clear h z d k u;apply WH func80;go_wp2_with fail;apply Zy q;rintro w1 rfl;go_wp2_with fail;apply Zy c;intro w1 B;go_wp2;go_ret2;refine⟨rfl,?_⟩;(exact Z0)
theorem Qge{w}{F:Fp}{b:Nat}{l:List Xu}(h:Jg w F b l)(k:Nat):ZW 93 #[ptr b,ZU k] w (.tuple #[ZI ((Jt k l).getD (0,0)).2,.bool (Jt k l).isSome]) λw'=>Qc Qb w w':=by obtain⟨T,m,L,B,d,⟨G,q⟩,z⟩:=h.opn;have u:=O (Dp d);have c:=O (Ql0 q k);unfold Jt;generalize low (l.filter λe=>decide (e.1<=k))=o at c|-;unfold ptr Ur at*;clear h B d q z;apply WH func93;go_wp2_with fail;apply Zy u;rintro w1 rfl;go_wp2_with fail;apply Zy c;intro w1 E;go_wp2;go_ret2;refine⟨rfl,?_⟩;(exact Z0)
theorem Qen{w}{F:Fp}{b:Nat}{l:List Xu}(h:Jg w F b l)(v:Nat):ZW 94 #[ptr b,ZU v] w (.tuple #[ZI (((Xf v l).map (·.2.1)).getD 0),.bool (Xf v l).isSome]) λw'=>Qc Qb w w':=by
 obtain⟨T,m,L,K,u,⟨G,z⟩,J⟩:=h.opn;have q:=Zx (w.heap.size);have d:=O ((Zg Qb w).alloc (.cells #[ZU v] 22));have I:=O (Dp (d.o.blk u (λh=>h)));have c:=O (Qlz (Vz.obj.aB z d.o (Jl.none G)) v (Qh.new w #[ZU v] 22));have B:Qrc (Xf v l)=.agg #[ZU ((((Xf v l).map (·.1)).getD 0:Nat):Int),ZI (((Xf v l).map (·.2.1)).getD 0)]:=by cases Xf v l<;>rfl
 rw[B]at c;generalize((Xf v l).map (·.1)).getD 0=U at c;generalize((Xf v l).map (·.2.1)).getD 0=V at c|-;generalize(Xf v l).isSome=Z at c|-;clear h K u z J B;apply WH func94;go_wp2_with fail;apply Zy I;rintro w1 rfl;go_wp2_with fail;apply ZF c (λ_ k=>d.o.aA k);intro w1 E;go_wp2;go_ret2;refine⟨rfl,?_⟩;have:=E.o;(exact Z0)
section
attribute [local irreducible] Kl J9
theorem Qjr(w):(zeroValue 199).run prog w=.ok (.agg #[ZU 0,ZI 0]) w:=by go_simp
theorem Qre{F:Fp}{w w1 w2 w3 d:World}(q:w.heap.size<=w1.heap.size)(u:w1.heap.size<=w2.heap.size)(z:w2.heap.size<=w3.heap.size)(B:w3.heap.size<=d.heap.size):∀k,Qn (Qn F w1 w2) w3 d k->Qn F w d k:=by
 intro k c;rcases c with(c|c)|c;·exact .inl c
 .exact .inr ⟨by omega,by omega⟩
 .exact .inr ⟨by omega,by omega⟩
theorem Qux{F:Fp}{w w':World}(h:Bd F w)(d:w.heap.size<=w'.heap.size):Bd (Qn F w w') w':=λk c=>c.elim (λc=>Nat.lt_of_lt_of_le (h k c) d) (λc=>c.2)
theorem Qt4{l:List Xu}(h:Ol l){e f:Xu}(u:e∈l)(z:f∈l)(B:e.2.1=f.2.1):e=f:=by
 unfold Ol at h;induction l with
 |nil=>cases u
 |cons a l E=>
  simp only[List.map_cons,List.nodup_cons]at h;rcases Zu.1 u with q|d
  .rcases Zu.1 z with k|c;·rw[q,k]
   .exact absurd (Z3.2 ⟨f,c,by rw[<-B,q]⟩) h.1
  .rcases Zu.1 z with k|c;·exact absurd (Z3.2 ⟨e,d,by rw[B,k]⟩) h.1
   .exact E h.2 d c
theorem Qjx{l:List Xu}(h:Ol l){e:Xu}(c:e∈l):On e.2.1 l=some e:=by
 cases d:On e.2.1 l with
 |none=>exact absurd rfl (Pu d _ c)
 |some f=> obtain⟨k,q⟩:=Pv d;rw[Qt4 h k c q]
theorem Qn0{w}{F:Fp}{b:Nat}{l:List Xu}(h:Jg w F b l)(n:Nat)(id:Int)(v:Nat)(E:(n,id,v)∈l):
  ZW 78 #[ptr b,ZI id] w (.tuple #[ZU n,ZU v,.bool true]) λw'=>Qc Qb w w':=by
 obtain⟨T,m,L,Z,k,⟨G,R⟩,U⟩:=h.opn;have V:On id l=some (n,id,v):=Qjx h.1 E;have c:=Qht (id:=id) Z h.1;rw[V,Zn]at c;have B:=Dj (P:=prog) U underlying206 underlying3 (Qjr w) id;rw[c]at B;dsimp only[Option.getD_some,Option.isSome_some]at B;obtain⟨q,I⟩:=Zx (w.heap.size);obtain⟨W,u⟩:=Zx (w.alloc (.cells #[ZU n,ZI id] 199));have z:Hi (Qc Qb w W):=O (by rw[u];exact(Zg _ _).alloc _);have J:Hi (Qh W q #[ZU n,ZI id] 199):=O (by rw[u,I];exact Qh.new _ _ _);have B0:=O (z.o.blk k (λh=>h));have HO:=O (Dp k);have HG:=O (λw'(hc:Qc Qb w w')=>Qpz (Vz.obj.aB R hc (Jl.none G)) n id v E);have a0:=Q4 k;unfold ptr Yo at*;clear h Z k R U V c E;apply WH func78;go_wp2_with fail;apply Zy HO;rintro w1 rfl;go_wp2_with fail;rw[<-I,<-u];clear I u a0 B;have b0:=Q4 B0.o.drew;have k0:=Q4 J.o.drew;apply XC 32100200000 Qb W;apply YA 0;clear b0 k0;go_wp2_with fail;apply Zz (HG.o _ (z.o.aA (Zg Qb W).drew));intro w2 K;have d:Hi (Qc Qb W w2):=O ((Zg Qb W).drew.aA K);clear K;go_wp2_with fail;refine⟨d.o,?_⟩;apply YA 0;go_wp2_with fail;refine⟨d.o,?_⟩;apply YI 0;have k0:=Q4 (d.o.blk J.o (λh=>h));go_wp2;refine bodyPost_ret (v:=.tuple #[ZU n,ZU v,.bool true]) ?_ rfl ⟨rfl,?_⟩;·simp[*,results,Tryz.results78,go_sem]
 .exact z.o.aA d.o
end
theorem Qjw{l:List Xu}(h:Ol l){e:Xu}(c:e∈l):Xa e.2.1 l=del e.1 e.2.1 l:=Qgj h c rfl
theorem Jg.o{w W w2 w3}{F:Fp}{b:Nat}{l:List Xu}{e:Xu}(h:Jg w F b l)(he:e∈l){T m:Nat}{L:List (Int×Value)}(hp:L.Perm (atV l))(hs:Oh (Qet b T m l L) w F)(z:Qc Qb w W)
  (hM:Xq w2 m (Vu e.2.1 L)) (V:Qc (λj=>j=m) W w2) (B:Qc Qb w2 w3):
  Qh w3 b #[ptr T,.map (some m)] 208/\∃G,Vz w3 G T l/\∀w4,Qc G w3 w4->Vz w4 (Qn G w3 w4) T (del e.1 e.2.1 l)->Jg w4 (Qn F w w4) b (Xa e.2.1 l)/\Qc F w w4:=by
 have g:=Je (Yl b T m l L);have s1:=g.aB hs z (Jl.none F);obtain⟨G2,⟨m1,m2,m3⟩,u,ab,d⟩:=Xv 2 (Yl b T m l L) rfl s1;have I:Qc G2 W w2:=V.sub λk U=>U▸m2;have s2:Oh (Qet b T m l (Vu e.2.1 L)) w2 (Qn F W w2):=d w2 (Qo8 m (Vu e.2.1 L)) I ⟨hM,.inl m2,m3.ext I⟩;have J:=Yl b T m l (Vu e.2.1 L);have s3:=(Je J).aB s2 B (Jl.none _);obtain⟨B0,K,_⟩:=J6 J 0 rfl s3;obtain⟨G,hG,q,aa,c⟩:=Xv 1 J rfl s3;refine⟨K.1,G,hG,λw4 E hT=>?_⟩;have s4:Oh (Qet b T m (del e.1 e.2.1 l) (Vu e.2.1 L)) w4 (Qn (Qn F W w2) w3 w4):=c w4 (λw G=>Vz w G T (del e.1 e.2.1 l)) E hT;have R:=Jg.obj.bd h;have Z:Qc F w w4:=((z.none.aA (I.sub u)).aA B.none).trans E λk U=>(q k U).elim .inl (λh=>.inr (Zp z.size h.1));have s5:=(Je (Yl b T m _ _)).more s4 (Qre z.size V.size B.size E.size) (R.ext Z);refine⟨⟨h.1.drop,T,m,_,Qq1 hp,?_⟩,Z⟩;rw[Qjw h.1 he];exact s5
theorem Jg.same{w w'}{F:Fp}{b:Nat}{l:List Xu}{id:Int}(h:Jg w F b l)(q:On id l=none)(c:Qc Qb w w'):Jg w' (Qn F w w') b (Xa id l)/\Qc F w w':=by rw[M7 (Pu q)];exact⟨Jg.obj.more (Jg.obj.aB h c (Jl.none F)) (λk d=>.inl d) ((Jg.obj.bd h).ext (c.none (F:=F))),c.none⟩
theorem Tt{w}{F:Fp}{b:Nat}{l:List Xu}(h:Jg w F b l)(hl:l.length<4611686018427387904)(id:Int):
  ZW 210 #[ptr b,ZI id] w (.bool (On id l).isSome) λw'=>Jg w' (Qn F w w') b (Xa id l)/\Qc F w w':=by
 have hH:=h;obtain⟨ho,T,m,L,hp,V⟩:=h;obtain⟨G0,d,_⟩:=J6 (Yl _ T m _ L) 0 rfl V;obtain⟨G2,k,_⟩:=J6 (Yl _ T m _ L) 2 rfl V;have d:=d.1;have k:=k.1;have z:=Qht (id:=id) hp ho;have B:=Dj (P:=prog) k underlying206 underlying3 (Qjr w) id;rw[z]at B;have HO:=O (Dp d);obtain⟨a0,a1⟩:=Q4 d;obtain⟨q,hq⟩:=Zx (w.heap.size);cases E:On id l with
 |none=> rw[E]at B;dsimp only[Option.map_none,Option.getD_none,Option.isSome_none]at B|-;have c:=O (λw'(hc:Qc Qb w w')=>hH.same E hc);clear d k z hp V E hH hl;apply WH func210;go_wp2_with fail;apply Zy HO;rintro w1 rfl;go_wp2;go_ret;refine⟨rfl,c.o _ ?_⟩;(exact Z0)
 |some e0=>
  obtain⟨u,U⟩:=Pv E;obtain⟨n,i,v⟩:=e0;dsimp only at U;subst U;rw[E]at B;dsimp only[Zn,Option.getD_some,Option.isSome_some]at B|-;obtain⟨W,hW⟩:=Zx (w.alloc (.cells #[ZU n,ZI i] 199));have C0:Hi (Qc Qb w W):=O (by rw[hW];exact(Zg _ _).alloc _);have K0:Hi (Qh W q #[ZU n,ZI i] 199):=O (by rw[hW,hq];exact Qh.new _ _ _);have B0:=O (C0.o.blk d (λh=>h));obtain⟨w2,R,J,c2⟩:=Di (P:=prog) (k.aB C0.o (λh=>h)) underlying206 underlying3 3 0 i;have AO:=O (λw3 I=>Jg.o hH u hp V C0.o J c2 (w3:=w3) I);have K2:=O (c2.blk K0.o (λe=>by have:=k.lt;have:=hq;omega));have aa:=O (λw3 G(h:Vz w3 G T l)=>Qly h hl n i ⟨_,u,rfl,rfl⟩);unfold ptr Yo at*;clear d k z hp V E hH u J c2 hl;apply WH func210;go_wp2_with fail;apply Zy HO;rintro w1 rfl;go_upto_region 6 with fail;rw[<-hq,<-hW];clear hq hW a0 a1 B;obtain⟨a0,a1⟩:=Q4 B0.o;go_wp2_with fail;clear a0 a1 R;have E1:=λx=>Q4 (Qk (S:=Qb) ((AO.o w2 (Zg _ _)).1) (λh=>h) x);have E2:=λx=>Q4 (Qk (S:=Qb) K2.o (λh=>h) x);refine ZE [] [0,1,2,3,4] [] [5,6,7] (Qb) w2 ?_;simp only[pick,Zf,Ze,Zd];refine Qg ?_;iterate 5 (refine Ql (λK hK=>?_);go_simp;refine hK _ ?_;clear hK K)
  refine Qg ?_;intro _ ab;obtain⟨xo,Z⟩:=ab;subst Z;simp only[Jd];have I:=Qv Qb w2 xo;generalize Qz Qb w2 xo=w3 at I|-;obtain⟨_,G,hG,c⟩:=AO.o w3 I;have HF:=O c;have HD:=O (aa.o w3 G hG);clear E1 E2 c hG I;go_wp2_with fail;apply ZF HD (λw4 ⟨hT,c4⟩=>HF.o w4 c4 hT);intro w4 FF;exact WD FF
theorem Jg.putIn{w W}{F:Fp}{b:Nat}{l:List Xu}(ho:Ol l){n v:Nat}{i:Int}(hn:∀e∈l,e.2.1≠i){T m:Nat}{L:List (Int×Value)}(hp:L.Perm (atV l))(hs:Oh (Qet b T m l L) w F)(B:Qc Qb w W):
  Qh W b #[ptr T,.map (some m)] 208/\∃G,Vz W G T l/\(∀k,G k->F k)/\(∀w2 w3,Qc G W w2->Vz w2 (Qn G W w2) T (Un (n,i,v) l)->Qc Qb w2 w3->
   Qh w3 b #[ptr T,.map (some m)] 208/\Xq w3 m L/\(∀c,Qc (λj=>j=m) w3 c->Xq c m (Oi i (Yo n i) L)->Jg c (Qn F w c) b (Un (n,i,v) l)/\Qc F w c)):=by
 have E:=Yl b T m l L;have s1:=(Je E).aB hs B (Jl.none F);obtain⟨B0,U,_⟩:=J6 E 0 rfl s1;obtain⟨G,hG,d,aa,q⟩:=Xv 1 E rfl s1;refine⟨U.1,G,hG,d,λw2 w3 I hT J=>?_⟩;have s2:Oh (Qet b T m (Un (n,i,v) l) L) w2 (Qn F W w2):=q w2 (λw G=>Vz w G T (Un (n,i,v) l)) I hT;have R:=Yl b T m (Un (n,i,v) l) L;have s3:=(Je R).aB s2 J (Jl.none _);obtain⟨B1,V,_⟩:=J6 R 0 rfl s3;obtain⟨G2,⟨m1,m2,m3⟩,z,ab,u⟩:=Xv 2 R rfl s3;refine⟨V.1,m1,λc c4 hM=>?_⟩;have K:Qc G2 w3 c:=c4.sub λk hk=>hk▸m2;have s4:Oh (Qet b T m (Un (n,i,v) l) (Oi i (Yo n i) L)) c (Qn (Qn F W w2) w3 c):=u c (Qo8 m (Oi i (Yo n i) L)) K ⟨hM,.inl m2,m3.ext K⟩;have Z:=(Je E).bd hs;have cF:Qc F w c:=((B.none.aA (I.sub d)).aA J.none).trans K λk hk=>(z k hk).elim .inl (λh=>.inr (Zp B.size h.1));have s5:=(Je (Yl b T m _ _)).more s4 (Qre B.size I.size J.size c4.size) (Z.ext cF);refine⟨⟨?_,T,m,_,Qta hp hn,s5⟩,cF⟩;have:=Ol.put (id:=i) (key:=n) (value:=v) ho;unfold Vf at this;rwa[M7 hn]at this
theorem Qn.ext{F:Fp}{w w1 w2}{b:Nat}{l:List Xu}(h:Jg w2 (Qn (Qn F w w1) w1 w2) b l)(c:w.heap.size<=w1.heap.size)(d:w1.heap.size<=w2.heap.size)(k:Bd F w):Jg w2 (Qn F w w2) b l:=
 Jg.obj.more h (Qn.trans c d) (Qux k (Zp c d))
theorem Qct{w}{F:Fp}{b:Nat}{l:List Xu}(h:Jg w F b l)(hl:l.length<4611686018427387903)(id:Int)(n v:Nat):
  ZW 212 #[ptr b,ZI id,ZU n,ZU v] w (.tuple #[]) λw'=>Jg w' (Qn F w w') b (Vf id n v l)/\Qc F w w':=by
 have HD:=O (Tt h (by omega) id);obtain⟨T0,m0,L0,ah,U,_⟩:=h.opn;have HO:=O (Dp U);have ac:=O (Jg.obj.bd h);have ag:(Xa id l).length<=l.length:=List.length_filter_le _ _;have d:Hi (∀e∈Xa id l,e.2.1≠id):=O (λe he hi=>by have:=(List.mem_filter.1 he).2;simp at this;exact this hi);have u:Hi (Un (n,id,v) (Xa id l)=Vf id n v l):=O rfl;have J:Hi ((Xa id l).length<4611686018427387904):=O (by omega);generalize Vf id n v l=lp at u|-;generalize Xa id l=ld at HD d u J;clear h ah U ag hl;apply WH func212;go_wp2_with fail;apply Zy HO;rintro w1 rfl;go_wp2_with fail;apply Zy HD;rintro w1⟨⟨ho,T,m,L,hp,hs⟩,c1⟩;obtain⟨q,hq⟩:=Zx (w1.heap.size);obtain⟨W,hW⟩:=Zx (w1.alloc (.cells #[ZU n,ZI id] 199));have C0:Hi (Qc Qb w1 W):=O (by rw[hW];exact(Zg _ _).alloc _);have K0:Hi (Qh W q #[ZU n,ZI id] 199):=O (by rw[hW,hq];exact Qh.new _ _ _);have PU:=O (λW(c0:Qc Qb w1 W)=>Jg.putIn (n:=n) (v:=v) ho d.o hp hs c0);have C1:=O c1;have BB:=O ((PU.o W C0.o).1);have ab:=O ((Je (Yl _ T m _ L)).bd hs);have KQ:Hi (∀k,(Qn F w w1) k->k≠q):=O (λk hk e=>by have:=ab.o k hk;omega);clear ho hp hs c1;go_wp2_with fail;rw[<-hq,<-hW];clear hq hW;have E1:=λx=>Q4 (Qk (S:=Qb) BB.o (λh=>h) x);have E2:=λx=>Q4 (Qk (S:=Qb) K0.o (λh=>h) x);refine ZE [] [0,1,2,3,4,5] [] [6] (Qb) W ?_;simp only[pick,Zf,Ze,Zd];refine Qg ?_;iterate 6 (refine Ql (λK Z=>?_);go_simp;refine Z _ ?_;clear Z K)
 refine Qg ?_;intro _ z;obtain⟨xo,c⟩:=z;subst c;simp only[Jd];have c3:=O (Qv Qb W xo);generalize Qz Qb W xo=w3 at c3|-;clear E1 E2;obtain⟨_,G,hG,V,NX⟩:=PU.o w3 (C0.o.aA c3.o);have HG:=O hG;have ae:=O V;have af:=O NX;have R:=O (Qp2 HG.o J.o n id v (λe he h=>d.o e he h.2));have K3:=O (c3.o.blk K0.o (λh=>h));unfold Yo ptr at R;clear hG V NX;go_wp2_with fail;apply Zy R;rintro E⟨hT,c5⟩;have N5:=O (λw6(B:Qc Qb E w6)=>af.o E w6 c5 hT B);have K5:=O (c5.blk K3.o (λh=>KQ.o _ (ae.o _ h) rfl));have S5:=O (Zp C0.o.size (Zp c3.o.size c5.size));have E1:=λx=>Q4 (Qk (S:=Qb) ((N5.o E (Zg _ _)).1) (λh=>h) x);have E2:=λx=>Q4 (Qk (S:=Qb) K5.o (λh=>h) x);clear hT c5;unfold ptr at E1;go_wp2_with fail;refine ZE [] [0,1,2,3,4,5] [] [6] (Qb) E ?_;simp only[pick,Zf,Ze,Zd];refine Qg ?_;iterate 6 (refine Ql (λK Z=>?_);go_simp;refine Z _ ?_;clear Z K)
 refine Qg ?_;intro _ z;obtain⟨xo,c⟩:=z;subst c;simp only[Jd];have B:=Qv Qb E xo;generalize Qz Qb E xo=w6 at B|-;clear E1 E2;obtain⟨_,hM,I⟩:=N5.o w6 B;obtain⟨w7,ai,aa,c7⟩:=X6 (P:=prog) hM underlying206 underlying3 id (Yo n id);have FF:=O (I w7 c7 aa);have SS:=O (Zp S5.o (Zp B.size c7.size));unfold Yo at ai;clear I aa c7 hM B;go_wp2;refine WB rfl rfl ⟨rfl,?_⟩;rw[<-u.o];exact⟨Qn.ext FF.o.1 C1.o.size SS.o ac.o,C1.o.ext FF.o.2⟩
theorem Qo9{w}{b:Nat}{L:List (Int×Value)}(h:Xq w b L):ZW 186 #[.map (some b)] w (.map (some w.heap.size)) λw'=>Xq w' w.heap.size L/\Qc Qb w w':=by obtain⟨q,d,u,c⟩:=h;have k:=O c;have z:=λw=>run_eql_map_nil_sl (P:=prog) w 206 _ _ (some b) underlying206;clear c;apply WH func186;go_wp2;rw[run_callFunc_extern func144 (by kernel_rfl) (by kernel_rfl) (by kernel_rfl) (e:=Extern.MapsClone.clone) (by kernel_rfl),run_maps_clone_sl w 206 u];simp only[Result.andThen];rw[Oper.upon_value];go_wp2;rw[run_typeAssert_map_sl _ 206 _ _ _ _ underlying206];simp only[Result.andThen];rw[Oper.upon_value];go_wp2;go_ret;exact⟨rfl,⟨q,d,(MapKept.heap_alloc w _).1,k.o⟩,(Zg _ _).alloc _⟩
theorem Jg.made{w w':World}{b T m:Nat}{G:Fp}{l:List Xu}{L:List (Int×Value)}(V:Ol l)(Z:L.Perm (atV l))(q:Qh w' b #[ptr T,.map (some m)] 208)(z:Vz w' G T l)(d:Xq w' m L)
  (E:w.heap.size<=b) (I:w.heap.size<=m) (J:∀k,G k->w.heap.size<=k) (K:b≠m) (R:¬G b) (U:¬G m):Jg w' (Qn Qb w w') b l:=by
 have B:Bd (Qn Qb w w') w':=λk c=>c.elim (λh=>h.elim) (λh=>h.2);have u:=Vz.obj.bd z;refine⟨V,T,m,L,Z,?_⟩;refine Q7 (G:=λk=>k=b) (H:=λk=>G k\/k=m) ⟨q,rfl,λk e=>e▸q.lt⟩ (Q7 (G:=G) (H:=λk=>k=m) z (Y6 ⟨d,rfl,λk e=>e▸d.lt⟩ (λk e=>e▸d.lt)) ?_ (λk h=>.inl h) (λk h=>.inr h) ?_) ?_ ?_ ?_ B;·rintro k c rfl;exact U c
 .intro k c;rcases c with c|rfl;·exact u k c
  .exact d.lt
 .rintro k rfl c;rcases c with c|c;·exact R c
  .exact K c
 .rintro k rfl;exact .inr ⟨E,q.lt⟩
 .intro k c;rcases c with c|rfl;·exact .inr ⟨J k c,u k c⟩
  .exact .inr ⟨I,d.lt⟩
theorem Bw(w):Cl 116 #[] w λe w'=>∃b,e=.returned (ptr b)/\Jg w' (Qn Qb w w') b []/\Qc Qb w w':=by
 have z:=O (Qp1 w);unfold ptr Dd Vv at*;apply WH func116;go_wp2_with fail;apply Zy z;rintro w1⟨u,d⟩;have c:Hi (∀w',w'=(w1.alloc (.map #[] 0)).alloc (.cells #[ZP w.heap.size,.map (some w1.heap.size)] 208)->Jg w' (Qn Qb w w') (w1.heap.size+1) []/\Qc Qb w w'):=O (by
  rintro w' rfl;have q:Qc Qb w1 ((w1.alloc (.map #[] 0)).alloc (.cells #[ZP w.heap.size,.map (some w1.heap.size)] 208)):=((Zg _ _).alloc _).alloc _;have s1:=d.size;refine⟨Jg.made (T:=w.heap.size) (m:=w1.heap.size) (G:=Qn Qb w w1) (L:=[]) List.nodup_nil (List.Perm.refl _) (Qh.new' _ _ (by simp)) (Vz.obj.aB u q (Jl.none _)) ((Xq.new w1).aB ((Zg Qb _).alloc _) (λh=>h)) (by omega) (by omega) (λk B=>B.elim (λh=>h.elim) (λh=>h.1)) (by omega) ?_ ?_,d.aA q⟩
  .rintro(h|h);·exact h
   .omega
  .rintro(h|h);·exact h
   .omega)
 have E:=@run_makeMap prog;clear u d;go_wp2;go_ret;exact⟨_,rfl,c.o _ rfl⟩
theorem Ao{w}{F:Fp}{b:Nat}{l:List Xu}(h:Jg w F b l):Cl 125 #[ptr b] w λe w'=>∃b',e=.returned (ptr b')/\Jg w' (Qn Qb w w') b' l/\Qc Qb w w':=by
 have ho:=h.1;obtain⟨T,m,L,hp,Z,⟨G,h1⟩,h2⟩:=h.opn;have HC:=O (λw'(c:Qc Qb w w')=>Qlx (Vz.obj.aB h1 c (Jl.none G)));have HM:=O (λw'(c:Qc Qb w w')=>Qo9 (h2.aB c (λh=>h)));have HP:=O (Zt ho hp);have H0:=O Z;have a0:=Q4 Z;have E1:=λx=>Q4 (Qk (S:=Qb) H0.o (λh=>h) x);clear h ho hp Z h1 h2;apply WH func125;go_wp2_with fail;clear a0;refine ZE [] [0,1,2,3,5,6,7,8] [4,9,10,11,12] [] (Qb) w ?_;simp only[pick,Zf,Ze,Zd];refine Qg ?_;iterate 8 (refine Ql (λK hK=>?_);go_simp;refine hK _ ?_;clear hK K)
 refine Qg ?_;intro _ aa;obtain⟨xo,z⟩:=aa;subst z;simp only[Jd];have E:=O (Qv Qb w xo);generalize Qz Qb w xo=w1 at E|-;clear E1;go_wp2_with fail;refine(HC.o w1 E.o).mono ?_;rintro e w2⟨B,rfl,hT,U⟩;have R:=O (E.o.aA U);have HT:=O hT;have D2:=O U;clear hT U;go_wp2;refine⟨Qd R.o,?_⟩;go_wp2_with fail;apply Zz (HM.o w2 R.o);rintro w3⟨hM,V⟩;have I:=O (R.o.aA V);have u:=O hM;have D3:=O V;clear hM V;go_wp2;refine⟨Qd I.o,?_⟩;go_wp2;refine⟨Qd I.o,?_⟩;have J:Hi (∀w',w'=w3.alloc (.cells #[ZP B,.map (some w2.heap.size)] 208)->Jg w' (Qn Qb w w') w3.heap.size l/\Qc Qb w w'):=O (by
  rintro w' rfl;have q:Qc Qb w3 (w3.alloc (.cells #[ZP B,.map (some w2.heap.size)] 208)):=(Zg _ _).alloc _;have s1:=E.o.size;have s2:=D2.o.size;have s3:=D3.o.size;have s4:=u.o.lt;refine⟨Jg.made (T:=B) (m:=w2.heap.size) (G:=Qn Qb w1 w2) (L:=L) HP.o.1 HP.o.2 (Qh.new _ _ _) (Vz.obj.aB (Vz.obj.aB HT.o D3.o (Jl.none _)) q (Jl.none _)) (u.o.aB q (λh=>h)) (by omega) (by omega) (λk hk=>hk.elim (λh=>h.elim) (λh=>by omega)) (by omega) ?_ ?_,I.o.aA q⟩
  .rintro(h|h);·exact h
   .omega
  .rintro(h|h);·exact h
   .omega)
 obtain⟨w4,d⟩:=Zx (w3.alloc (.cells #[ZP B,.map (some w2.heap.size)] 208));have q:Hi (Qc Qb w w4):=O (d▸I.o.alloc _);obtain⟨f1,f2⟩:=J.o w4 d;have FF:=O (Zt f1 f2);clear f1 f2;go_wp2;rw[<-d];refine⟨Qd q.o,?_⟩;clear d;go_wp2;refine⟨Qd q.o,?_⟩;exact WG FF
abbrev Yq:World->Fp->Nat->List Xu->Prop:=O1 185 (λ_ p=>#[ptr p]) (λl=>l) Jg
theorem Yq.obj:Hf Yq:=O1.obj Jg.obj
theorem Qod(w):Cl 64 #[] w λe w'=>∃b,e=.returned (ptr b)/\Yq w' (Qn Qb w w') b []/\Qc Qb w w':=by
 have z:=O (Bw w);apply WH func64;go_wp2_with fail;apply Zo z;rintro e w1⟨p,rfl,u,d⟩;have c:Hi (∀w',w'=w1.alloc (.cells #[ZP p] 185)->Yq w' (Qn Qb w w') w1.heap.size []/\Qc Qb w w'):=O (by
  rintro w' rfl;have q:Qc Qb w1 (w1.alloc (.cells #[ZP p] 185)):=(Zg _ _).alloc _;have s1:=d.size;exact⟨O1.new (p:=p) (Jg.obj.aB u q (Jl.none _)) (λk B=>B.elim (λh=>h.elim) (λh=>h.1)) Jg.obj (Qh.new _ _ _) (by omega) (λh=>h.elim (λh=>h.elim) (λh=>by omega)),d.aA q⟩)
 clear u d;go_wp2;go_ret;exact⟨_,rfl,c.o _ rfl⟩
theorem Qj8{w}{F:Fp}{b:Nat}{l:List Xu}(h:Yq w F b l):Cl 71 #[ptr b] w λe w'=>∃b',e=.returned (ptr b')/\Yq w' (Qn Qb w w') b' l/\Qc Qb w w':=by
 obtain⟨p,G,z,d,V⟩:=h.ex;have J:=O (Ao d);have R:=Jf z;have K:Hi (Cl 124 #[ptr b,.func (.func 125) #[] #[],.pointer none] w λe w'=>∃b',e=.returned (ptr b')/\Jg w' (Qn Qb w w') b' l/\Qc Qb w w'):=O (by
  clear h z d;apply WH func124;go_wp2_with fail;apply Zo J;rintro e w1⟨q,rfl,E,c⟩;have I:=O (Zt E c);clear E c;exact WG I)
 clear h z d R;apply WH func71;go_wp2_with fail;apply Zo K;rintro e w1⟨q,rfl,d,c⟩;have u:Hi (∀w',w'=w1.alloc (.cells #[ZP q] 185)->Yq w' (Qn Qb w w') w1.heap.size l/\Qc Qb w w'):=O (by
  rintro w' rfl;have B:Qc Qb w1 (w1.alloc (.cells #[ZP q] 185)):=(Zg _ _).alloc _;have s1:=c.size;exact⟨O1.new (p:=q) (Jg.obj.aB d B (Jl.none _)) (λk U=>U.elim (λh=>h.elim) (λh=>h.1)) Jg.obj (Qh.new _ _ _) (by omega) (λh=>h.elim (λh=>h.elim) (λh=>by omega)),c.aA B⟩)
 clear d c;go_wp2;go_ret;exact⟨_,rfl,u.o _ rfl⟩
theorem Qj9{w}{F:Fp}{b:Nat}{l:List Xu}(h:Yq w F b l)(hl:l.length<4611686018427387904)(id:Int):
  ZW 152 #[ptr b,ZI id] w (.bool (On id l).isSome) λw'=>Yq w' (Qn F w w') b (Xa id l)/\Qc F w w':=by
 obtain⟨q,I⟩:=Zx (w.heap.size);obtain⟨W,u⟩:=Zx (w.alloc (.cells #[ZI id] 3));have K:Hi (Qc Qb w W):=O (by rw[u];exact(Zg _ _).alloc _);have K0:Hi (Qh W q #[ZI id] 3):=O (by rw[u,I];exact Qh.new _ _ _);have Z:=O h.bd;have h:=Yq.obj.aB h K.o (Jl.none F);have H:=O h;obtain⟨p,G,E,R,hG⟩:=h.ex;have HA:=O (Tt R hl id);have B:=O hG;have a0:=Jf E;have HB:=O E;have k0:=Jf K0.o;generalize Xa id l=J at HA|-;have HC:Hi (ZW 209 #[ptr p,ptr q] W (.bool (On id l).isSome) λw'=>Jg w' (Qn G W w') p J/\Qc G W w'):=O (by
  clear h E R a0 u I;apply WH func209;go_wp2_with fail;apply ZQ HA;intro w1 z;exact WD z)
 have HK:Hi (ZW 208 #[ptr b,.func (.func 209) #[] #[ptr q],.bool false] W (.bool (On id l).isSome) λw'=>Jg w' (Qn G W w') p J/\Qc G W w'):=O (by
  clear h E R u I;apply WH func208;go_wp2_with fail;apply ZQ HC;intro w1 z;exact WD z)
 have V:Hi (∀w',Jg w' (Qn G W w') p J->Qc G W w'->Yq w' (Qn F w w') b J/\Qc F w w'):=O (by
  intro w' d c;have hp:=H.o.made (x':=J) B.o Jg.obj c d (Zg _ _) (c.blk HB.o (λh=>(B.o _ h).2 rfl));exact⟨Yq.obj.more hp.1 (λk U=>U.elim .inl (λU=>.inr ⟨Zp K.o.size U.1,U.2⟩)) (Z.o.ext (K.o.none.aA hp.2)),K.o.none.aA hp.2⟩)
 clear h E R a0 k0;apply WH func152;go_wp2_with fail;rw[<-I,<-u];apply ZF HK (λ_ ⟨d,c⟩=>V.o _ d c);intro w1 z;clear u I;exact WD z
theorem Qoe{w}{F:Fp}{b:Nat}{l:List Xu}(h:Yq w F b l)(hl:l.length<4611686018427387903)(id:Int)(n v:Nat):
  ZW 153 #[ptr b,ZI id,ZU n,ZU v] w (.tuple #[]) λw'=>Yq w' (Qn F w w') b (Vf id n v l)/\Qc F w w':=by
 obtain⟨q,z⟩:=Zx (w.heap.size);obtain⟨W,u⟩:=Zx (((w.alloc (.cells #[ZI id] 3)).alloc (.cells #[ZU n] 22)).alloc (.cells #[ZU v] 22));have K:Hi (Qc Qb w W):=O (by rw[u];exact(((Zg _ _).alloc _).alloc _).alloc _);have K0:Hi (Qh W q #[ZI id] 3):=O (by rw[u,z];exact((Qh.new _ _ _).alloc _).alloc _);have K1:Hi (Qh W (q+1) #[ZU n] 22):=O (by rw[u,z];exact(Qh.new' _ _ (by simp)).alloc _);have K2:Hi (Qh W (q+1+1) #[ZU v] 22):=O (by rw[u,z];exact Qh.new' _ _ (by simp));have Z:=O h.bd;have h:=Yq.obj.aB h K.o (Jl.none F);have H:=O h;obtain⟨p,G,I,R,hG⟩:=h.ex;have HA:=O (Qct R hl id n v);have E:=O hG;have a0:=Jf I;have HB:=O I;have k0:=Jf K0.o;have k1:=Jf K1.o;have k2:=Jf K2.o;generalize Vf id n v l=J at HA|-;have HC:Hi (ZW 211 #[ptr p,ptr q,ptr (q+1),ptr (q+1+1)] W (.bool true) λw'=>Jg w' (Qn G W w') p J/\Qc G W w'):=O (by
  clear h I R a0 u z;apply WH func211;go_wp2_with fail;apply ZQ HA;intro w1 B;exact WD B)
 have HK:Hi (ZW 208 #[ptr b,.func (.func 211) #[] #[ptr q,ptr (q+1),ptr (q+1+1)],.bool false] W (.bool true) λw'=>Jg w' (Qn G W w') p J/\Qc G W w'):=O (by
  clear h I R u z;apply WH func208;go_wp2_with fail;apply ZQ HC;intro w1 B;exact WD B)
 have V:Hi (∀w',Jg w' (Qn G W w') p J->Qc G W w'->Yq w' (Qn F w w') b J/\Qc F w w'):=O (by
  intro w' d c;have hp:=H.o.made (x':=J) E.o Jg.obj c d (Zg _ _) (c.blk HB.o (λh=>(E.o _ h).2 rfl));exact⟨Yq.obj.more hp.1 (λk U=>U.elim .inl (λU=>.inr ⟨Zp K.o.size U.1,U.2⟩)) (Z.o.ext (K.o.none.aA hp.2)),K.o.none.aA hp.2⟩)
 clear h I R a0 k0 k1 k2;apply WH func153;go_wp2_with fail;rw[<-z,<-u];apply ZF HK (λ_ ⟨d,c⟩=>V.o _ d c);intro w1 B;clear u z;exact WD B
theorem Qka{w}{F:Fp}{b:Nat}{l:List Xu}(h:Yq w F b l)(k:Nat):
  ZW 53 #[ptr b,ZU k] w (.tuple #[ZI ((Jt k l).getD (0,0)).2,.bool (Jt k l).isSome]) λw'=>Qc Qb w w':=by
 obtain⟨p,G,hB,hA,hG⟩:=h.ex;have HA:=O (λw'(U:Qc Qb w w')=>Qge (Jg.obj.aB hA U (Jl.none G)) k);obtain⟨d,aa⟩:=Zx (((Jt k l).getD (0,0)).2);obtain⟨u,ab⟩:=Zx ((Jt k l).isSome);rw[<-aa,<-ab]at HA|-;have HB:=O hB;clear aa ab h hB hA;have HC:Hi (∀W q,Qc Qb w W->Qh W q #[ZU k] 22->ZW 92 #[ptr p,ptr q] W (.agg #[ZI d,.bool u]) λw'=>Qc Qb W w'):=O (by
  intro W q U R;obtain⟨s,B⟩:=Zx (W.heap.size);obtain⟨z,c⟩:=Zx (W.alloc (.cells #[ZI 0,.bool false] 160));have I:Hi (Qc Qb W z):=O (by rw[c];exact(Zg _ _).alloc _);have Z:Hi (Qh z s #[ZI 0,.bool false] 160):=O (by rw[c,B];exact Qh.new _ _ _);have HL:=O (HA.o z (U.aA I.o));have HS:=O B;have q0:=Jf (show Qh (W.alloc (.cells #[ZI 0,.bool false] 160)) q _ _ from c▸I.o.blk R (λh=>h));clear U R;apply WH func92;go_wp2_with fail;rw[<-c,<-B];apply Zy HL;intro w1 J;have V:=O (J.blk Z.o (λh=>h));have s0:=Q4 V.o;have f1:=V.o.frozen;have E:Hi (Qc Qb W ((((w1.setCell ⟨s,0,none⟩ (ZI d)).setCell ⟨s,1,none⟩ (.bool u)).setCell ⟨s,0,none⟩ (ZI d)).setCell ⟨s,1,none⟩ (.bool u))):=O (by
   have c2:=I.o.aA J;have af:=HS.o;exact(((c2.setCell (a:=⟨s,0,none⟩) _ (.inr (by show W.heap.size<=s;omega))).setCell (a:=⟨s,1,none⟩) _ (.inr (by show W.heap.size<=s;omega))).setCell (a:=⟨s,0,none⟩) _ (.inr (by show W.heap.size<=s;omega))).setCell (a:=⟨s,1,none⟩) _ (.inr (by show W.heap.size<=s;omega)))
  have S9:Hi (Qh ((((w1.setCell ⟨s,0,none⟩ (ZI d)).setCell ⟨s,1,none⟩ (.bool u)).setCell ⟨s,0,none⟩ (ZI d)).setCell ⟨s,1,none⟩ (.bool u)) s #[ZI d,.bool u] 160):=O ((((V.o.set' 0 _ rfl).set' 1 _ rfl).set' 0 _ rfl).set' 1 _ rfl);clear c B q0 J;go_wp2;generalize((((w1.setCell ⟨s,0,none⟩ (ZI d)).setCell ⟨s,1,none⟩ (.bool u)).setCell ⟨s,0,none⟩ (ZI d)).setCell ⟨s,1,none⟩ (.bool u))=w9 at S9 E|-;have e0:=Q4 S9.o;refine bodyPost_ret (v:=.agg #[ZI d,.bool u]) ?_ rfl ⟨rfl,?_⟩;·simp[*,results,Tryz.results92,go_sem]
  .exact E.o)
 have HK:Hi (∀W q,Qc Qb w W->Qh W q #[ZU k] 22->ZW 91 #[ptr b,.func (.func 92) #[] #[ptr q],.agg #[ZI 0,.bool false]] W (.agg #[ZI d,.bool u]) λw'=>Qc Qb W w'):=O (by
  intro W q U R;obtain⟨s,B⟩:=Zx (W.heap.size);obtain⟨z,c⟩:=Zx ((W.alloc (.cells #[ZI 0,.bool false] 160)).alloc (.cells #[ZI 0,.bool false] 160));have I:Hi (Qc Qb W z):=O (by rw[c];exact((Zg _ _).alloc _).alloc _);have Z:Hi (Qh z (s+1) #[ZI 0,.bool false] 160):=O (by rw[c,B];exact Qh.new' _ _ (by simp));have HL:=O (HC.o z q (U.aA I.o) (I.o.blk R (λh=>h)));have HS:=O B;have b0:=Jf (show Qh ((W.alloc (.cells #[ZI 0,.bool false] 160)).alloc (.cells #[ZI 0,.bool false] 160)) b _ _ from c▸(U.aA I.o).blk HB.o (λh=>h));clear U R;apply WH func91;go_wp2_with fail;rw[<-c,<-B];apply Zy HL;intro w1 J;have V:=O (J.blk Z.o (λh=>h));have s0:=Q4 V.o;have f1:=V.o.frozen;have E:Hi (Qc Qb W ((w1.setCell ⟨s+1,0,none⟩ (ZI d)).setCell ⟨s+1,1,none⟩ (.bool u))):=O (by
   have c2:=I.o.aA J;have af:=HS.o;exact(c2.setCell (a:=⟨s+1,0,none⟩) _ (.inr (by show W.heap.size<=s+1;omega))).setCell (a:=⟨s+1,1,none⟩) _ (.inr (by show W.heap.size<=s+1;omega)))
  have S9:Hi (Qh ((w1.setCell ⟨s+1,0,none⟩ (ZI d)).setCell ⟨s+1,1,none⟩ (.bool u)) (s+1) #[ZI d,.bool u] 160):=O ((V.o.set' 0 _ rfl).set' 1 _ rfl);clear c B b0 J;go_wp2;generalize((w1.setCell ⟨s+1,0,none⟩ (ZI d)).setCell ⟨s+1,1,none⟩ (.bool u))=w9 at S9 E|-;have e0:=Q4 S9.o;refine bodyPost_ret (v:=.agg #[ZI d,.bool u]) ?_ rfl ⟨rfl,?_⟩;·simp[*,results,Tryz.results91,go_sem]
  .exact E.o)
 obtain⟨q,R⟩:=Zx (w.heap.size);obtain⟨W,hW⟩:=Zx (w.alloc (.cells #[ZU k] 22));have C0:Hi (Qc Qb w W):=O (by rw[hW];exact(Zg _ _).alloc _);have K0:Hi (Qh W q #[ZU k] 22):=O (by rw[hW,R];exact Qh.new _ _ _);have ae:=O (HK.o W q C0.o K0.o);apply WH func53;go_wp2_with fail;rw[<-R,<-hW];clear R hW;apply Zy ae;intro w1 J;have I:=O (C0.o.aA J);obtain⟨s,B⟩:=Zx (w1.heap.size);obtain⟨z,c⟩:=Zx (w1.alloc (.cells #[ZI d,.bool u] 160));have C2:Hi (Qc Qb w z):=O (by rw[c];exact I.o.alloc _);have Z:Hi (Qh z s #[ZI d,.bool u] 160):=O (by rw[c,B];exact Qh.new _ _ _);have E1:=λx=>Q4 (Qk (S:=Qb) Z.o (λh=>h) x);clear J;go_wp2_with fail;rw[<-B,<-c];clear B c;refine ZE [] [0,1,2,3] [4,5] [] (Qb) z ?_;simp only[pick,Zf,Ze,Zd];refine Qg ?_;iterate 4 (refine Ql (λK hK=>?_);go_simp;refine hK _ ?_;clear hK K)
 refine Qg ?_;intro _ ag;obtain⟨xo,ac⟩:=ag;subst ac;simp only[Jd];have c3:=O (Qv Qb z xo);generalize Qz Qb z xo=w3 at c3|-;clear E1;go_wp2;refine⟨Qd c3.o,?_⟩;go_wp2;refine⟨Qd c3.o,?_⟩;go_wp2;go_ret2;exact⟨rfl,C2.o.aA c3.o⟩
theorem Qj5{w}{F:Fp}{b:Nat}{d:Ju}(h:Ye w F b d)(hn:d.run.l.length<549755813888):
  Cl 74 #[ptr b] w λe w'=>∃b',e=.returned (ptr b')/\Ye w' (Qn Qb w w') b' d/\Qc Qb w w':=by
 obtain⟨p,G,J,U,hG⟩:=h.ex;have HN:=O (Ty J);obtain⟨k,K⟩:=Zx (w.heap.size);obtain⟨W,B⟩:=Zx (w.alloc (.cells (Fs d p) 196));have I:Hi (Qc Qb w W):=O (by rw[B];exact(Zg _ _).alloc _);have E:Hi (Qh W k (Fs d p) 196):=O (by rw[B,K];exact Qh.new _ _ _);have Z:=O K;have V:=O (Mo (runP.aB U I.o (Jl.none G)) (by omega));have a0:=Ym J;have e0:=Ym (show Qh (w.alloc (.cells (Fs d p) 196)) b _ _ from B▸I.o.blk J (λh=>h));unfold Fs ptr at*;clear h J U hG hn;apply WH func74;go_wp2_with fail;apply Zy HN;rintro w1 rfl;go_wp2_with fail;rw[<-K,<-B];apply Zo V;rintro e w2⟨q,rfl,z,u⟩;have R:Hi (∀w',w'=w2.setCell ⟨k,0,none⟩ (ZP q)->Ye w' (Qn Qb w w') k d/\Qc Qb w w'):=O (by
  rintro w' rfl;have ab:=Z.o;have aa:=E.o.lt;have hc:Qc (λj=>j=k) w2 (w2.setCell ⟨k,0,none⟩ (ZP q)):=(Zg (λj=>j=k) w2).setCell (a:=⟨k,0,none⟩) _ (.inl rfl);have s0:=I.o.size;refine⟨O1.new (p:=q) (G:=Qn Qb W w2) (runP.aB z hc ?_) (λj c=>c.elim (λh=>h.elim) (λh=>by omega)) runP ((u.blk E.o (λh=>h)).set' 0 _ rfl) (by omega) (λh=>h.elim (λh=>h) (λh=>by omega)),(I.o.aA u).setCell (a:=⟨k,0,none⟩) _ (.inr (by show w.heap.size<=k;omega))⟩;rintro j c rfl;rcases c with c|c;·exact c
  .omega)
 have f2:∀j,w2.frozen? ⟨k,j,none⟩=false:=(u.blk E.o (λh=>h)).frozen;have d0:=Ym (u.blk E.o (λh=>h));clear K B z u a0 e0;go_wp2;go_ret;exact⟨_,rfl,R.o _ rfl⟩
def Kv(w:World)(F:Fp)(v:Value)(o:Option Ju):Prop:=match o with
 |none=>v=.pointer none/\Bd F w
 |some d=>∃b,v=ptr b/\Ye w F b d
theorem Kv.good(v:Value)(o:Option Ju):Uy (λw F=>Kv w F v o):=by
 cases o with
 |none=>exact Qop _
 |some d=>exact Qtk (P:=λb w F=>v=ptr b/\Ye w F b d) (λb=>⟨λh=>Ye.obj.bd h.2,λh k q=>⟨h.1,Ye.obj.aB h.2 k q⟩,λh u c=>⟨h.1,Ye.obj.more h.2 u c⟩⟩)
theorem Qn8(c:Jy)(d:c.May)(w):Cl 171 #[cV c] w λe w'=>∃b,e=.returned (ptr b)/\Ye w' (Qn Qb w w') b (Ju.new c)/\Qc Qb w w':=by
 obtain⟨W,k⟩:=Zx (w.alloc (.cells #[ZU c.f,ZU c.l,ZU c.r] 27));have K:Hi (Qc Qb w W):=O (by rw[k];exact(Zg _ _).alloc _);have J:Hi (Qh W w.heap.size #[ZU c.f,ZU c.l,ZU c.r] 27):=O (by rw[k];exact Qh.new _ _ _);have E:=O (λw=>K8 c w);rw[decide_eq_true d]at E;have R:=O (λw=>Cv c d w);unfold cV ptr at*;clear d;apply WH func171;go_wp2_with fail;rw[<-k];apply Zz (E.o _);intro w1 u;have U:=L6 (u.blk J.o (λh=>h));have B:=O (K.o.aA u);clear u k;go_wp2_with fail;refine(R.o _).mono ?_;rintro e w2⟨p,rfl,I,z⟩;have q:Hi (∀w',w'=w2.alloc (.cells #[ZP p,ZU 0,.bool false,ZU 0,ZU 0] 196)->Ye w' (Qn Qb w w') w2.heap.size (Ju.new c)/\Qc Qb w w'):=O (by
  rintro w' rfl;have d:Qc Qb w2 (w2.alloc (.cells #[ZP p,ZU 0,.bool false,ZU 0,ZU 0] 196)):=(Zg _ _).alloc _;have s1:=B.o.size;have s2:=z.size;exact⟨O1.new (p:=p) (G:=Qn Qb w1 w2) (runP.aB I d (Jl.none _)) (λj hj=>hj.elim (λh=>h.elim) (λh=>by omega)) runP (Qh.new _ _ _) (by omega) (λh=>h.elim (λh=>h) (λh=>by omega)),(B.o.aA z).aA d⟩)
 clear I z U;go_wp2;go_ret;exact⟨_,rfl,q.o _ rfl⟩
theorem Qgx(c:Jy)(E:c.May)(w):Cl 105 #[cV c] w λe w'=>∃v,e=.returned v/\Kv w' (Qn Qb w w') v (Xl c)/\Qc Qb w w':=by
 obtain⟨W,B⟩:=Zx (w.alloc (.cells #[ZU c.f,ZU c.l,ZU c.r] 27));have K:Hi (Qc Qb w W):=O (by rw[B];exact(Zg _ _).alloc _);have V:Hi (Qh W w.heap.size #[ZU c.f,ZU c.l,ZU c.r] 27):=O (by rw[B];exact Qh.new _ _ _);have J:=O (λw=>Kz c w);have Z:=O (λw=>Qn8 c E w);unfold Xl;cases d:c.none with
 |true=> rw[d]at J;have u:=O (λw'(E:Qc Qb w w')=>show Kv w' (Qn Qb w w') (.pointer none) none/\Qc Qb w w' from⟨⟨rfl,λk q=>q.elim (λh=>h.elim) (λh=>h.2)⟩,E⟩);rw[if_pos rfl];unfold cV ptr at*;clear E d;apply WH func105;go_wp2_with fail;rw[<-B];apply Z9 (J.o _) (λ_ z=>K.o.aA z);intro w1 I;clear B;go_wp2;go_ret;exact⟨_,rfl,u.o _ I.o⟩
 |false=> rw[d]at J;rw[if_neg Bool.false_ne_true];unfold cV ptr at*;clear E d;apply WH func105;go_wp2_with fail;rw[<-B];apply Zz (J.o _);intro w1 z;have a0:=L6 (z.blk V.o (λh=>h));have I:=O (K.o.aA z);clear z B;go_wp2_with fail;refine(Z.o _).mono ?_;rintro e w2⟨p,rfl,U,R⟩;have u:Hi (Kv w2 (Qn Qb w w2) (ZP p) (some (Ju.new c))/\Qc Qb w w2):=O (⟨⟨p,rfl,Ye.obj.more U (λk q=>q.elim .inl (λq=>.inr ⟨Zp I.o.size q.1,q.2⟩)) (λk q=>q.elim (λh=>h.elim) (λh=>h.2))⟩,I.o.aA R⟩);clear U R a0;exact WG u
theorem Qkb{w}{F H:Fp}{b q:Nat}{l:List Xu}{d:Ju}(h:Yq w F b l)(u:Ye w H q d)(I:l.length<4611686018427387903)(id:Int):
  ZW 99 #[ptr b,ZI id,ptr q] w (.tuple #[]) λw'=>Yq w' (Qn F w w') b (Hj l id d)/\Qc F w w':=by
 have z:=O (Li u);have J:=O (Ay u);have K:=O (Cb u);unfold Ju.from_ Ju.dueAt at*;cases ha:d.aL with
 |false=> rw[ha]at z;have E:=O (Qj9 h (by omega) id);rw[show Hj l id d=Xa id l by unfold Hj;rw[ha];rfl];clear h u ha I;apply WH func99;go_wp2_with fail;apply Zy z;rintro w1 rfl;go_wp2_with fail;apply ZQ E;intro w1 B;exact WD B
 |true=> rw[ha,if_pos rfl]at J K;rw[ha]at z;have E:=O (Qoe h I id d.elig d.due);rw[show Hj l id d=Vf id d.elig d.due l by unfold Hj;rw[ha];rfl];clear h u ha I;apply WH func99;go_wp2_with fail;apply Zy z;rintro w1 rfl;go_wp2_with fail;apply Zy J;rintro w1 rfl;go_wp2_with fail;apply Zy K;rintro w1 rfl;go_wp2_with fail;apply ZQ E;intro w1 B;exact WD B
section
abbrev Oj:World->Fp->Nat->Xh->Prop:=O1 252 (λ_ p=>#[.iface 248 (.agg #[ptr p])]) (λr=>r) Yv
theorem Oj.obj:Hf Oj:=O1.obj runP
def Ho(w:World)(F:Fp)(b:Nat)(l:Kg):Prop:=match l with
 |none=>Tv b #[.iface 293 (.agg #[])] 252 w F
 |some r=>Oj w F b r
theorem Ho.obj:Hf Ho where
 bd:=λ{w F b x}h=>by cases x with|none=>exact(Ks _ _ _).bd h|some r=>exact Oj.obj.bd h
 own:=λ{w F b x}h=>by cases x with|none=>exact h.2.1|some r=>exact Oj.obj.own h
 aB:=λ{w w' F S b x}h d k=>by cases x with|none=>exact(Ks _ _ _).aB h d k|some r=>exact Oj.obj.aB h d k
 more:=λ{w F u b x}h q c=>by cases x with|none=>exact(Ks _ _ _).more h q c|some r=>exact Oj.obj.more h q c
theorem Qbg(v:Value)(w):(Instr.typeAssert (.iface 248 v) 250 248 true).run prog w=.ok (.tuple #[v,.bool true]) w:=by have h:=underlying248;simp[Instr.typeAssert,run_underlying h,go_sem,Result.andThen]
theorem Qck(v:Value)(w):(Instr.typeAssert (.iface 293 v) 250 248 true).run prog w=.ok (.tuple #[.agg #[.pointer none],.bool false]) w:=by
 have h:=underlying248;have c:(zeroValue 248).run prog w=.ok (.agg #[.pointer none]) w:=by go_simp
 simp[Instr.typeAssert,run_underlying h,go_sem,Result.andThen,c]
theorem Iu(v:Value)(w):(Instr.typeAssert (.iface 293 v) 250 293 true).run prog w=.ok (.tuple #[v,.bool true]) w:=by have h:=underlying293;simp[Instr.typeAssert,run_underlying h,go_sem,Result.andThen]
attribute [local go_sem] Qbg Qck Iu
theorem Rg{w}{b p:Nat}(h:Qh w b #[.iface 248 (.agg #[ptr p])] 252):ZW 187 #[ptr b] w (ptr p) λw'=>Qc Qb w w':=by have c:=Jf h;clear h;apply WH func187;go_wp2;go_ret;refine⟨rfl,?_⟩;(exact Z0)
theorem Mc{w}{b:Nat}(h:Qh w b #[.iface 293 (.agg #[])] 252):ZW 187 #[ptr b] w (.pointer none) λw'=>Qc Qb w w':=by have c:=Jf h;clear h;apply WH func187;go_wp2;go_ret;refine⟨rfl,?_⟩;(exact Z0)
theorem F8(w):ZW 187 #[.pointer none] w (.pointer none) λw'=>Qc Qb w w':=by apply WH func187;go_wp2;go_ret;exact⟨rfl,Zg _ _⟩
end
theorem Qkw{w}{F:Fp}{b:Nat}{l:Kg}(h:Ho w F b l)(hn:∀r,l=some r->r.l.length<549755813888)(now c:Nat)(U:now<18446744073709551616)(V:c<18446744073709551616):
  ZW 176 #[ptr b,ZU now,ZU c] w (.tuple #[]) λw'=>Ho w' (Qn F w w') b (l.wake now c)/\Qc F w w':=by
 have E:=O (λw'(hc:Qc Qb w w')=>Ho.obj.same h hc);cases l with
 |none=> have I:=O (Mc h.1);rw[show Kg.wake none now c=none from rfl];clear h hn U V;apply WH func176;go_wp2_with fail;apply ZQ I;intro w1 d;go_wp2;refine WB rfl rfl ⟨rfl,E.o _ d.o⟩
 |some r=>
  have h:Oj w F b r:=h;have H:=O h;obtain⟨p,G,Z,hR,hG⟩:=h.ex;have I:=O (Rg Z);have J:=O Z;have q:=O hG;have HR:=O (λw'(hc:Qc Qb w w')=>Rv (runP.aB hR hc (Jl.none G)) (hn r rfl) now c U V);rw[show Kg.wake (some r) now c=some (r.start now c)from rfl];have K:=O (runP.bd hR);clear h hn U V Z hR hG;apply WH func176;go_wp2_with fail;apply ZQ I;intro w1 d;go_wp2_with fail;apply Zz (HR.o _ d.o);rintro w2⟨z,c2⟩;have FF:Hi (Oj w2 (Qn F w w2) b (r.start now c)/\Qc F w w2):=O (by
   have R:Qc G w w2:=d.o.none.aA c2;exact H.o.made (x':=r.start now c) q.o runP R (runP.more z (λk B=>B.elim .inl (λB=>.inr ⟨Zp d.o.size B.1,B.2⟩)) (K.o.ext R)) (Zg _ _) (R.blk J.o (λh=>(q.o _ h).2 rfl)))
  clear z c2;exact WD FF
theorem Qo1{w}{F:Fp}{b:Nat}{l:Kg}(h:Ho w F b l)(z:∀r,l=some r->r.l.length<549755813888)(c:Nat)(u:c<18446744073709551616):
  ZW 245 #[ptr b,ZU c] w (ZU (l.fit c:Nat)) λw'=>Qc Qb w w':=by
 cases l with
 |none=> have q:=O (Mc h.1);rw[show Kg.fit none c=0 from rfl];clear h z u;apply WH func245;go_wp2_with fail;apply ZQ q;intro w1 k;exact WD k
 |some r=> have h:Oj w F b r:=h;obtain⟨p,G,I,J,R⟩:=h.ex;have q:=O (Rg I);have B:=O (λw'(U:Qc Qb w w')=>Ru (runP.aB J U (Jl.none G)) (by have:=z r rfl;omega) c u);rw[show Kg.fit (some r) c=r.reach c from rfl];generalize r.reach c=x at B|-;clear h z u I J R;apply WH func245;go_wp2_with fail;apply ZQ q;intro w1 k;go_wp2_with fail;apply Z9 (B.o _ k.o) (λ_ E=>k.o.aA E);intro w2 K;exact WD K
theorem Qku{w}{F:Fp}{b:Nat}{l:Kg}(h:Ho w F b l)(J:∀r,l=some r->r.l.length<549755813888):
  Cl 126 #[ptr b] w λe w'=>∃b',e=.returned (ptr b')/\Ho w' (Qn Qb w w') b' l/\Qc Qb w w':=by
 cases l with
 |none=>
  have E:=O (Mc h.1);have U:=O h.1;clear h J;apply WH func126;go_wp2_with fail;apply Zy E;intro w1 d;have a0:=Jf (d.blk U.o (λh=>h));have c:Hi (∀w',w'=w1.alloc (.cells #[.iface 293 (.agg #[])] 252)->Ho w' (Qn Qb w w') w1.heap.size none/\Qc Qb w w'):=O (by
   rintro w' rfl;exact⟨⟨Qh.new _ _ _,.inr ⟨d.size,by simp⟩,λk hk=>hk.elim (λh=>h.elim) (λh=>h.2)⟩,d.alloc _⟩)
  clear d;go_wp2;go_ret;exact⟨_,rfl,c.o _ rfl⟩
 |some r=>
  have h:Oj w F b r:=h;obtain⟨p,G,K,R,Z⟩:=h.ex;have E:=O (Rg K);have V:=O (λw'(z:Qc Qb w w')=>Mo (runP.aB R z (Jl.none G)) (by have:=J r rfl;omega));clear h J K R Z;apply WH func126;go_wp2_with fail;apply ZQ E;intro w1 B;go_wp2_with fail;refine(V.o _ B.o).mono ?_;rintro e w2⟨q,rfl,u,I⟩;have c:Hi (∀w',w'=w2.alloc (.cells #[.iface 248 (.agg #[ZP q])] 252)->Ho w' (Qn Qb w w') w2.heap.size (some r)/\Qc Qb w w'):=O (by
   rintro w' rfl;have z:Qc Qb w2 (w2.alloc (.cells #[.iface 248 (.agg #[ZP q])] 252)):=(Zg _ _).alloc _;have s1:=B.o.size;have s2:=I.size;exact⟨O1.new (p:=q) (G:=Qn Qb w1 w2) (runP.aB u z (Jl.none _)) (λj hj=>hj.elim (λh=>h.elim) (λh=>by omega)) runP (Qh.new _ _ _) (by omega) (λh=>h.elim (λh=>h) (λh=>by omega)),(B.o.aA I).aA z⟩)
  clear u I;go_wp2;go_ret;exact⟨_,rfl,c.o _ rfl⟩
theorem Qdj(c:Jy)(w):Cl 168 #[cV c] w λe w'=>∃b,e=.returned (ptr b)/\Ho w' (Qn Qb w w') b (Ha c)/\Qc Qb w w':=by
 obtain⟨W,E⟩:=Zx (w.alloc (.cells #[ZU c.f,ZU c.l,ZU c.r] 27));have Z:Hi (Qc Qb w W):=O (by rw[E];exact(Zg _ _).alloc _);have B0:Hi (Qh W w.heap.size #[ZU c.f,ZU c.l,ZU c.r] 27):=O (by rw[E];exact Qh.new _ _ _);have K:=O (λw=>Kz c w);have V:=O (λw=>K8 c w);have B:Hi (∀w1 w',Qc Qb w w1->w'=w1.alloc (.cells #[.iface 293 (.agg #[])] 252)->Ho w' (Qn Qb w w') w1.heap.size none/\Qc Qb w w'):=O (by
  rintro w1 w' d rfl;exact⟨⟨Qh.new _ _ _,.inr ⟨d.size,by simp⟩,λk hk=>hk.elim (λh=>h.elim) (λh=>h.2)⟩,d.alloc _⟩)
 unfold Ha;cases z:c.none with
 |true=> rw[z]at K;rw[show(if(true||!decide c.May)=true then(none:Kg)else some (Xh.new c))=none from rfl];unfold cV ptr at*;clear z;apply WH func168;go_wp2_with fail;rw[<-E];apply Z9 (K.o _) (λ_ d=>Z.o.aA d);intro w1 J;clear E;go_wp2;go_ret;exact⟨_,rfl,B.o _ _ J.o rfl⟩
 |false=>
  rw[z]at K;cases u:decide c.May with
  |false=> rw[u]at V;rw[show(if(false||!false)=true then(none:Kg)else some (Xh.new c))=none from rfl];unfold cV ptr at*;clear z u;apply WH func168;go_wp2_with fail;rw[<-E];apply Zz (K.o _);intro w1 d;have a0:=L6 (d.blk B0.o (λh=>h));have J:=O (Z.o.aA d);clear d E;go_wp2_with fail;apply Z9 (V.o _) (λ_ I=>J.o.aA I);intro w2 U;clear a0;go_wp2;go_ret;exact⟨_,rfl,B.o _ _ U.o rfl⟩
  |true=>
   have HR:=O (λw=>Cv c (of_decide_eq_true u) w);rw[u]at V;rw[show(if(false||!true)=true then(none:Kg)else some (Xh.new c))=some (Xh.new c)from rfl];unfold cV ptr at*;clear z u;apply WH func168;go_wp2_with fail;rw[<-E];apply Zz (K.o _);intro w1 d;have B1:=O (d.blk B0.o (λh=>h));have a0:=L6 B1.o;have J:=O (Z.o.aA d);clear d E;go_wp2_with fail;apply Zz (V.o _);intro w2 I;have U:=O (J.o.aA I);have e0:=L6 (I.blk B1.o (λh=>h));clear I a0;go_wp2_with fail;refine(HR.o _).mono ?_;rintro e w3⟨q,rfl,R,c3⟩;have aa:Hi (∀w',w'=w3.alloc (.cells #[.iface 248 (.agg #[ZP q])] 252)->Ho w' (Qn Qb w w') w3.heap.size (some (Xh.new c))/\Qc Qb w w'):=O (by
    rintro w' rfl;have hc:Qc Qb w3 (w3.alloc (.cells #[.iface 248 (.agg #[ZP q])] 252)):=(Zg _ _).alloc _;have s1:=U.o.size;have s2:=c3.size;exact⟨O1.new (p:=q) (G:=Qn Qb w2 w3) (runP.aB R hc (Jl.none _)) (λj hj=>hj.elim (λh=>h.elim) (λh=>by omega)) runP (Qh.new _ _ _) (by omega) (λh=>h.elim (λh=>h) (λh=>by omega)),(U.o.aA c3).aA hc⟩)
   clear R c3 e0;go_wp2;go_ret;exact⟨_,rfl,aa.o _ rfl⟩
def Pp(m:Jh)(p:Nat):Array Value:=#[ZU m.total,ZU m.v,ptr p,.bool m.aL]
abbrev Vj:World->Fp->Nat->Jh->Prop:=O1 255 Pp Jh.run Yv
theorem Vj.obj:Hf Vj:=O1.obj runP
theorem Sm{X:Type}{key:X->Int}{Is:World->Fp->Nat->X->Prop}(c:Hf Is)(m:Nat)(ad:Int->Nat)(l:List X):Uy (λw F=>Yn key Is w F m ad l) where
 bd:=λh=>h.bd
 aB:=λh k q=>h.aB c k q
 more:=λh u d=>h.more u d
theorem Mz{X:Type}{key:X->Int}{l c:List X}(k:l.Perm c)(q:(l.map key).Nodup)(i:Int):Hn key i l=Hn key i c:=by
 have E:(c.map key).Nodup:=(k.map _).nodup_iff.1 q;cases h:Hn key i c with
 |some x=> obtain⟨u,d⟩:=Y3 h;exact Ls q (k.mem_iff.2 u) d
 |none=>
  cases d:Hn key i l with
  |none=>rfl
  |some x=> obtain⟨z,B⟩:=Y3 d;exact absurd B (Lz h x (k.mem_iff.1 z))
def Qtj(b m:Nat)(c:Nat)(ad:Int->Nat)(l:List Jh):List Ya:=
 [Tv b #[.map (some m),ZU c] 245,λw G=>Yn Jh.id Vj w G m ad l]
theorem Yc(b m c:Nat)(ad:Int->Nat)(l:List Jh):∀P∈Qtj b m c ad l,Uy P:=by
 intro P d;simp only[Qtj,Zu,List.not_mem_nil,or_false]at d;rcases d with rfl|rfl;·exact Ks _ _ _
 .exact Sm Vj.obj _ _ _
def J0(w:World)(F:Fp)(b:Nat)(f:Jc):Prop:=∃m ad l,l.Perm f.all/\Oh (Qtj b m f.mark ad l) w F
theorem J0.obj:Hf J0 where
 bd:=λ⟨m,ad,l,_,h⟩=>(Je (Yc _ m _ ad l)).bd h
 own:=λ⟨m,ad,l,_,h⟩=>by obtain⟨G,d,k⟩:=J6 (Yc _ m _ ad l) 0 rfl h;exact k _ d.2.1
 aB:=λ⟨m,ad,l,c,h⟩u z=>⟨m,ad,l,c,(Je (Yc _ m _ ad l)).aB h u z⟩
 more:=λ⟨m,ad,l,c,h⟩B q=>⟨m,ad,l,c,(Je (Yc _ m _ ad l)).more h B q⟩
theorem J0.opn{w}{F:Fp}{b:Nat}{f:Jc}(h:J0 w F b f):
  ∃m ad l,l.Perm f.all/\Qh w b #[.map (some m),ZU f.mark] 245/\∃G,Yn Jh.id Vj w G m ad l:=by
 obtain⟨m,ad,l,q,h⟩:=h;obtain⟨u,d,_⟩:=J6 (Yc _ m _ ad l) 0 rfl h;obtain⟨c,k,_⟩:=J6 (Yc _ m _ ad l) 1 rfl h;exact⟨m,ad,l,q,d.1,c,k⟩
theorem Jc.at_eq{f:Jc}{l:List Jh}(d:l.Perm f.all)(c:(l.map Jh.id).Nodup)(i:Int):f.at i=Hn Jh.id i l:=(Mz d c i).symm
theorem Qjt(w):(zeroValue 253).run prog w=.ok (.pointer none) w:=by go_simp
def atP(ad:Int->Nat)(i:Int)(o:Option Jh):Value:=match o with
 |none=>.pointer none
 |some _=>ptr (ad i)
theorem Qb2{w}{G:Fp}{b m:Nat}{v:Value}{ad:Int->Nat}{l:List Jh}(q:Qh w b #[.map (some m),v] 245)(d:Yn Jh.id Vj w G m ad l)(i:Int):
  ZW 213 #[ptr b,ZI i] w (atP ad i (Hn Jh.id i l)) λw'=>w=w':=by
 have c:=d.look i;have k:=Du (P:=prog) d.map underlying243 underlying3 (Qjt w) i;rw[c]at k;have u:((Hn Jh.id i l).map λ_=>ptr (ad i)).getD (.pointer none)=atP ad i (Hn Jh.id i l):=by cases Hn Jh.id i l<;>rfl
 rw[u]at k;generalize atP ad i (Hn Jh.id i l)=r at k|-;have z:=Q4 q;clear q d c u;apply WH func213;exact WE
theorem famAt{w}{G:Fp}{m:Nat}{ad:Int->Nat}{l:List Jh}(k:Yn Jh.id Vj w G m ad l){i:Int}{x:Jh}(u:Hn Jh.id i l=some x):∃p H,Qh w (ad i) (Pp x p) 255/\Yv w H p x.run:=by obtain⟨c,d⟩:=Y3 u;obtain⟨K,q,_⟩:=k.focus Vj.obj c;obtain⟨p,H,a,b,_⟩:=q.ex;exact⟨p,H,d▸a,b⟩
theorem Quf{w}{F:Fp}{b:Nat}{f:Jc}(h:J0 w F b f)(i:Int):ZW 244 #[ptr b,ZI i] w (ZU (f.v i:Nat)) λw'=>w=w':=by
 obtain⟨m,ad,l,u,q,G,d⟩:=h.opn;have c:=O (Qb2 q d i);unfold Jc.v;rw[Jc.at_eq u d.nodup];cases k:Hn Jh.id i l with
 |none=> rw[k]at c;dsimp only[atP,Option.map_none,Option.getD_none]at c|-;clear h u q d k;apply WH func244;go_wp2_with fail;apply Zy c;rintro w1 rfl;exact WE
 |some x=> obtain⟨p,H,z,_⟩:=famAt d k;have B:=X9 z;rw[k]at c;dsimp only[atP,Zn,Option.getD_some]at c|-;clear h u q d k z;apply WH func244;go_wp2_with fail;apply Zy c;rintro w1 rfl;exact WE
theorem Qjg{w}{F:Fp}{b:Nat}{f:Jc}(h:J0 w F b f)(i:Int):ZW 215 #[ptr b,ZI i] w (.bool (f.up i)) λw'=>w=w':=by
 obtain⟨m,ad,l,u,q,G,d⟩:=h.opn;have c:=O (Qb2 q d i);unfold Jc.up;rw[Jc.at_eq u d.nodup];cases k:Hn Jh.id i l with
 |none=> rw[k]at c;dsimp only[atP,Option.map_none,Option.getD_none]at c|-;clear h u q d k;apply WH func215;go_wp2_with fail;apply Zy c;rintro w1 rfl;exact WE
 |some x=> obtain⟨p,H,z,_⟩:=famAt d k;have B:=X9 z;rw[k]at c;dsimp only[atP,Zn,Option.getD_some]at c|-;clear h u q d k z;apply WH func215;go_wp2_with fail;apply Zy c;rintro w1 rfl;exact WE
theorem Qei(w):Cl 117 #[] w λe w'=>∃b,e=.returned (ptr b)/\J0 w' (Qn Qb w w') b ⟨[],0⟩/\Qc Qb w w':=by
 have z:=@run_makeMap prog;have d:Hi (∀w',w'=(w.alloc (.map #[] 0)).alloc (.cells #[.map (some w.heap.size),ZU 0] 245)->J0 w' (Qn Qb w w') (w.heap.size+1) ⟨[],0⟩/\Qc Qb w w'):=O (by
  rintro w' rfl;have q:Qh ((w.alloc (.map #[] 0)).alloc (.cells #[.map (some w.heap.size),ZU 0] 245)) (w.heap.size+1) #[.map (some w.heap.size),ZU 0] 245:=Qh.new' _ _ (by simp);have c:Xq ((w.alloc (.map #[] 0)).alloc (.cells #[.map (some w.heap.size),ZU 0] 245)) w.heap.size []:=(Xq.new w).aB ((Zg Qb _).alloc _) (λh=>h);refine⟨⟨w.heap.size,λ_=>0,[],List.Perm.refl _,?_⟩,((Zg _ _).alloc _).alloc _⟩;refine Q7 (G:=λk=>k=w.heap.size+1) (H:=λk=>k=w.heap.size) ⟨q,rfl,λk e=>e▸q.lt⟩ (Y6 (Yn.new c (λk e=>e▸c.lt) rfl) (λk e=>e▸c.lt)) ?_ ?_ ?_ (λk u=>u.elim (λh=>h.elim) (λh=>h.2));·rintro k rfl u;omega
  .rintro k rfl;exact .inr ⟨by omega,q.lt⟩
  .rintro k rfl;exact .inr ⟨by omega,c.lt⟩)
 unfold ptr;apply WH func117;go_wp2;go_ret;exact⟨_,rfl,d.o _ (by simp)⟩
theorem Qc.aT{S:Nat->Prop}{w w1:World}(h:Qc S w.drew w1):Qc S w w1:=⟨h.os,h.tape,h.output,h.size,h.block⟩
def Yu(m:Nat)(ad:Int->Nat)(w:World)(F:Fp)(b:Nat)(f:Jc):Prop:=∃l:List Jh,l.Perm f.all/\Oh (Qtj b m f.mark ad l) w F
theorem Yu.obj(m:Nat)(ad:Int->Nat):Hf (Yu m ad) where
 bd:=λ⟨l,_,h⟩=>(Je (Yc _ m _ ad l)).bd h
 own:=λ⟨l,_,h⟩=>by obtain⟨G,d,k⟩:=J6 (Yc _ m _ ad l) 0 rfl h;exact k _ d.2.1
 aB:=λ⟨l,c,h⟩u z=>⟨l,c,(Je (Yc _ m _ ad l)).aB h u z⟩
 more:=λ⟨l,c,h⟩B q=>⟨l,c,(Je (Yc _ m _ ad l)).more h B q⟩
theorem J0.addr{w}{F:Fp}{b:Nat}{f:Jc}(h:J0 w F b f):∃m ad,Yu m ad w F b f:=by obtain⟨m,ad,l,h⟩:=h;exact⟨m,ad,l,h⟩
section
variable{m:Nat}{ad:Int->Nat}{w w':World}{F:Fp}{b:Nat}{f:Jc}
theorem Yu.is(h:Yu m ad w F b f):J0 w F b f:=by obtain⟨l,h⟩:=h;exact⟨m,ad,l,h⟩
theorem Yu.same(h:Yu m ad w F b f)(c:Qc Qb w w'):Yu m ad w' (Qn F w w') b f/\Qc F w w':=by obtain⟨l,q,h⟩:=h;have g:=Je (Yc b m f.mark ad l);have h':=g.aB h c (Jl.none F);exact⟨⟨l,q,g.more h' (λk d=>.inl d) ((g.bd h).ext (c.none (F:=F)))⟩,c.none⟩
theorem Yu.coll(h:Yu m ad w F b f):∃l:List Jh,l.Perm f.all/\Qh w b #[.map (some m),ZU f.mark] 245/\∃G,Yn Jh.id Vj w G m ad l:=by obtain⟨l,q,h⟩:=h;obtain⟨u,d,_⟩:=J6 (Yc _ m _ ad l) 0 rfl h;obtain⟨c,k,_⟩:=J6 (Yc _ m _ ad l) 1 rfl h;exact⟨l,q,d.1,c,k⟩
theorem Yu.blk(h:Yu m ad w F b f):Qh w b #[.map (some m),ZU f.mark] 245:=by obtain⟨l,d,c,_⟩:=h.coll;exact c
theorem Jc.aE{i:Int}{x:Jh}(h:f.at i=some x):x∈f.all/\x.id=i:=Y3 (key:=Jh.id) h
theorem Yu.mem(h:Yu m ad w F b f){x:Jh}(hx:x∈f.all):
  ∃G:Fp,Vj w G (ad x.id) x/\(∀k,G k->F k/\k≠b)/\∀w' x',x'.id=x.id->Vj w' (Qn G w w') (ad x.id) x'->Qc G w w'->Yu m ad w' (Qn F w w') b (f.set x')/\Qc F w w':=by
 obtain⟨l,V,hs⟩:=h;obtain⟨hb,Z,H,B,h2,E,h4,R⟩:=hs;obtain⟨H1,k1,K,_,k3⟩:=Xv 0 (P:=λw G=>Yn Jh.id Vj w G m ad l) (L:=[λw G=>Yn Jh.id Vj w G m ad l]) (by intro P U;simp only[Zu,List.not_mem_nil,or_false]at U;subst U;exact Sm Vj.obj _ _ _) rfl h2;obtain⟨G,g1,z,g3⟩:=k1.focus Vj.obj (V.mem_iff.2 hx);have q:∀k,G k->F k:=λk c=>R k (K k (z k c).1);have I:∀k,G k->k≠b:=λk c e=>by subst e;exact E _ B.2.1 (K _ (z _ c).1)
 refine⟨G,g1,λk c=>⟨q k c,I k c⟩,λw' x' J hm d=>?_⟩;have u:Qc H1 w w':=d.sub λk c=>(z k c).1;have cH:Qc H w w':=u.sub K;have e1:=k3 w' (λw G=>Yn Jh.id Vj w G m ad (Lg Jh.id x' l)) u (g3 w' x' J hm d);refine⟨⟨Lg Jh.id x' l,V.map _,?_⟩,d.sub q⟩;refine Q7 (G:=Z) (H:=Qn H w w') ((Ks _ _ _).aB B cH E) e1 ?_ (λk c=>.inl (h4 k c)) (λk c=>Qn.mono R k c) (hb.ext (d.sub q));exact Jl.extR E ((Ks _ _ _).bd B)
theorem Yu.marked(h:Yu m ad w F b f){n:Nat}(d:Qc (λk=>k=b) w w')(c:Qh w' b #[.map (some m),ZU n] 245):Yu m ad w' (Qn F w w') b ⟨f.all,n⟩/\Qc F w w':=by obtain⟨l,q,h⟩:=h;have:=(Xv 0 (Yc b m f.mark ad l) rfl h).cells d c;exact⟨⟨l,q,this.1⟩,this.2⟩
theorem Yu.memB(h:Yu m ad w F b f){x:Jh}(k:x∈f.all):∃p H,Qh w (ad x.id) (Pp x p) 255/\Yv w H p x.run/\ad x.id≠b:=by obtain⟨G,c,d,_⟩:=h.mem k;obtain⟨p,H,a,b',_⟩:=c.ex;exact⟨p,H,a,b',(d _ c.own).2⟩
theorem Yu.memC'(h:Yu m ad w F b f){x x':Jh}{p:Nat}(U:x∈f.all)(q:x'.id=x.id)(R:x'.run=x.run)(z:Qh w (ad x.id) (Pp x p) 255)
  (K:Qc (λk=>k=ad x.id) w w') (J:Qh w' (ad x.id) (Pp x' p) 255):Yu m ad w' (Qn F w w') b (f.set x')/\Qc F w w':=by
 obtain⟨G,u,h2,B⟩:=h.mem U;obtain⟨p',H,a,I,E⟩:=u.ex;have e:p'=p:=by have c:=a;unfold Qh at c z;rw[z]at c;simp only[Option.some.injEq,Obj.cells.injEq,Pp,Array.mk.injEq,List.cons.injEq,ptr,Value.pointer.injEq,Addr.mk.injEq]at c;exact c.1.2.2.1.1.symm
 subst e;have d:Yv w H p' x'.run:=R▸I;obtain⟨V,Z⟩:=O1.cell (x':=x') u d E runP K J;exact B w' x' q V Z
theorem Yu.memR(h:Yu m ad w F b f){x:Jh}(I:x∈f.all):
  ∃(p:Nat)(G:Fp),Qh w (ad x.id) (Pp x p) 255/\Yv w G p x.run/\∀w' r,Yv w' (Qn G w w') p r->Qc G w w'->Yu m ad w' (Qn F w w') b (f.set {x with run:=r})/\Qc F w w':=by
 obtain⟨G,c,R,q⟩:=h.mem I;obtain⟨p,H,a,u,d⟩:=c.ex;refine⟨p,H,a,u,λw' r E k=>?_⟩;have z:Qh w' (ad x.id) (Pp {x with run:=r} p) 255:=k.blk a (λB=>(d _ B).2 rfl);obtain⟨J,K⟩:=O1.made (x':={x with run:=r}) c d runP k E (Zg _ _) z;exact q w' {x with run:=r} rfl J K
def Qk3(ad:Int->Nat)(f:Jc)(i:Int):Value:=atP ad i (f.at i)
theorem Yu.at_any(h:Yu m ad w F b f)(i:Int):ZW 213 #[ptr b,ZI i] w (Qk3 ad f i) λw'=>w=w':=by obtain⟨l,k,d,G,c⟩:=h.coll;have:=Qb2 d c i;unfold Qk3;rw[Jc.at_eq k c.nodup];exact this
end
theorem Qjh{w}{F:Fp}{b:Nat}{f:Jc}(h:J0 w F b f)(i:Int):
  ZW 161 #[ptr b,ZI i] w (.tuple #[]) λw'=>J0 w' (Qn F w w') b (f.sleep i)/\Qc F w w':=by
 obtain⟨m,ad,u⟩:=h.addr;have q:=O (u.at_any i);unfold Jc.sleep;unfold Qk3 at q;cases z:f.at i with
 |none=> have d:=O (u.same (Zg Qb w));rw[z]at q;dsimp only[atP]at q|-;clear h u z;apply WH func161;go_wp2_with fail;apply Zy q;rintro w1 rfl;go_wp2;refine WB rfl rfl ⟨rfl,d.o.1.is,d.o.2⟩
 |some x=>
  obtain⟨E,rfl⟩:=Jc.aE z;obtain⟨p,H,B,_,_⟩:=u.memB E;have I:=O B;have d:Hi (∀w',Qc (λk=>k=ad x.id) w w'->Qh w' (ad x.id) (Pp {x with aL:=false} p) 255->J0 w' (Qn F w w') b (f.set {x with aL:=false})/\Qc F w w'):=O (λw' K J=>by
   obtain⟨a,c⟩:=u.memC' (x':={x with aL:=false}) E rfl rfl I.o K J;exact⟨a.is,c⟩)
  have R:=X9 B;have z0:=B.frozen 3;rw[z]at q;dsimp only[atP]at q|-;clear h u z B E;apply WH func161;go_wp2_with fail;apply Zy q;rintro w1 rfl;go_wp2;refine WB rfl rfl ⟨rfl,d.o _ Z0 (I.o.set' 3 _ rfl)⟩
theorem Qb3{w}{F:Fp}{b:Nat}{f:Jc}(h:J0 w F b f)(i:Int):
  ZW 182 #[ptr b,ZI i] w (.bool (f.at i).isSome) λw'=>J0 w' (Qn F w w') b (f.drop i)/\Qc F w w':=by
 obtain⟨m,ad,I⟩:=h.addr;have q:=O (I.at_any i);unfold Qk3 at q;cases E:f.at i with
 |none=>
  have e:f.drop i=f:=by
   unfold Jc.drop;have:(f.all.filter λm=>!decide (m.id=i))=f.all:=List.filter_eq_self.2 λy hy=>by have:=Lz (key:=Jh.id) E y hy;simpa using this
   rw[this]
  have c:=O (I.same (Zg Qb w));rw[e];rw[E]at q;dsimp only[atP,Option.isSome_none]at q|-;clear h I E e;apply WH func182;go_wp2_with fail;apply Zy q;rintro w1 rfl;go_wp2;go_ret;exact⟨rfl,c.o.1.is,c.o.2⟩
 |some x=>
  obtain⟨l,hp,V⟩:=I;have J:=(J6 (Yc b m f.mark ad l) 0 rfl V);obtain⟨G0,J,_⟩:=J;obtain⟨G,z,Z,R,d⟩:=Xv 1 (Yc b m f.mark ad l) rfl V;obtain⟨w',aa,B,u⟩:=Di (P:=prog) z.map underlying243 underlying3 3 0 i;have c:Hi (J0 w' (Qn F w w') b (f.drop i)/\Qc F w w'):=O (by
   have K:Qc G w w':=u.sub λk U=>U▸z.at_;have h1:Yn Jh.id Vj w' (Qn G w w') m ad (Kp Jh.id i l):=(z.del Vj.obj i B u).more (λk U=>.inl U) (z.bd.ext K);exact⟨⟨m,ad,Kp Jh.id i l,hp.filter _,d w' (λw G=>Yn Jh.id Vj w G m ad (Kp Jh.id i l)) K h1⟩,K.sub Z⟩)
  have a0:=Q4 J.1;rw[E]at q;dsimp only[atP,Option.isSome_some]at q|-;clear h E V d Z R z B u J hp;apply WH func182;go_wp2_with fail;apply Zy q;rintro w1 rfl;go_wp2;go_ret;exact⟨rfl,c.o.1,c.o.2⟩
section
attribute [local go_sem ↓] X8 Yd
theorem Jc.set_set(f:Jc){a b:Jh}(h:a.id=b.id):(f.set a).set b=f.set b:=by
 unfold Jc.set;simp only[List.map_map,Jc.mk.injEq,and_true];refine List.map_congr_left λx _=>?_;simp only[Function.comp];by_cases c:x.id=a.id;·rw[if_pos c,if_pos h,if_pos (c.trans h)]
 .rw[if_neg c]
theorem Jc.mem_set{f:Jc}{x a:Jh}(c:x∈f.all)(h:a.id=x.id):a∈(f.set a).all:=Z3.2 ⟨x,c,if_pos h.symm⟩
theorem Qmv{w}{b q c:Nat}{z v0 v1 v2 v3:Value}(k:Qh w b #[z,ZU c] 245)(u:Qh w q #[v0,v1,v2,v3] 255)(d:q≠b)(v:Nat):
  ZW 214 #[ptr b,ptr q,ZU v] w (.tuple #[]) λw'=>w'=(w.setCell ⟨q,1,none⟩ (ZU v)).setCell ⟨b,1,none⟩ (ZU ((max c v:Nat):Int)):=by
 have B:=Q4 (k.other (a:=⟨q,1,none⟩) (ZU v) d);have z0:=(k.other (a:=⟨q,1,none⟩) (ZU v) d).frozen 1;have U:=u.frozen 1;have I:=X9 u;have e:max (c:Int) (v:Int)=((max c v:Nat):Int):=by omega
 rw[<-e];clear k u e;apply WH func214;go_wp2;refine WB rfl rfl ⟨rfl,?_⟩;first|rfl|simp
theorem Yu.madeW{m:Nat}{ad:Int->Nat}{w w'}{F:Fp}{b:Nat}{f:Jc}(h:Yu m ad w F b f){x:Jh}(k:x∈f.all)(v:Nat)
  (E:w'=(w.setCell ⟨ad x.id,1,none⟩ (ZU v)).setCell ⟨b,1,none⟩ (ZU ((max f.mark v:Nat):Int))):Yu m ad w' (Qn F w w') b (f.made x v)/\Qc F w w':=by
 subst E;obtain⟨p,H,d,_,B⟩:=h.memB k;obtain⟨c,q⟩:=h.memC' (x':={x with v:=v}) k rfl rfl d ((Zg _ w).setCell (a:=⟨ad x.id,1,none⟩) (ZU v) (.inl rfl)) (d.set' 1 _ rfl);obtain⟨z,u⟩:=c.marked (n:=max f.mark v) ((Zg _ _).setCell (a:=⟨b,1,none⟩) (ZU ((max f.mark v:Nat):Int)) (.inl rfl)) (c.blk.set' 1 _ rfl);exact(Yu.obj m ad).two z ((Yu.obj m ad).bd h) q u
theorem Qb4{m:Nat}{ad:Int->Nat}{w}{F:Fp}{b:Nat}{f:Jc}(h:Yu m ad w F b f){x:Jh}(d:x∈f.all)(v:Nat):
  ZW 214 #[ptr b,ptr (ad x.id),ZU v] w (.tuple #[]) λw'=>Yu m ad w' (Qn F w w') b (f.made x v)/\Qc F w w':=by
 obtain⟨p,H,k,_,c⟩:=h.memB d;apply Zz (Qmv h.blk k c v);intro w1 q;exact⟨rfl,h.madeW d v q⟩
theorem Qmu{w}{F:Fp}{b:Nat}{f:Jc}(h:J0 w F b f)(hN:∀x∈f.all,x.total<=Xw/\x.run.l.length<1099511627776)(i:Int)(g:Nat)(hg:g<18446744073709551616):
  ZW 157 #[ptr b,ZI i,ZU g] w (.tuple #[]) λw'=>J0 w' (Qn F w w') b (f.gain i g)/\Qc F w w':=by
 obtain⟨m,ad,I⟩:=h.addr;have E:=O (I.at_any i);unfold Jc.gain;unfold Qk3 at E;cases hx:f.at i with
 |none=> have c:=O (I.same (Zg Qb w));rw[hx]at E;dsimp only[atP]at E|-;clear h I hx hN;apply WH func157;go_wp2_with fail;apply Zy E;rintro w1 rfl;go_wp2;refine WA rfl rfl ⟨rfl,c.o.1.is,c.o.2⟩
 |some x=>
  obtain⟨Z,rfl⟩:=Jc.aE hx;obtain⟨K,ab⟩:=hN x Z;obtain⟨p,H,z,_,ae⟩:=I.memB Z;obtain⟨T,hT⟩:=Zx (x.total+min g (Xw-x.total));have aa:T<=Xw:=by omega
  have e1:IntKind.u64.wrap (4611686018427387904-(x.total:Int))=((Xw-x.total:Nat):Int):=by rw[IntWalk.u64_in _ (by have:=Yz;omega)];have:=Yz;omega
  have e2:min (g:Int) ((Xw-x.total:Nat):Int)=((min g (Xw-x.total):Nat):Int):=by omega
  have e3:IntKind.u64.wrap ((x.total:Int)+((min g (Xw-x.total):Nat):Int))=(T:Int):=by rw[IntWalk.u64_in _ (by have:=Yz;omega)];omega
  have HM:=O z;obtain⟨W,V⟩:=Zx ((w.setCell ⟨ad x.id,0,none⟩ (ZU T)).drew);have U:Hi (Yu m ad W (Qn F w W) b (f.set {x with total:=T})/\Qc F w W):=O (by
   rw[V];exact I.memC' (x':={x with total:=T}) Z rfl rfl z ((Zg (λk=>k=ad x.id) w).setCell (a:=⟨ad x.id,0,none⟩) (ZU T) (.inl rfl)).drew (z.set' 0 _ rfl).drew)
  have BW:Hi (Qh W (ad x.id) (Pp {x with total:=T} p) 255):=O (by rw[V];exact(z.set' 0 _ rfl).drew);have SS:=O (f.set_set (a:={x with total:=T}) (b:={{x with total:=T}with v:=x.run.reach T}) rfl);have MM:=O (Jc.mem_set (a:={x with total:=T}) Z rfl);have af:=O ((Yu.obj m ad).bd I);rw[hx]at E;dsimp only[atP]at E|-;rw[<-hT];rcases Bool.eq_false_or_eq_true x.aL with d|d
  rotate_left
  .rw[if_neg (by rw[d];decide)];obtain⟨a0,a1,a2,a3⟩:=X9 z.drew;have z0:=z.drew.frozen 0;obtain⟨d0,d1,d2,d3⟩:=X9 BW.o;simp only[d]at a3 d3;have c:=O U.o;generalize Xw-x.total=u at e1 e2 e3;generalize min g u=u2 at e2 e3;clear h I hx z Z K hT aa hN d ae;apply WH func157;go_wp2_with fail;apply Zy E;rintro w1 rfl;go_wp2_with fail;apply XB 200000000000000;apply YI 0;rw[<-V];clear a0 a1 a2 a3 z0 V;go_wp2_with fail;refine WB rfl rfl ⟨rfl,c.o.1.is,c.o.2⟩
  .rw[if_pos d];obtain⟨a0,a1,a2,a3⟩:=X9 z.drew;have z0:=z.drew.frozen 0;obtain⟨q,G,R,J,_⟩:=U.o.1.memR MM.o;obtain⟨_,_,_,d3⟩:=X9 R;have g0:=X9 R.drew;have HR:=O (λw'(hc:Qc Qb W w')=>Ru (runP.aB J hc (Jl.none G)) ab T (by have:=Yz;omega));have c:Hi (∀w2,Qc Qb W w2->∀w3,Yu m ad w3 (Qn (Qn (Qn F w W) W w2) w2 w3) b ((f.set {x with total:=T}).made {x with total:=T} (x.run.reach T))->Qc (Qn (Qn F w W) W w2) w2 w3->J0 w3 (Qn F w w3) b (f.made {x with total:=T} (x.run.reach T))/\Qc F w w3):=O (by
    intro w2 B w3 h3 c3;obtain⟨s1,s2⟩:=U.o.1.same B;obtain⟨t1,t2⟩:=(Yu.obj m ad).two h3 ((Yu.obj m ad).bd U.o.1) s2 c3;obtain⟨u1,u2⟩:=(Yu.obj m ad).two t1 af.o U.o.2 t2;have e:(f.set {x with total:=T}).made {x with total:=T} (x.run.reach T)=f.made {x with total:=T} (x.run.reach T):=by unfold Jc.made;rw[SS.o];rfl
    rw[e]at u1;exact⟨u1.is,u2⟩)
   have ag:Hi (∀w2,Qc Qb W w2->Yu m ad w2 (Qn (Qn F w W) W w2) b (f.set {x with total:=T})):=O (λw2 B=>(U.o.1.same B).1);simp only[d]at a3 d3;generalize hv:x.run.reach T=v at HR c|-;generalize Xw-x.total=u at e1 e2 e3;generalize min g u=u2 at e2 e3;clear h I hx z Z K hT aa hN d ae R J hv;apply WH func157;go_wp2_with fail;apply Zy E;rintro w1 rfl;go_wp2_with fail;apply XB 200000000000000;apply YI 0;rw[<-V];clear a0 a1 a2 a3 z0 V;go_wp2_with fail;apply XB 220000000011;apply YA 0;clear d3 g0;go_wp2_with fail;apply Zz (HR.o _ (Zg _ W).drew);intro w2 B;replace B:=B.aT;have ac:=ag.o _ B;have C2:=O B;clear B;go_wp2_with fail;refine J7 ?_;go_wp2_with fail;apply Z9 (Qb4 ac (x:={x with total:=T}) MM.o v) (λ_ ⟨h3,c3⟩=>c.o _ C2.o _ h3 c3);intro w3 FF;clear ac;go_wp2_with fail;refine Jo ?_;go_wp2_with fail;refine WB rfl rfl ⟨rfl,FF.o⟩
end
section
theorem Wk(m:Nat)(w):(binOp .eql 243 (.map (some m)) (.map none)).run prog w=.ok (.bool false) w:=by kernel_rfl
attribute [local go_sem] Wk
theorem Yu.ne{m:Nat}{ad:Int->Nat}{w}{F:Fp}{b:Nat}{f:Jc}(h:Yu m ad w F b f):b≠m:=by obtain⟨l,B,z,G,H,c,⟨_,u,_,q,_,_,k,_⟩,d,_⟩:=h;rintro rfl;exact d _ c.2.1 (k _ q.at_)
theorem Qeh{w}{F:Fp}{b:Nat}{f:Jc}(h:J0 w F b f)(i:Int)(c:Jy)(hc:c.May):
  Cl 169 #[ptr b,ZI i,cV c] w λe w'=>(∃r,e=.returned (.bool r))/\J0 w' (Qn F w w') b (f.add i c)/\Qc F w w':=by
 obtain⟨W,E⟩:=Zx (w.alloc (.cells #[ZU c.f,ZU c.l,ZU c.r] 27));have C0:Hi (Qc Qb w W):=O (by rw[E];exact(Zg _ _).alloc _);have B0:Hi (Qh W w.heap.size #[ZU c.f,ZU c.l,ZU c.r] 27):=O (by rw[E];exact Qh.new _ _ _);obtain⟨m,ad,R⟩:=h.addr;obtain⟨hA,ag⟩:=R.same C0.o;have al:=O (J0.obj.bd h);have K:=O (hA.at_any i);have HM:=O (λw=>K8 c w);rw[decide_eq_true hc]at HM;unfold Jc.add;unfold Qk3 at K;cases hx:f.at i with
 |some x=> have J:=O hA;have q:=hA.blk;rw[E]at q;obtain⟨a0,a1⟩:=Q4 q;clear q;rw[hx]at K;dsimp only[atP]at K|-;unfold ptr cV at*;clear h hA hx R ag;apply WH func169;go_wp2_with fail;rw[<-E]at a0 a1|-;clear E;apply Zy K;rintro w1 rfl;go_wp2;go_ret;exact⟨⟨_,rfl⟩,J.o.is,C0.o.none⟩
 |none=>
  have HN:=O (λw=>Cv c hc w);have an:=O hA.ne;obtain⟨l,hp,hs⟩:=hA;obtain⟨G0,hB,_⟩:=J6 (Yc b m f.mark ad l) 0 rfl hs;obtain⟨G,U,hG,ae,I⟩:=Xv 1 (Yc b m f.mark ad l) rfl hs;have hB:=hB.1;have BB:=O hB;have ao:=O U;have ai:Hn Jh.id i l=none:=by rw[<-Jc.at_eq hp U.nodup];exact hx
  have q:=hB;rw[E]at q;obtain⟨a0,a1⟩:=Q4 q;clear q;have J:Hi (∀w3 p H,Yv w3 H p (.new c)->(∀k,H k->W.heap.size<=k)->Qc Qb W w3->∀w4,w4=w3.alloc (.cells #[ZU 0,ZU 0,ptr p,.bool false] 255)->∃d,(Instr.mapUpdate 243 (.map (some m)) (ZI i) (ptr w3.heap.size)).run prog w4=.ok () d/\J0 d (Qn F w d) b ⟨f.all++[(⟨i,0,0,.new c,false⟩:Jh)],f.mark⟩/\Qc F w d/\Qc (λk=>k=m) w4 d):=O (by
   rintro w3 p H hR hH Z w4 rfl;have ac:Qc Qb w3 (w3.alloc (.cells #[ZU 0,ZU 0,ptr p,.bool false] 255)):=(Zg _ _).alloc _;have c4:=Z.aA ac;obtain⟨d,aj,B,c5⟩:=X6 (P:=prog) (U.map.aB c4 (λh=>h)) underlying243 underlying3 i (ptr w3.heap.size);have Xg:W.heap.size<=w3.heap.size:=Z.size;have hX:Vj (w3.alloc (.cells #[ZU 0,ZU 0,ptr p,.bool false] 255)) (Qn Qb W (w3.alloc (.cells #[ZU 0,ZU 0,ptr p,.bool false] 255))) w3.heap.size (⟨i,0,0,.new c,false⟩:Jh):=
    O1.new (p:=p) (G:=H) (runP.aB hR ac (Jl.none _)) hH runP (Qh.new _ _ _) Xg (λu=>absurd (runP.bd hR _ u) (by omega))
   have am:=U.aB Vj.obj c4 (Jl.none G);have V:=am.put Vj.obj hX (λk a b=>by
    have:=ae k (hG k b);rcases(Qr k).1 a with⟨q,_⟩;omega) (key:=Jh.id) ai B c5
   have cG:Qc G W d:=(c4.none (F:=G)).aA (c5.sub λk u=>u▸U.at_);have h5:=I d (λw G=>Yn Jh.id Vj w G m (λj=>if j=i then w3.heap.size else ad j) (l++[(⟨i,0,0,.new c,false⟩:Jh)])) cG
    (V.more (λk u=>u.elim .inl (λu=>.inr ⟨((Qr k).1 u).1,Nat.lt_of_lt_of_le ((Qr k).1 u).2 c5.size⟩)) (U.bd.ext cG))
   have cF:Qc (Qn F w W) W d:=cG.sub hG;obtain⟨r1,r2⟩:=J0.obj.two (F:=F) (w:=w) (w1:=W) (w2:=d) (b:=b) (z:=⟨f.all++[(⟨i,0,0,.new c,false⟩:Jh)],f.mark⟩) ⟨m,(λj=>if j=i then w3.heap.size else ad j),l++[(⟨i,0,0,.new c,false⟩:Jh)],hp.append_right _,h5⟩ al.o C0.o.none cF;exact⟨d,aj,r1,r2,c5⟩)
  rw[hx]at K;dsimp only[atP]at K|-;unfold ptr cV at*;clear h hx hs I hG ae U hp R ag ai hB;apply WH func169;go_wp2_with fail;rw[<-E]at a0 a1|-;clear E;apply Zy K;rintro w1 rfl;obtain⟨b0,b1,b2⟩:=L6 B0.o;go_wp2_with fail;apply Zz (HM.o _);intro w2 c2;have C2:=O c2;obtain⟨d0,d1,d2⟩:=L6 (c2.blk B0.o (λh=>h)).drew;clear c2 a0 a1 b0 b1 b2;go_wp2_with fail;have B2:=O (C2.o.blk BB.o (λh=>h));apply XC 3202011111 (λk=>k=m) w2;iterate 5 (apply YK λ_ hv=>Q4 (hv.blk B2.o an.o))
  apply YA 0;clear d0 d1 d2;go_wp2_with fail;refine(HN.o _).mono ?_;rintro e w3⟨p,rfl,hR,Z⟩;have aa:=O (Z.aT.none (F:=λk=>k=m));have C3:=O (C2.o.aA Z.aT);have HR:=O hR;have ak:=O (λk(u:Qn Qb w2.drew w3 k)=>show W.heap.size<=k from Zp C2.o.size ((Qr k).1 u).1);have ab:=O (J.o w3 p _ hR ak.o C3.o _ rfl);clear Z hR;go_wp2_with fail;refine⟨aa.o,?_⟩;apply YA 0;go_wp2_with fail;refine⟨aa.o.alloc _,?_⟩;obtain⟨d,ap,ah,af,B⟩:=ab.o;have F5:=O ah;have C5:=O af;have M5:=O B;clear ah af B;apply YI 0;go_wp2;go_ret;exact⟨⟨_,rfl⟩,F5.o,C5.o⟩
end
section
open Go.Shelf
attribute [local go_sem] Oper.semAt_some
theorem Le.far{T S:Fp}{W w1 w2}(h:Le T W w1)(z:Qc S w1 w2)(q:∀k,S k->W.heap.size<=k):Le T W w2:=λb o u c d=>by have Xg:=(Z2.1 c).1;exact z.heap (h b o u c d) (λB=>by have:=q b B;omega)
theorem Kj.kpt{T:Fp}{w w'}{b r:Nat}{l left:List (Int×Value)}(h:Kj w b r l left)(k:Le T w w')(R:T b)(U:T r):Kj w' b r l left:=by obtain⟨q,c,d,u,z,B,E,I,J,K⟩:=h;exact⟨q,c,d,k b _ R u (.inr rfl),z,B,E,I,k r _ U J (.inr rfl),K⟩
theorem O8{X:Type}{key:X->Int}{x:X}:∀{l:List X},(l.map key).Nodup->x∈l->l.Perm (x::Kp key (key x) l)
 |y::l,hn,c=>by
  simp only[List.map_cons,List.nodup_cons]at hn;rcases Zu.1 c with rfl|c
  .have:Kp key (key x) (x::l)=l:=by unfold Kp;rw[List.filter_cons_of_neg (by simp)];refine List.filter_eq_self.2 λz k=>?_;have:key z≠key x:=λe=>hn.1 (Z3.2 ⟨z,k,e⟩);simpa using this
   rw[this]
  .have d:key y≠key x:=λe=>hn.1 (Z3.2 ⟨x,c,e.symm⟩);have:Kp key (key x) (y::l)=y::Kp key (key x) l:=by unfold Kp;rw[List.filter_cons_of_pos (by simpa using d)]
   rw[this];exact((O8 hn.2 c).cons y).trans (.swap x y _)
theorem Hr{X:Type}{key:X->Int}{ad:Int->Nat}(i:Int)(l:List X):Vu i (Xy key ad l)=Xy key ad (Kp key i l):=by simp only[Xy,Kp,Vu,List.filter_map];rfl
def Qt1(ad:Int->Nat){l:List Jh}(x:{x:Jh//x∈l}):Array Value:=#[ZI x.1.id,ptr (ad x.1.id)]
structure Ah(w:World)(b m:Nat)(ad:Int->Nat)(pr:Int->Nat)(l:List Jh)(mark:Nat):Prop where
 blk:Qh w b #[.map (some m),ZU mark] 245
 map:Xq w m (Xy Jh.id ad l)
 mem:∀x∈l,Qh w (ad x.id) (Pp x (pr x.id)) 255
theorem Ah.aB{S:Fp}{w w'}{b m:Nat}{ad pr:Int->Nat}{l:List Jh}{c:Nat}(h:Ah w b m ad pr l c)(d:Qc S w w')(q:¬S b)(u:¬S m)(ha:∀x∈l,¬S (ad x.id)):Ah w' b m ad pr l c where
 blk:=d.blk h.blk q
 map:=h.map.aB d u
 mem:=λx k=>d.blk (h.mem x k) (ha x k)
def Dq(w:World)(r:Nat):Nat:=match w.heap[r]? with
 |some (.mapIter (some b) _ seen _)=>(match w.heap[b]? with
  |some (.map es _)=>(leftOf es seen).size
  |_=>0)
 |_=>0
theorem Kj.left_eq{w}{b r:Nat}{l left:List (Int×Value)}(h:Kj w b r l left):Dq w r=left.length:=by
 obtain⟨k,d,c,q,B,E,I,J,u,K,z,R⟩:=h;have:(leftOf k c).size=left.length:=by simpa using congrArg List.length z
 simp[Dq,u,q,this]
theorem Qc.grownRow{w w'}{r:Nat}(h:Qc (λk=>k=r) w w'):w.grownBy w' (some r):=⟨h.os,h.tape,h.output,h.size,λk d c=>h.block k d (λe=>c (by rw[e]))⟩
theorem Qhf(w:World)(o:Obj):w.grownBy (w.alloc o) none:=⟨rfl,rfl,rfl,by simp,λk c _=>Below.heap_alloc _ _ _ c⟩
theorem Kj.walk{w}{b r:Nat}{l left:List (Int×Value)}(h:Kj w b r l left):∃o:Obj,w.heap[r]? =some o/\o.isWalk=true:=by obtain⟨q,c,d,u,z,B,E,I,k,_⟩:=h;exact⟨_,k,rfl⟩
theorem Qu8(n l' Bf b m ap:Nat)(hn:1<=n)(T:Fp)(ad pr:Int->Nat)(l:List Jh)(an:(l.map Jh.id).Nodup)(J Jx:List {x:Jh//x∈l}->World->Prop)(W:World)
  (hJ:AbidesFrom W.heap.size J) (hB:Qh W Bf #[ptr b] 145) (hV:Ah W b m ad pr l ap)
  (ax:T Bf) (aw:T b) (ak:T m) (aj:∀x∈l,T (ad x.id)) (al:∀k,W.heap.size<=k->T k)
  (hY:∀c x W1,J c W1->c.length<l.length->YieldAt Fence.wide (n-1) prog l' (Qt1 ad x) W1 λe W'=>
   (e=.returned (.bool true)/\J (c++[x]) W'/\Le T W1 W')\/(e=.returned (.bool false)/\Jx (c++[x]) W')) (h0:J [] W):
  CallsIn Fence.wide n prog 266 #[.func (.yield l') #[] #[],ZP Bf] W λe W'=>(∃v,e=.returned v)/\
   ((∃ys,(ys.map (·.1)).Perm (l.filter (·.aL))/\J ys W')\/(∃c,True/\Jx c W')):=by
 obtain⟨o,a2,B⟩:=Er (P:=prog) hV.map underlying243;have c0:=Jf hB;have c1:=Q4 hV.blk;have ah:Hi (∃q c,Kj (W.alloc o) m W.heap.size (Xy Jh.id ad l) (Xy Jh.id ad q)/\q.Sublist l/\(c.map (·.1)++q.filter (·.aL)).Perm (l.filter (·.aL))/\c.length+q.length<=l.length/\J c (W.alloc o)/\Le T W (W.alloc o)):=
  O ⟨l,[],B,List.Sublist.refl _,List.Perm.refl _,by simp,hJ _ _ _ none h0 (Qhf W o) (λr e=>by cases e),Le.far (λb o _ h _=>h:Le T W W) ((Zg Qb W).alloc o) (λ_ h=>h.elim)⟩
 have HV:=O hV;have HJ:=O hJ;have HY:=O hY;have av:=O aj;have HT:=O (Zt ak al);clear hB hV hJ hY B h0 ax aw ak aj al;refine callsIn_of_wp func266 rfl trivial ?_ rfl;simp only[ntmps266,List.size_toArray,Zm,List.length_nil,Nat.reduceAdd,Nat.reduceSub,Array.replicate_succ,Array.replicate_zero,List.push_toArray,List.append_toArray,List.nil_append,List.cons_append];gi_wp2;gi_loopw [3,4] (λ_ _ wr=>∃q c,Kj wr m W.heap.size (Xy Jh.id ad l) (Xy Jh.id ad q)/\q.Sublist l/\(c.map (·.1)++q.filter (·.aL)).Perm (l.filter (·.aL))/\c.length+q.length<=l.length/\J c wr/\Le T W wr) (λ_ _ wr=>Dq wr W.heap.size);case atStart=>exact ah.o
 case round=>
  obtain⟨q,c,B,z,d,V,hj,hk⟩:=hrel;rcases Rx (P:=prog) B 0 with⟨h0,hr⟩|⟨p,hp,w2,hr,u,aa,am⟩
  .have az:q=[]:=by
    cases q with
    |nil=>rfl
    |cons a l=>cases h0
   subst az;have ar:=O (show(c.map (·.1)).Perm (l.filter (·.aL)) by simpa using d);have au:=O hj;clear B z d V hj hk;gi_wp2;go_end0;exact⟨⟨_,rfl⟩,.inl ⟨c,ar.o,au.o⟩⟩
  .obtain⟨x,hx,rfl⟩:=Z3.1 hp;have I:=z.subset hx;have R:Le T W w2:=Le.far hk aa (λk e=>by rw[e];exact Zv _);have ab:J c w2:=HJ.o c wr w2 (some W.heap.size) hj aa.grownRow (λr e=>by cases e;exact⟨Zv _,B.walk⟩);have hM:Qh w2 (ad x.id) (Pp x (pr x.id)) 255:=R.blk (HV.o.mem x I) (av.o x I);obtain⟨d0,d1,d2,d3⟩:=X9 hM;have Xg:Dq w2 W.heap.size<Dq wr W.heap.size:=by rw[u.left_eq,B.left_eq,Hr];have:=(O8 (key:=Jh.id) (an.sublist (z.map _)) hx).length_eq;simp only[Xy,List.length_map,Zm]at*;omega
   dsimp only at u;rw[Hr]at u;have K:=O8 (key:=Jh.id) (an.sublist (z.map _)) hx;have E:(Kp Jh.id x.id q).Sublist l:=List.filter_sublist.trans z;dsimp only at hr am;unfold ptr at hr am;cases ac:x.aL with
   |false=>
    rw[ac]at d3;have ag:Hi (∃q c,Kj w2 m W.heap.size (Xy Jh.id ad l) (Xy Jh.id ad q)/\q.Sublist l/\(c.map (·.1)++q.filter (·.aL)).Perm (l.filter (·.aL))/\c.length+q.length<=l.length/\J c w2/\Le T W w2):=O (by
     refine⟨Kp Jh.id x.id q,c,u,E,?_,?_,ab,R⟩;·refine(List.Perm.append_left (c.map (·.1)) ?_).trans d;have:=(K.filter (·.aL)).symm;rwa[List.filter_cons_of_neg (by rw[ac];decide)]at this
     .have:=K.length_eq;simp at this;omega)
    have LT:=O Xg;clear B z d V hj hk u aa R ab hM Xg K E hx I hp;gi_wp2;refine⟨λ_ h=>(by cases h),?_⟩;gi_wp2;go_roundw;case rel=>exact ag.o
    case measure=>exact LT.o
   |true=>
    rw[ac]at d3;have ao:c.length<l.length:=by have:=List.length_pos_of_mem hx;omega
    obtain⟨fn,a1,aq,a0,hy,hR⟩:=HY.o c ⟨x,I⟩ w2 ab ao;have HR:=O hR;have ag:Hi (∀Z,J (c++[⟨x,I⟩]) Z->Le T w2 Z->(∃q c,Kj Z m W.heap.size (Xy Jh.id ad l) (Xy Jh.id ad q)/\q.Sublist l/\(c.map (·.1)++q.filter (·.aL)).Perm (l.filter (·.aL))/\c.length+q.length<=l.length/\J c Z/\Le T W Z)/\Dq Z W.heap.size<Dq wr W.heap.size):=O (by
     intro Z ay U;have af:=u.kpt U HT.o.1 (HT.o.2 _ (Zv _));refine⟨⟨Kp Jh.id x.id q,c++[⟨x,I⟩],af,E,?_,?_,ay,R.trans U⟩,?_⟩
     .have e:(c++[(⟨x,I⟩:{x:Jh//x∈l})]).map (·.1)++(Kp Jh.id x.id q).filter (·.aL)=c.map (·.1)++(x::(Kp Jh.id x.id q).filter (·.aL)):=by simp
      rw[e];refine(List.Perm.append_left (c.map (·.1)) ?_).trans d;have:=(K.filter (·.aL)).symm;rwa[List.filter_cons_of_pos (by rw[ac])]at this
     .have:=K.length_eq;simp at this|-;omega
     .rw[af.left_eq,<-u.left_eq];exact Xg)
    unfold Qt1 ptr at hy;clear B z d V hj hk u aa R ab hM Xg K E hx hp hR ao;gi_wp2;refine HR.o.mono ?_;clear hy;rintro e Z(⟨rfl,ai,U⟩|⟨rfl,ae⟩)
    .have R3:=O (ag.o Z ai U);clear ai U;gi_wp2;go_roundw;case rel=>exact R3.o.1
     case measure=>exact R3.o.2
    .have X3:=O ae;clear ae;gi_wp2;refine WA rfl rfl ?_;exact⟨⟨_,rfl⟩,.inr ⟨_,trivial,X3.o⟩⟩
theorem Qs0(n d b m c:Nat)(hn:1<=n)(T:Fp)(ad pr:Int->Nat)(l:List Jh)(K:(l.map Jh.id).Nodup)(w)(V:Qh w d #[ptr b] 145)(hV:Ah w b m ad pr l c)
  (z:T d) (u:T b) (B:T m) (q:∀x∈l,T (ad x.id)) (E:∀k,w.heap.size<=k->T k):
  SeqStopsK Fence.wide n prog 266 #[ZP d] (Qt1 ad (l:=l)) (Le T) (λys=>(ys.map (·.1)).Perm (l.filter (·.aL))) (λ_=>True) l.length w:=λl' J R W I Z _ hY U=>
 Qu8 n l' d b m c hn T ad pr l K J R W Z ((Qc.ofBelow (S:=Qb) I).blk V (λh=>h)) (hV.aB (Qc.ofBelow (S:=Qb) I) (λh=>h) (λh=>h) (λ_ _ h=>h)) z u B q (λk hk=>E k (Zp I.size hk)) hY U
theorem Qs1(b:Nat)(w):ZW 255 #[ptr b] w (.func (.func 266) #[] #[ZP w.heap.size]) λw'=>w'=w.alloc (.cells #[ptr b] 145):=by unfold ptr;apply WH func255;exact WE
end
section
open Go.Shelf
attribute [local go_sem] Oper.semAt_some
attribute [local go_sem ↓] X8 Yd
attribute [local irreducible] Uo
theorem Yu.view{m:Nat}{ad:Int->Nat}{w}{F:Fp}{b:Nat}{f:Jc}(h:Yu m ad w F b f):∃pr l,l.Perm f.all/\(l.map Jh.id).Nodup/\Ah w b m ad pr l f.mark:=by
 obtain⟨l,B,I,G,d⟩:=h.coll;have H:∀i:Int,∃p,∀x∈l,x.id=i->Qh w (ad x.id) (Pp x p) 255:=λi=>by
  by_cases k:∃x∈l,x.id=i;·obtain⟨x,c,k⟩:=k;obtain⟨p,_,J,_⟩:=h.memB (B.mem_iff.1 c);refine⟨p,λy K u=>?_⟩;have E:=Ls d.nodup c k;have z:=Ls d.nodup K u;rw[E]at z;obtain rfl:=Zs z;exact J
  .exact⟨0,λx c e=>(k ⟨x,c,e⟩).elim⟩
 obtain⟨pr,q⟩:=Classical.axiomOfChoice H;exact⟨pr,l,B,d.nodup,I,d.map,λx c=>q _ x c rfl⟩
def Ou(l:List Jh):Nat:=l.foldl (λn m=>min n m.v) Qq
def Ln(l:List Jh):Nat:=l.foldl (λn m=>max n m.v) 0
theorem Qhn(l:List Jh)(x:Jh):Ou (l++[x])=min (Ou l) x.v:=by simp[Ou]
theorem Qk7(l:List Jh)(x:Jh):Ln (l++[x])=max (Ln l) x.v:=by simp[Ln]
theorem F7{l c:List Jh}(h:l.Perm c):Ou l=Ou c:=by unfold Ou;exact h.foldl_eq' (λx _ y _ z=>by omega) _
theorem Qar{l c:List Jh}(h:l.Perm c):Ln l=Ln c:=by unfold Ln;exact h.foldl_eq' (λx _ y _ z=>by omega) _
theorem Cg:∀l:List Jh,Ou l<=Qq:=by
 have:∀(l:List Jh)(a:Nat),a<=Qq->l.foldl (λn m=>min n m.v) a<=Qq:=by
  intro l;induction l with
  |nil=>exact λa h=>h
  |cons x l c=>exact λa h=>c _ (Zp (Nat.min_le_left _ _) h)
 exact λl=>this l _ (Zv _)
theorem Qaq:∀l:List Jh,(∀x∈l,x.v<=Qq)->Ln l<=Qq:=by
 have:∀(l:List Jh)(a:Nat),a<=Qq->(∀x∈l,x.v<=Qq)->l.foldl (λn m=>max n m.v) a<=Qq:=by
  intro l;induction l with
  |nil=>exact λa h _=>h
  |cons x l k=>exact λa h c=>k _ (Nat.max_le.2 ⟨h,c x (by simp)⟩) (λy d=>c y (by simp[d]))
 exact λl h=>this l 0 (Nat.zero_le _) h
def R7(l:List Jh)(c v:Nat):Nat:=if Ln l<Ou l then max v c else max v (Ou l+(Ln l-Ou l)/2)
theorem Qst{f:Jc}{l:List Jh}(c:l.Perm (f.all.filter (·.aL)))(x:Jh):f.start x=R7 l f.mark x.v:=by unfold Jc.start R7;have d:f.least=Ou l:=F7 c.symm;have k:f.most=Ln l:=Qar c.symm;rw[d,k]
theorem Qpa{w}{s t:Nat}{a z v:Nat}(B:Qh w s #[ZU a] 22)(K:Qh w t #[ZU z] 22)(q:s≠t):
  ZW 254 #[ZU v,ZP s,ZP t] w (.tuple #[]) λw'=>Qh w' s #[ZU ((min a v:Nat):Int)] 22/\Qh w' t #[ZU ((max z v:Nat):Int)] 22/\Qc (λk=>k=s\/k=t) w w':=by
 have V:=O B;have u:=O K;have e1:min (a:Int) (v:Int)=((min a v:Nat):Int):=by omega
 have e2:max (z:Int) (v:Int)=((max z v:Nat):Int):=by omega
 have a0:=Jf B.drew;have z1:=B.drew.frozen 0;have d:=O q;clear B K q;apply WH func254;go_wp2_with fail;apply XC 32111000 (λk=>k=s) w;iterate 3 (refine Xe (h:=?_))
 iterate 3 (apply YK λ_ Z=>Jf (Z.blk u.o d.o.symm))
 refine Yb ?_;go_wp2_with fail;refine⟨by exact Z0,?_⟩;have J:=((u.o).other (a:=⟨s,0,none⟩) (ZU ((min a v:Nat):Int)) d.o).drew;have I:=(V.o.set' 0 (ZU ((min a v:Nat):Int)) rfl).drew;have y3:=(u.o.other (a:=⟨s,0,none⟩) (ZU ((min a v:Nat):Int)) d.o).frozen 0;have y4:=Jf (u.o.other (a:=⟨s,0,none⟩) (ZU ((min a v:Nat):Int)) d.o);have E:=O (J.set' 0 (ZU ((max z v:Nat):Int)) rfl);have c:=O (I.other (a:=⟨t,0,none⟩) (ZU ((max z v:Nat):Int)) d.o.symm);have U:Hi (Qc (λk=>k=s\/k=t) w ((w.setCell ⟨s,0,none⟩ (ZU ((min a v:Nat):Int))).drew.setCell ⟨t,0,none⟩ (ZU ((max z v:Nat):Int)))):=O (((Zg _ w).setCell (a:=⟨s,0,none⟩) _ (.inl (.inl rfl))).drew.setCell (a:=⟨t,0,none⟩) _ (.inl (.inr rfl)));clear I J;apply YI 0;go_wp2_with fail;refine WB rfl rfl ⟨rfl,?_,?_,?_⟩;·exact c.o
 .exact E.o
 .exact U.o
theorem Qjj{w}{b m d:Nat}{ad pr:Int->Nat}{l:List Jh}(hV:Ah w b m ad pr l d)(ao:(l.map Jh.id).Nodup)(hb:∀y∈l,y.v<=Qq)(ax:d<=Qq){x:Jh}(hx:x∈l):
  ZW 230 #[ptr b,ptr (ad x.id)] w (ZU ((R7 (l.filter (·.aL)) d x.v:Nat):Int)) λw'=>Qc Qb w w':=by
 have HU:=O (Qs1 b);refine callsIn_wide (n:=9).1 ?_;unfold ptr at HU|-;refine callsIn_of_wp_marks func230 rfl trivial ?_;simp only[ntmps230,List.size_toArray,Zm,List.length_nil,Nat.reduceAdd,Nat.reduceSub,Array.replicate_succ,Array.replicate_zero,List.push_toArray,List.append_toArray,List.nil_append,List.cons_append];gi_wp2_with (refine⟨trivial,?_⟩;gi_at_call 255;refine(callsIn_wide.2 (HU.o _)).mono ?_;rintro e w1⟨rfl,rfl⟩);obtain⟨s,I⟩:=Zx (w.heap.size);obtain⟨J,q⟩:=Zx (((((w.alloc (.cells #[ZU 9223372036854775808] 22)).alloc (.cells #[ZU 0] 22)).alloc (.cells #[.func (.func 254) #[] #[ZP w.heap.size,ZP (w.heap.size+1)]] 91)).alloc (.cells #[ZP b] 145)));have C0:Hi (Qc Qb w J):=O (by rw[q];exact((((Zg _ _).alloc _).alloc _).alloc _).alloc _);have a2:J.heap.size=s+4:=by rw[q,I];simp
 have B5:Hi (Qh J s #[ZU ((Ou []:Nat):Int)] 22):=O (by rw[q,I];exact(((Qh.new' _ _ (by simp)).alloc _).alloc _).alloc _);have B6:Hi (Qh J (s+1) #[ZU ((Ln []:Nat):Int)] 22):=O (by rw[q,I];exact((Qh.new' _ _ (by simp)).alloc _).alloc _);have B7:Hi (Qh J (s+1+1) #[.func (.func 254) #[] #[ZP s,ZP (s+1)]] 91):=O (by rw[q,I];exact(Qh.new' _ _ (by simp)).alloc _);have B8:Hi (Qh J (s+1+1+1) #[ptr b] 145):=O (by rw[q,I];exact Qh.new' _ _ (by simp));have ai:Hi (Ah J b m ad pr l d):=O (hV.aB C0.o (λh=>h) (λh=>h) (λ_ _ h=>h));have aw:b<s:=I▸hV.blk.lt;have ay:m<s:=I▸hV.map.lt;have ak:∀y∈l,ad y.id<s:=λy hy=>I▸(hV.mem y hy).lt;rw[<-I]at q|-;rw[<-q];have ah:=O I;have HB:=O hb;have aj:=O hV;clear q I hb hV;refine wpIn_rangeFunc_ownH rfl (by decide) (gf:=266) (lb:=#[ZP (s+1+1+1)]) rfl trivial (enters_of func266 (by kernel_rfl) rfl)
  (Qs0 8 (s+1+1+1) b m d (by decide) (λk=>k≠s/\k≠s+1) ad pr l ao J B8.o ai.o ⟨by omega,by omega⟩ ⟨by omega,by omega⟩ ⟨by omega,by omega⟩ (λy hy=>by have:=ak y hy;exact⟨by omega,by omega⟩) (λk hk=>⟨by omega,by omega⟩))
  (λh k=>h.trans k) (λW l o o' h1 h2 h3 h4=>Le.put (w:=J) W l o o' h1 h2 h3 h4) (Below.refl _ _) (λ_=>rfl)
  (λaa W=>((Qh W s #[ZU ((Ou (aa.map (·.1)):Nat):Int)] 22/\Qh W (s+1) #[ZU ((Ln (aa.map (·.1)):Nat):Int)] 22)/\Qc (λk=>k=s\/k=s+1) J W))
  (λ_ _ _=>False)
  (OwnFrom.and (OwnFrom.and (Yx _ _ _ _) (Yx _ _ _ _)) (Dr (Zv _)))
  (λc=>λ_ _ _ _ h _ _=>h.elim)
  ⟨⟨B5.o,B6.o⟩,Zg _ _⟩
  (λy a' W=>a'={tmps:=#[ZP b,ZP (ad x.id),undef,undef,ZU 0,ZP s,ZP (s+1),ZP (s+1+1),undef,ptr (ad y.1.id),.func (.func 254) #[] #[ZP s,ZP (s+1)],ZP b,.func (.func 266) #[] #[ZP (s+1+1+1)],ZI y.1.id,ptr (ad y.1.id),undef,undef,undef,undef,undef,undef,undef,undef,undef,undef,undef,undef,undef,undef,undef,undef,undef,undef,undef,undef,undef,undef,undef,undef,undef,undef,undef,undef,undef],defers:=[]})
  (λy a' _ X Y a4 I hg hr=>I)
  ?assign ?body ?done (λ_ _ _ _ _ _ h _=>h.elim)
 case assign=> rintro l' aa y W K hI hK;dsimp only[Qt1];gi_wp2;exact hK _ _ ⟨Zv _,λk o _ h1 _=>h1⟩ (λ_ _ _ h _=>h) hI rfl
 case body=>
  rintro l' aa y a' W hl az⟨⟨U,V⟩,B⟩rfl Xg;obtain⟨y,hy⟩:=y;dsimp only;have HM:=O (Qpa (v:=y.v) U.drew V.drew (by omega));have ae:Qc (λk=>k=s\/k=s+1) J W.drew:=B.drew;have an:=ak y hy;have f0:=Jf (ae.blk B7.o (by omega));have d0:=X9 (ae.blk (ai.o.mem y hy) (by omega));have HC:=O B;have aq:=O U;have ar:=O V;clear U V B ae an;gi_wp2;have ap:prog.follows .mixedOrders=true:=by kernel_rfl
  gi_region_with_o (refine⟨trivial,?_⟩;refine(CallsIn.inRound l' (callsIn_wide.2 HM.o)).mono ?_;rintro e w2⟨rfl,n5,n6,c2⟩);all_goals
   have C2:=O c2.aT;have N5:=O n5;have N6:=O n6;clear f0 d0 c2 n5 n6;refine⟨Vg C2.o (λk hk=>by rcases hk with h|h<;>omega),Le.chg C2.o (λk h1 h2=>by rcases h2 with h|h<;>omega),⟨?_,?_⟩,HC.o.aA C2.o⟩;·rw[List.map_append,List.map_cons,List.map_nil,Qhn];exact N5.o
   .rw[List.map_append,List.map_cons,List.map_nil,Qk7];exact N6.o
 case done=>
  rintro D ys W hD hp⟨⟨U,V⟩,B⟩hK;have cw:Qc Qb w W:=C0.o.trans B (λk hk=>.inr (by rw[<-ah.o];rcases hk with h|h<;>omega));have Z:R7 (l.filter (·.aL)) d x.v=R7 (ys.map (·.1)) d x.v:=by unfold R7;rw[F7 hp,Qar hp]
  obtain⟨a3,R⟩:=Zx (R7 (l.filter (·.aL)) d x.v);rw[<-R]at Z;have ab:=O R;clear R;have ag:Ln (ys.map (·.1))<=Qq:=Qaq _ λz hz=>HB.o z ((List.mem_filter.1 (hp.mem_iff.1 hz)).1);have al:=HB.o x hx;have HX:=O (cw.blk (aj.o.mem x hx) (λh=>h));have am:=O (cw.blk aj.o.blk (λh=>h));have af:=Cg (ys.map (·.1));unfold R7 at Z;generalize Ou (ys.map (·.1))=u at U Z af;generalize Ln (ys.map (·.1))=E at V Z ag;have hN:Qq=9223372036854775808:=rfl;by_cases Xg:E<u
  .rw[if_pos Xg]at Z;have E0:=O Z;have d1:decide (E<u)=true:=by simpa using Xg
   have d2:(E:Int)<(u:Int):=by omega
   have em:max (x.v:Int) (d:Int)=((max x.v d:Nat):Int):=by omega
   have a0:=Jf U;have a1:=Jf V;have x0:=X9 HX.o.drew;have m0:=Q4 am.o.drew;have HK:=O hK;have CW:=O cw;have ac:w.heap.size<=D:=by have:=ah.o;omega
   clear Z U V B hp hK cw af ag al hN Xg;gi_wp2;refine Sc [(0,0),(0,1),(0,2),(0,3),(0,4),(0,5),(0,6),(0,7),(0,8),(2,9)] Zq (by kernel_rfl) ?_;simp only[Jk,Zf,Ze,Zd];iterate 9 (refine Et (h:=?_))
   refine Bl ?_;gi_wp2;refine Qnv ?_;gi_wp2;refine⟨by simp,.inl ⟨_,_,rfl,run_takeDeferred (show W.drew.heap[D]? =_ from HK.o),?_⟩⟩;refine⟨ZU ((max x.v d:Nat):Int),?_,by rw[<-ab.o,E0.o],Ud CW.o.drew ac (Z2.1 HK.o).1⟩;simp[results,Tryz.results230,go_sem]
  .rw[if_neg Xg]at Z;have E0:=O Z;have d1:decide (E<u)=false:=by simpa using Xg
   have d2:¬(E:Int)<(u:Int):=by omega
   have e1:IntKind.u64.wrap ((E:Int)-(u:Int))=((E-u:Nat):Int):=by rw[IntWalk.u64_in _ (by omega)];omega
   have e3:IntKind.u64.wrap (((E-u:Nat):Int)/2)=(((E-u)/2:Nat):Int):=by rw[IntWalk.u64_in _ (by omega)];omega
   have e2:IntKind.u64.wrap ((u:Int)+(((E-u)/2:Nat):Int))=((u+(E-u)/2:Nat):Int):=by rw[IntWalk.u64_in _ (by omega)];omega
   have em:max (x.v:Int) ((u+(E-u)/2:Nat):Int)=((max x.v (u+(E-u)/2):Nat):Int):=by omega
   have a0:=Jf U;have a1:=Jf V;have au:=Jf U.drew;have av:=Jf V.drew;have x0:=X9 HX.o.drew;have HK:=O hK;have CW:=O cw;have ac:w.heap.size<=D:=by have:=ah.o;omega
   clear Z U V B hp hK cw af ag al hN Xg;gi_wp2;refine Sc [(0,0),(0,1),(0,2),(0,3),(0,4),(0,5),(0,6),(0,7),(0,8),(0,9),(0,10),(2,11)] Zq (by kernel_rfl) ?_;simp only[Jk,Zf,Ze,Zd];generalize(E-u)/2=hf at e2 e3 em E0;generalize u+hf=lh at e2 em E0;iterate 11 (refine Et (h:=?_))
   refine Bl ?_;gi_wp2;refine Qnv ?_;gi_wp2;refine⟨by simp,.inl ⟨_,_,rfl,run_takeDeferred (show W.drew.heap[D]? =_ from HK.o),?_⟩⟩;refine⟨ZU ((max x.v lh:Nat):Int),?_,by rw[<-ab.o,E0.o],Ud CW.o.drew ac (Z2.1 HK.o).1⟩;simp[results,Tryz.results230,go_sem]
theorem Qji{m:Nat}{ad:Int->Nat}{w}{F:Fp}{b:Nat}{f:Jc}(h:Yu m ad w F b f)(u:∀y∈f.all,y.v<=Qq)(c:f.mark<=Qq){x:Jh}(z:x∈f.all):
  ZW 230 #[ptr b,ptr (ad x.id)] w (ZU ((f.start x:Nat):Int)) λw'=>Qc Qb w w':=by
 obtain⟨pr,l,k,d,q⟩:=h.view;rw[Qst (k.filter _) x];exact Qjj q d (λy B=>u y (k.mem_iff.1 B)) c (k.mem_iff.2 z)
end
theorem Jc.made_wake(f:Jc)(x:Jh)(v:Nat)(r:Xh):((f.made x v).set {{x with v:=v}with run:=r}).set {{{x with v:=v}with run:=r}with aL:=true}=f.made {x with run:=r,aL:=true} v:=by refine(Jc.set_set (f.made x v) (a:={{x with v:=v}with run:=r}) (b:={{{x with v:=v}with run:=r}with aL:=true}) rfl).trans ?_;have e:=f.set_set (a:={x with v:=v}) (b:={{{x with v:=v}with run:=r}with aL:=true}) rfl;unfold Jc.made;show(⟨((f.set {x with v:=v}).set {{{x with v:=v}with run:=r}with aL:=true}).all,max f.mark v⟩:Jc)=_;rw[e]
theorem Qmw{w}{F:Fp}{b:Nat}{f:Jc}(h:J0 w F b f)(hN:∀x∈f.all,x.total<=Xw/\x.run.l.length<549755813888/\x.v<=Qq)(K:f.mark<=Qq)(i:Int):
  ZW 175 #[ptr b,ZI i] w (.tuple #[]) λw'=>J0 w' (Qn F w w') b (f.wake i)/\Qc F w w':=by
 obtain⟨m,ad,I⟩:=h.addr;have R:=O (I.at_any i);unfold Jc.wake;unfold Qk3 at R;cases hx:f.at i with
 |none=> have c:=O (I.same (Zg Qb w));rw[hx]at R;dsimp only[atP]at R|-;clear h I hx hN K;apply WH func175;go_wp2_with fail;apply Zy R;rintro w1 rfl;go_wp2;refine WA rfl rfl ⟨rfl,c.o.1.is,c.o.2⟩
 |some x=>
  obtain⟨hm,rfl⟩:=Jc.aE hx;obtain⟨U,E,ak⟩:=hN x hm;obtain⟨p,H,hM,_,ah⟩:=I.memB hm;obtain⟨a0,a1,a2,a3⟩:=X9 hM;rw[hx]at R;dsimp only[atP]at R|-;rcases Bool.eq_false_or_eq_true x.aL with d|d;·rw[if_pos d];rw[d]at a3;have c:=O (I.same (Zg Qb w));clear h I hx hN K hM hm U E ak ah d;apply WH func175;go_wp2_with fail;apply Zy R;rintro w1 rfl;go_wp2;refine WA rfl rfl ⟨rfl,c.o.1.is,c.o.2⟩
  .rw[if_neg (by rw[d];decide)];rw[d]at a3;have HS:=O (Qji I (λy hy=>(hN y hy).2.2) K hm);have aj:f.start x<=Qq:=by unfold Jc.start;have h1:f.most<=Qq:=Qaq _ λz hz=>(hN z (List.mem_filter.1 hz).1).2.2;have h2:f.least<=Qq:=Cg _;split<;>omega
   generalize f.start x=v at HS aj|-;have am:Qq=9223372036854775808:=rfl;have hC:=Yz;have Z:=O ((Yu.obj m ad).bd I);have S1:Hi (∀w1,Qc Qb w w1->Yu m ad w1 (Qn F w w1) b f/\Qc F w w1):=O (λw1 c1=>I.same c1);have M2:=O (Jc.mem_set (a:={x with v:=v}) hm rfl);have an:({x with v:=v}:Jh)∈(f.made x v).all:=M2.o;have al:=O (λ(w)(F:Fp)(p:Nat)(h:Yv w F p x.run)=>Rv h E v x.total (by omega) (by omega));have HM:=O hm;have FE:=O (f.made_wake x v (x.run.start v x.total));clear h I hx hN K hM hm U E ak ah d aj am hC;apply WH func175;go_wp2_with fail;apply Zy R;rintro w1 rfl;go_wp2_with fail;apply Zy HS;intro w1 c1;obtain⟨h1,ae⟩:=S1.o _ c1;have B1:=O ((Yu.obj m ad).bd h1);have C1:=O ae;clear c1 ae a0 a1 a2 a3;go_wp2_with fail;apply Zz (Qb4 h1 HM.o v);rintro w2⟨h2,c2⟩;have C2:=O (C1.o.ext c2);have ab:Yu m ad w2 (Qn F w w2) b (f.made x v):=((Yu.obj m ad).two h2 Z.o C1.o c2).1;obtain⟨q,G,ag,B,V⟩:=ab.memR an;have a0:=X9 ag.drew;have HR:=O (al.o _ _ _ ((runP.aB B (Zg Qb w2).drew (Jl.none G))));have HP:=O V;have BG:=O (runP.bd B);have B2:=O ((Yu.obj m ad).bd ab);clear h1 h2 c2 ab ag B V;go_wp2_with fail;apply XB 2000000000000;apply YA 0;clear a0;go_wp2_with fail;apply Zy HR;rintro w3⟨ai,c3⟩;have aa:=c3.aT;obtain⟨h3,af⟩:=HP.o w3 _ (runP.more ai (λk hk=>hk.elim .inl (λhk=>.inr hk)) (BG.o.ext aa)) aa;have J:=((Yu.obj m ad).two h3 Z.o C2.o af);have ac:({{x with v:=v}with run:=x.run.start v x.total}:Jh)∈((f.made x v).set {{x with v:=v}with run:=x.run.start v x.total}).all:=Jc.mem_set (x:={x with v:=v}) M2.o rfl;obtain⟨q3,H3,u,_,_⟩:=J.1.memB ac;have a0:=X9 u;have z3:=u.frozen 3;have c:Hi (∀w4,w4=w3.setCell ⟨ad x.id,3,none⟩ (.bool true)->J0 w4 (Qn F w w4) b (f.made {x with run:=x.run.start v x.total,aL:=true} v)/\Qc F w w4):=O (by
    rintro w4 rfl;obtain⟨k1,k2⟩:=J.1.memC' (x':={{{x with v:=v}with run:=x.run.start v x.total}with aL:=true}) ac rfl rfl u ((Zg (λk=>k=ad x.id) w3).setCell (a:=⟨ad x.id,3,none⟩) (.bool true) (.inl rfl)) (u.set' 3 _ rfl);obtain⟨l1,l2⟩:=(Yu.obj m ad).two k1 Z.o J.2 k2;rw[FE.o]at l1;exact⟨l1.is,l2⟩)
   clear ai c3 aa h3 af J ac u;go_wp2_with fail;refine Jo ?_;go_wp2_with fail;refine WB rfl rfl ⟨rfl,c.o _ rfl⟩
section
open Go.Shelf
attribute [local go_sem] Oper.semAt_some
theorem Qqi(n l' V b:Nat)(T:Fp)(J K:List Xu->World->Prop)(W){t:Tr}{p:Value}{k:Int}(hB:Qh W V #[ptr b] 201)(U:Qh W b #[Dd,Vv,t.aH,ZI k] 269)(hA:Jw W t)(u:∀a∈t.aC,T a)
  (hJ:∀c W,J c W->J c W.drew)
  (hY:∀m c x R,J c R->c.length<t.flat.length->YieldAt Fence.wide m prog l' (Qof x) R λe d=>(e=.returned (.bool true)/\J (c++[x]) d/\Le T R d)\/(e=.returned (.bool false)/\K (c++[x]) d))(h0:J [] W):
  CallsIn Fence.wide n prog 233 #[.func (.yield l') #[] #[],ZP V] W λe d=>(∃v,e=.returned v)/\((∃B,B=t.flat/\J B d)\/(∃c,c<+:t.flat/\K c d)):=by
 have Z:=O (λn=>Wf (n:=n) hJ hY t);have c0:=Jf hB;obtain⟨c1,c2,c3,c4⟩:=X9 U;have I:=O (Zt hA (Zt u h0));have HN:=O (λW(h:Qgc W b)=>Od h);have q:Hi (Qgc W b):=O ⟨_,_,U⟩;obtain⟨pv,z⟩:=Zx (t.aH);rw[<-z]at c3 Z;clear z hB U hA u hJ hY h0;refine callsIn_of_wp func233 rfl trivial ?_ rfl;simp only[ntmps233,List.size_toArray,Zm,List.length_nil,Nat.reduceAdd,Nat.reduceSub,Array.replicate_succ,Array.replicate_zero,List.push_toArray,List.append_toArray,List.nil_append,List.cons_append];gi_wp2;refine⟨trivial,(λh=>by cases h),?_⟩;refine(callsIn_wide.2 (HN.o _ q.o)).mono ?_;rintro e w1⟨rfl,rfl⟩;gi_wp2;refine⟨trivial,(λh=>by cases h),?_⟩;refine(Z.o _ [] W I.o.1 I.o.2.1 I.o.2.2 (by simp)).mono ?_;rintro e w2⟨b2,rfl,k1,k2⟩;have E:Hi ((∃B,B=t.flat/\J B w2)\/(∃c,c<+:t.flat/\K c w2)):=O (by
  cases b2 with
  |true=>exact .inl ⟨_,rfl,by simpa using(k1 rfl).1⟩
  |false=>
   obtain⟨p,hp,hx⟩:=k2 rfl;exact .inr ⟨p,hp,by simpa using hx⟩)
 clear k1 k2;gi_wp2;refine WB rfl rfl ?_;exact⟨⟨_,rfl⟩,E.o⟩
theorem Qjc(n q b:Nat)(T:Fp)(w){t:Tr}{p:Value}{k:Int}(U:Qh w q #[ptr b] 201)(Z:Qh w b #[Dd,Vv,t.aH,ZI k] 269)(R:Jw w t)(u:∀a∈t.aC,T a):
  SeqStopsK Fence.wide n prog 233 #[ZP q] Qof (Le T) (λys=>ys=t.flat) (λc=>c<+:t.flat) t.flat.length w:=λl' J B W z V _ hY E=>
 Qqi (p:=p) n l' q b T J B W ((Qc.ofBelow (S:=Qb) z).blk U (λh=>h)) ((Qc.ofBelow (S:=Qb) z).blk Z (λh=>h)) (Jw.aB (Qc.ofBelow (S:=Qb) z) t R (λ_ _ h=>h)) u
  (λc d h=>V c d d.drew none h ⟨rfl,rfl,rfl,Zv _,λ_ _ _=>rfl⟩ (λr e=>by cases e)) (λm c x d I K=>Qf6 (hY c x d I K)) E
theorem Qqj(b:Nat)(w):ZW 188 #[ptr b] w (.func (.func 233) #[] #[ZP w.heap.size]) λw'=>w'=w.alloc (.cells #[ptr b] 201):=by unfold ptr;apply WH func188;exact WE
def Qrf(l:List Xu):Nat:=(l.head?.map (·.1)).getD 0
def Wl(l:List Xu):Int:=(l.head?.map (·.2.1)).getD 0
theorem Qis{w}{F:Fp}{b:Nat}{l:List Xu}(h:Vz w F b l):
  ZW 131 #[ptr b] w (.tuple #[Yo (Qrf l) (Wl l),.bool (!l.isEmpty)]) λw'=>Qc Qb w w':=by
 obtain⟨t,hR⟩:=h;have HU:=O (Qqj b);refine callsIn_wide (n:=9).1 ?_;unfold ptr at HU|-;refine callsIn_of_wp_marks func131 rfl trivial ?_;simp only[ntmps131,List.size_toArray,Zm,List.length_nil,Nat.reduceAdd,Nat.reduceSub,Array.replicate_succ,Array.replicate_zero,List.push_toArray,List.append_toArray,List.nil_append,List.cons_append];gi_wp2_with (refine⟨trivial,?_⟩;gi_at_call 188;refine(callsIn_wide.2 (HU.o _)).mono ?_;rintro e w1⟨rfl,rfl⟩);obtain⟨s,V⟩:=Zx (w.heap.size);obtain⟨z,B⟩:=Zx ((((w.alloc (.cells #[ZU 0,ZI 0] 199)).alloc (.cells #[.bool false] 4)).alloc (.cells #[ZP b] 201)));have C0:Hi (Qc Qb w z):=O (by rw[B];exact(((Zg _ _).alloc _).alloc _).alloc _);have ah:z.heap.size=s+3:=by rw[B,V];simp
 have B2:Hi (Qh z s #[ZU 0,ZI 0] 199):=O (by rw[B,V];exact((Qh.new' _ _ (by simp)).alloc _).alloc _);have B3:Hi (Qh z (s+1) #[.bool false] 4):=O (by rw[B,V];exact(Qh.new' _ _ (by simp)).alloc _);have B4:Hi (Qh z (s+1+1) #[ptr b] 201):=O (by rw[B,V];exact Qh.new' _ _ (by simp));have ac:Hi (Qh z b #[Dd,Vv,t.aH,ZI l.length] 269):=O (C0.o.blk hR.top (λh=>h));have ab:Hi (Jw z t):=O (Jw.aB C0.o t hR.sub.at' (λ_ _ h=>h));have Xg:∀a∈t.aC,a<s:=λa ha=>by rw[V];exact Jw.lt t hR.sub.at' a ha
 have HF:=O hR.flat;rw[<-V,<-B];have Z:=O V;clear B V hR;refine wpIn_rangeFunc_ownH rfl (by decide) (gf:=233) (lb:=#[ZP (s+1+1)]) rfl trivial (enters_of func233 (by kernel_rfl) rfl)
  (Qjc (p:=.pointer none) 8 (s+1+1) b (λk=>k∈t.aC) z B4.o ac.o ab.o (λa h=>h))
  (λh k=>h.trans k) (λW l o o' h1 h2 h3 h4=>Le.put (w:=z) W l o o' h1 h2 h3 h4) (Below.refl _ _) (λ_=>rfl)
  (λE W=>(E=[]/\Qh W s #[ZU 0,ZI 0] 199/\Qh W (s+1) #[.bool false] 4)/\Qc Qb z W)
  (λc E W=>(c=.ret/\(∃x,E=[x]/\Qh W s #[ZU x.1,ZI x.2.1] 199)/\Qh W (s+1) #[.bool true] 4)/\Qc (λk=>k=s\/k=s+1) z W)
  ?o1 ?o2 ⟨⟨rfl,B2.o,B3.o⟩,Zg _ _⟩
  (λx a' W=>∃Bx,s+3<=Bx/\Qh W Bx #[ZU x.1,ZI x.2.1] 199/\a'={tmps:=#[ZP b,undef,ZP s,ZP (s+1),ZP Bx,ZP b,.func (.func 233) #[] #[ZP (s+1+1)],Yo x.1 x.2.1,ZU x.2.2,undef,undef],defers:=[]})
  ?o3 ?assign ?body ?done ?stop
 case assign=> rintro l' E x W K hI hK;obtain⟨xn,xi,xv⟩:=x;dsimp only[Qof,Yo];gi_wp2;have cc:Qc Qb W (W.alloc (.cells #[ZU xn,ZI xi] 199)):=(Zg _ _).alloc _;exact hK _ _ (Vg cc (λk h=>h.elim)) (Le.chg cc (λ_ _ h=>h)) ⟨⟨hI.1.1,cc.blk hI.1.2.1 (λh=>h),cc.blk hI.1.2.2 (λh=>h)⟩,hI.2.aA cc⟩ ⟨W.heap.size,by have:=hI.2.size;omega,Qh.new W _ _,rfl⟩
 case body=>
  rintro l' E⟨xn,xi,xv⟩a' W hl ag⟨⟨rfl,I,J⟩,q⟩⟨Bx,af,bX,rfl⟩ae;obtain⟨x0,x1⟩:=Q4 bX;obtain⟨y0,y1⟩:=Q4 I;have y2:=Jf J;have z0:=I.frozen;have z1:=J.frozen 0;dsimp only[Yo]at*;have HW:Hi (∀w',w'=((W.setCell ⟨s,0,none⟩ (ZU xn)).setCell ⟨s,1,none⟩ (ZI xi)).setCell ⟨s+1,0,none⟩ (.bool true)->KeepsFrom z.heap.size W w'/\Qh w' s #[ZU xn,ZI xi] 199/\Qh w' (s+1) #[.bool true] 4/\Qc (λk=>k=s\/k=s+1) z w'):=O (by
   rintro w' rfl;have c1:Qc (λk=>k=s\/k=s+1) W (((W.setCell ⟨s,0,none⟩ (ZU xn)).setCell ⟨s,1,none⟩ (ZI xi)).setCell ⟨s+1,0,none⟩ (.bool true)):=(((Zg _ _).setCell _ (.inl (.inl rfl))).setCell _ (.inl (.inl rfl))).setCell _ (.inl (.inr rfl));refine⟨Vg c1 (λk hk=>by rcases hk with h|h<;>omega),((I.set' 0 _ rfl).set' 1 _ rfl).other _ (by show s+1≠s;omega),?_,(q.none).aA c1⟩;exact((J.other (a:=⟨s,0,none⟩) _ (by show s≠s+1;omega)).other (a:=⟨s,1,none⟩) _ (by show s≠s+1;omega)).set' 0 _ rfl)
  clear I J bX q;gi_wp2;obtain⟨k1,k2,k3,k4⟩:=HW.o _ rfl;exact⟨k1,⟨rfl,⟨_,rfl,k2⟩,k3⟩,k4⟩
 case o1=>exact OwnFrom.and (OwnFrom.and (ownFrom_pure _ _) (OwnFrom.and (Yx _ _ (λ_=>_) _) (Yx _ _ (λ_=>_) _))) (Dr (Zv _))
 case o2=> intro c E W W' U h hg hr;obtain⟨⟨e,⟨x,e2,I⟩,J⟩,hc⟩:=h;exact⟨⟨e,⟨x,e2,Yx z.heap.size s (λ(_:Unit)=>#[ZU x.1,ZI x.2.1]) _ () W W' U I hg hr⟩,Yx z.heap.size (s+1) (λ(_:Unit)=>#[.bool true]) _ () W W' U J hg hr⟩,Dr (β:=Unit) (Zv _) () W W' U hc hg hr⟩
 case o3=>exact λx a' _ X Y U V hg hr=>by obtain⟨Bx,e1,e2,e3⟩:=V;exact⟨Bx,e1,Yx z.heap.size Bx (λ(_:Unit)=>#[ZU x.1,ZI x.2.1]) _ () X Y U e2 hg hr,e3⟩
 case done=>
  rintro D ys W hD hp⟨⟨rfl,I,J⟩,q⟩hK;have hl:l=[]:=by rw[<-HF.o];exact hp.symm
  subst hl;obtain⟨y0,y1⟩:=Q4 I;have y2:=Jf J;have z0:=I.frozen;have z1:=J.frozen 0;obtain⟨W2,R⟩:=Zx (((W.setCell ⟨s,0,none⟩ (ZU 0)).setCell ⟨s,1,none⟩ (ZI 0)).setCell ⟨s+1,0,none⟩ (.bool false));have c1:Qc (λk=>k=s\/k=s+1) W W2:=by rw[R];exact(((Zg _ _).setCell _ (.inl (.inl rfl))).setCell _ (.inl (.inl rfl))).setCell _ (.inl (.inr rfl))
  have q2:Qh W2 s #[ZU 0,ZI 0] 199:=by rw[R];exact((I.set' 0 _ rfl).set' 1 _ rfl).other _ (by show s+1≠s;omega)
  have q3:Qh W2 (s+1) #[.bool false] 4:=by rw[R];exact((J.other (a:=⟨s,0,none⟩) _ (by show s≠s+1;omega)).other (a:=⟨s,1,none⟩) _ (by show s≠s+1;omega)).set' 0 _ rfl
  have d:=O (c1.heap hK (λh=>by rcases h with h|h<;>omega));have CC:Hi (Qc Qb w W2):=O (C0.o.trans (q.none.aA c1) (λk hk=>.inr (by rw[<-Z.o];rcases hk with h|h<;>omega)));have Q2:=O q2;have Q3:=O q3;have aa:w.heap.size<=D:=by have:=Z.o;omega
  clear I J q c1 q2 q3 hK hp;gi_wp2;rw[<-R];clear R;refine⟨by simp,.inl ⟨_,_,rfl,run_takeDeferred d.o,?_⟩⟩;have r2:=Uc Q2.o d.o;have r3:=Uc Q3.o d.o;obtain⟨e0,e1⟩:=Q4 r2;have e2:=Jf r3;refine⟨.tuple #[Yo 0 0,.bool false],?_,rfl,Ud CC.o aa (Z2.1 d.o).1⟩;clear r2 r3;simp[results,Tryz.results131,go_sem,e0,e1,e2,Yo]
 case stop=>
  rintro D c' E W hD u⟨⟨rfl,⟨x,rfl,I⟩,J⟩,q⟩hK;obtain⟨xn,xi,xv⟩:=x;obtain⟨l2,hl⟩:∃l2,l=(xn,xi,xv)::l2:=by
   rw[<-HF.o];cases ht:t.flat with
   |nil=>rw[ht]at u;simp at u
   |cons y l2=> rw[ht]at u;obtain⟨rfl,_⟩:=List.cons_prefix_cons.1 u;exact⟨l2,rfl⟩
  subst hl;have CC:Hi (Qc Qb w W):=O (C0.o.trans q (λk hk=>.inr (by rw[<-Z.o];rcases hk with h|h<;>omega)));have aa:w.heap.size<=D:=by have:=Z.o;omega
  have Q2:=O I;have Q3:=O J;have d:=O hK;clear I J q hK u;gi_wp2;refine⟨by simp,.inl ⟨_,_,rfl,run_takeDeferred d.o,?_⟩⟩;have r2:=Uc Q2.o d.o;have r3:=Uc Q3.o d.o;obtain⟨e0,e1⟩:=Q4 r2;have e2:=Jf r3;refine⟨.tuple #[Yo xn xi,.bool true],?_,rfl,Ud CC.o aa (Z2.1 d.o).1⟩;clear r2 r3;simp[results,Tryz.results131,go_sem,e0,e1,e2,Yo]
end
theorem Fm{w}{F:Fp}{b:Nat}{l:List Xu}(h:Jg w F b l):ZW 77 #[ptr b] w (.tuple #[ZI (Wl l),.bool (!l.isEmpty)]) λw'=>Qc Qb w w':=by obtain⟨T,m,L,I,k,⟨G,q⟩,E⟩:=h.opn;have z:=O (Dp k);have c:=O (Qis q);generalize Qrf l=n at c;generalize Wl l=i at c|-;generalize(!l.isEmpty)=B at c|-;unfold ptr Yo at*;clear h I k q E;apply WH func77;go_wp2_with fail;apply Zy z;rintro w1 rfl;go_wp2_with fail;apply ZF c (λ_ d=>d.alloc (.cells #[ZU n,ZI i] 199));intro w1 u;go_wp2;go_ret2;refine ⟨rfl,u.o⟩
theorem Qkc{w}{F:Fp}{b:Nat}{l:List Xu}(h:Yq w F b l):ZW 42 #[ptr b] w (ZU ((Hk l:Nat):Int)) λw'=>Qc Qb w w':=by
 obtain⟨p,G,u,k,z⟩:=h.ex;have B:Hi (ZW 76 #[ptr p] w (ZU ((Hk l:Nat):Int)) λw'=>Qc Qb w w'):=O (by
  cases l with
  |nil=> have q:=O (Fm k);rw[show((Hk []:Nat):Int)=9223372036854775808 from rfl];dsimp only[Wl,List.head?_nil,Option.map_none,Option.getD_none,List.isEmpty_nil,Bool.not_true]at q;clear h u k z;apply WH func76;go_wp2_with fail;apply ZQ q;intro w1 d;exact WD d
  |cons e l=>
   obtain⟨n,i,v⟩:=e;have q:=O (Fm k);have K:=O (λw'(R:Qc Qb w w')=>Qn0 (Jg.obj.aB k R (Jl.none G)) n i v (List.mem_cons_self));rw[show Hk ((n,i,v)::l)=n from rfl];dsimp only[Wl,List.head?_cons,Zn,Option.getD_some,List.isEmpty_cons,Bool.not_false]at q;clear h u k z;apply WH func76;go_wp2_with fail;apply ZQ q;intro w1 d;go_wp2_with fail;apply Z9 (K.o _ d.o) (λ_ I=>d.o.aA I);intro w2 J;exact WD J)
 have E:Hi (ZW 75 #[ptr b,.func (.func 76) #[] #[],ZU 9223372036854775808] w (ZU ((Hk l:Nat):Int)) λw'=>Qc Qb w w'):=O (by
  have U:=Jf u;generalize((Hk l:Nat):Int)=v at B|-;clear h u k z;apply WH func75;go_wp2_with fail;apply ZQ B;intro w1 d;exact WD d)
 generalize((Hk l:Nat):Int)=v at E|-;clear h u k z;apply WH func42;go_wp2_with fail;apply ZQ E;intro w1 d;exact WD d
theorem Qmi{w:World}{g c:Nat}{x:Nat}(h:w.cell? ⟨g,0,none⟩=some (ZU x)):
  ZW 260 #[.slice (some ⟨g,0,none⟩) 1 c] w (ZU x) λw'=>Qc Qb w w':=by
 have h':w.drew.cell? ⟨g,0,none⟩=some (ZU x):=h;apply WH func260;go_wp2_with fail;refine wp_loop_rounds 1 ?_;rw[rounds_succ];go_wp2;go_ret;exact⟨rfl,Zg _ _⟩
section
attribute [local go_sem ↓] Yd
theorem Qjf{w:World}{g c:Nat}{own x:Nat}(h:w.cell? ⟨g,0,none⟩=some (ZU x)):
  ZW 246 #[ZU own,.slice (some ⟨g,0,none⟩) 1 c] w (ZU ((max own x:Nat):Int)) λw'=>Qc Qb w w':=by
 have q:=O (λ(w:World)(h:w.cell? ⟨g,0,none⟩=some (ZU x))=>Qmi (c:=c) h);have u:((max own x:Nat):Int)=max (own:Int) (x:Int):=by omega
 rw[u];apply WH func246;go_wp2_with fail;apply ZD (q.o _ h);intro w1 k;exact WD k
end
end Go.Proofs.YtigcnnkagkbflaaGreat
