/- A part of the proof: no condition. -/
import Derived.Laws.StructEq
import Derived.Test.YtigcnnkagkbflaaGreatYq04
import Derived.Laws.MakeOwn
namespace Go.Proofs.YtigcnnkagkbflaaGreat
set_option linter.unusedVariables false
set_option maxRecDepth 100000
set_option maxHeartbeats 4000000
open Go.RowKit
open Go.Proofs.Tryz
structure Jr where
 id:Int
 cls:Int
 len:Int
 at_:Int
def Jr.cells(p:Jr):List Value:=[ZU p.id,ZI p.cls,ZI p.len,ZU p.at_]
theorem Jr.aF(p:Jr):p.cells.length=4:=rfl
def Jr.zero:Jr:=⟨0,0,0,0⟩
theorem pktT:Qce prog Jr.cells 4 58 31 32 Jr.zero where
 ht:=underlying58
 hi:=Ee (by kernel_rfl)
 pos:=by decide
 hc:=Jr.aF
 one:=by intro x u c;simp only[Jr.cells,Zu,List.not_mem_nil,or_false]at c;rcases c with rfl|rfl|rfl|rfl<;>rfl
def Jn:List Jr->Int
 |[]=>0
 |p::l=>p.len+Jn l
theorem Tk(a b:List Jr):Jn (a++b)=Jn a+Jn b:=by
 induction a with
 |nil=>simp[Jn]
 |cons p a c=>simp only[List.cons_append,Jn,c];omega
def Ll(p:Jr):Prop:=1<=p.len/\p.len<=65535
theorem Hd:∀(l:List Jr),(∀p∈l,Ll p)->0<=Jn l
 |[],_=>by simp[Jn]
 |p::l,h=>by have:=Hd l (λq c=>h q (by simp[c]));have:=(h p (by simp)).1;simp only[Jn];omega
def Ow(L:List Jr)(f:Nat)(l:List Jr):Prop:=∀i,i<l.length->L[(f+i)%L.length]? =l[i]?
structure Jz(w:World)(b r:Nat)(pk bt:Nat)(l:List Jr):Prop where
 ne:b≠r
 pk1:1<=pk
 pk2:pk<=4096
 bt1:1<=bt
 bt2:bt<=16777216
 many:l.length<=pk
 held:Jn l<=bt
 good:∀p∈l,Ll p
 ring:∃(L:List Jr)(f:Nat),Qh w b #[ZI pk,ZI bt,.slice (some ⟨r,0,none⟩) L.length L.length,ZI f,ZI l.length,ZI (Jn l)] 155/\
  RowBlk Jr.cells w r L 31/\f<L.length/\l.length<=L.length/\L.length<=8192/\Ow L f l
theorem Jz.aB{w w1}{b r k c:Nat}{l:List Jr}{S:Nat->Prop}(h:Jz w b r k c l)(d:Qc S w w1)(R:¬S b)(U:¬S r):Jz w1 b r k c l:=by obtain⟨q,u,z,B,E,I,J,K,L,f,q1,q2,V⟩:=h;exact⟨q,u,z,B,E,I,J,K,L,f,d.blk q1 R,d.blk q2 U,V⟩
theorem Jz.lt{w}{b r d c:Nat}{l:List Jr}(h:Jz w b r d c l):b<w.heap.size/\r<w.heap.size:=by obtain⟨_,_,_,_,_,_,_,_,L,f,k,q,_⟩:=h;exact⟨k.lt,q.lt⟩
theorem Qpq(b:Nat)(n:Int)(w:World)(c:w.cell? ⟨b,0,none⟩=some (ZI n)):
  ZW 87 #[ZP b] w (.bool (n==0)) λw'=>w=w':=by
 apply WH func87;exact WE
theorem Hy(b:Nat)(n:Int)(w:World)(c:w.cell? ⟨b,0,none⟩=some (ZI n))(q:1<=n):
  ZW 87 #[ZP b] w (.bool false) λw'=>w=w':=
 (Qpq b n w c).mono λe w'⟨d,k⟩=>⟨by rw[d];congr 2;simp;omega,k⟩
theorem Ml(b:Nat)(f n:Int)(a:Option Addr)(c cap:Nat)(w:World)(z:w.cell? ⟨b,2,none⟩=some (.slice a c cap))(B:w.cell? ⟨b,3,none⟩=some (ZI f))
  (E:0<=f) (d:f<=10000) (J:0<=n) (u:n<=10000) (I:0<c) (q:c<=10000):
  ZW 148 #[ZP b,ZI n] w (ZI ((f+n)%c)) λw'=>∃k,w'=w.drewN k:=by
 apply WH func148;go_wp2;go_quiet (fail);go_wp2;go_ret;exact⟨rfl,_,rfl⟩
theorem Qin{w}{b r k q:Nat}{l:List Jr}(h:Jz w b r k q l):
  ZW 48 #[ZP b] w (ZI l.length) λw'=>w=w':=by
 obtain⟨_,z,B,_,_,_,_,_,L,f,c,_⟩:=h;have d:=c.cell 0;have u:=c.cell 4;simp at d u;have N:=O (Hy b k w d (by omega));clear c;apply WH func48;go_wp2_with fail;apply Zy N;rintro w1 rfl;exact WE
theorem Qls{w}{b r k q:Nat}{l:List Jr}(h:Jz w b r k q l):
  ZW 49 #[ZP b] w (ZI (Jn l)) λw'=>w=w':=by
 obtain⟨_,z,B,_,_,_,_,_,L,f,c,_⟩:=h;have d:=c.cell 0;have u:=c.cell 5;simp at d u;have N:=O (Hy b k w d (by omega));clear c;apply WH func49;go_wp2_with fail;apply Zy N;rintro w1 rfl;exact WE
abbrev ZL(p:Jr):Array Value:=#[ZU p.id,ZI p.cls,ZI p.len,ZU p.at_]
def Cp(p:Jr)(c:Int):Int:=if c<1\/65536<=c then 2 else if p.len<1\/c<p.len then 100 else 0
theorem Rn(p:Jr)(c:Int)(w):
  ZW 106 #[.agg (ZL p),ZI c] w (ZI (Cp p c)) λw'=>Qc Qb w w':=by
 obtain⟨id,q,d,k⟩:=p;by_cases z:c<1;·have E:Hi (Cp ⟨id,q,d,k⟩ c=2):=O (if_pos (.inl z));apply WH func106;go_wp2;go_ret;exact⟨by rw[E.o];rfl,(Zg _ _).alloc _⟩
 .by_cases B:65536<=c;·have E:Hi (Cp ⟨id,q,d,k⟩ c=2):=O (if_pos (.inr B));apply WH func106;go_wp2;go_ret;exact⟨by rw[E.o];rfl,(Zg _ _).alloc _⟩
  .have u:Cp ⟨id,q,d,k⟩ c=if d<1\/c<d then 100 else 0:=if_neg (by omega);by_cases I:d<1;·have E:=O (u.trans (if_pos (.inl I)));clear u;apply WH func106;go_wp2;go_ret;exact⟨by rw[E.o];rfl,(Zg _ _).alloc _⟩
   .by_cases J:c<d;·have E:=O (u.trans (if_pos (.inr J)));clear u;apply WH func106;go_wp2;go_ret;exact⟨by rw[E.o];rfl,(Zg _ _).alloc _⟩
    .have E:=O (u.trans (if_neg (by omega)));clear u;apply WH func106;go_wp2;go_ret;exact⟨by rw[E.o];rfl,(Zg _ _).alloc _⟩
theorem Qa9{w}{b r k q:Nat}(h:Jz w b r k q []):
  ZW 96 #[ZP b] w (.tuple #[.agg #[ZU 0,ZI 0,ZI 0,ZU 0],.bool false]) λw'=>Qc Qb w w':=by
 have Xg:=h.lt;obtain⟨_,B,E,_,_,_,_,_,L,f,c,_⟩:=h;have d:=c.cell 0;have u:=c.cell 4;simp at d u;have N:=O (λo=>Hy b k (w.alloc o) (by rw[World.cell?_alloc_past _ _ _ Xg.1];exact d) (by omega));have z:=Xg.1;clear c Xg;go_enter func96,ntmps96;go_wp2_with fail;refine Zz (N.o _) ?_;rintro w1 rfl;go_wp2;refine bodyPost_ret (v:=.tuple #[.agg #[ZU 0,ZI 0,ZI 0,ZU 0],.bool false]) (by simp[results,Tryz.results96,go_sem]) rfl ⟨rfl,?_⟩;(exact Z0)
theorem Qba{w}{b r E I:Nat}{p:Jr}{l:List Jr}(h:Jz w b r E I (p::l)):
  ZW 96 #[ZP b] w (.tuple #[.agg (ZL p),.bool true]) λw'=>Qc Qb w w':=by
 have Xg:=h.lt;obtain⟨_,p1,p2,_,_,m1,_,_,L,f,q,u,d,hl,hL,B⟩:=h;have c:L[f]? =some p:=by have:=B 0 (by simp);rw[Nat.add_zero,Nat.mod_eq_of_lt d]at this;simpa using this
 have k:L[f]=p:=by rw[List.getElem?_eq_getElem d]at c;exact Zs c
 have z:=q.cell 0;have J:=q.cell 2;have K:=q.cell 3;have R:=q.cell 4;have V:=u.cellAt Jr.aF f d 0 _ (by rw[k];rfl);have Z:=u.cellAt Jr.aF f d 1 _ (by rw[k];rfl);have r2:=u.cellAt Jr.aF f d 2 _ (by rw[k];rfl);have r3:=u.cellAt Jr.aF f d 3 _ (by rw[k];rfl);simp at z J K R V Z r2 r3;have N:=O (λo=>Hy b E (w.alloc o) (by rw[World.cell?_alloc_past _ _ _ Xg.1];exact z) (by omega));have hb:=Xg.1;have U:=Xg.2;have f0:(0:Int)<=(f:Int):=by omega
 have f1:(f:Int)<(L.length:Int):=by omega
 have n0:((l.length:Int)+1==0)=false:=by rw[beq_eq_false_iff_ne];omega
 clear q u Xg B c k;apply WH func96;go_wp2_with fail;apply Zz (N.o _);rintro w1 rfl;go_wp2;apply XB 220000000000;apply YA 0;go_wp2_with fail;apply YI 0;go_wp2;refine bodyPost_ret (v:=.tuple #[.agg (ZL p),.bool true]) (by simp[results,Tryz.results96,go_sem]) rfl ⟨rfl,?_⟩;(exact Z0)
theorem Qfk{L:List Jr}{f:Nat}{p:Jr}{l:List Jr}(h:Ow L f (p::l)):Ow L ((f+1)%L.length) l:=by intro i c;have:=h (i+1) (by simpa using c);rw[Nat.mod_add_mod,show f+1+i=f+(i+1) by omega];simpa using this
theorem Qps{w}{b r R J:Nat}(h:Jz w b r R J []):
  ZW 95 #[ZP b] w (.tuple #[.agg #[ZU 0,ZI 0,ZI 0,ZU 0],.bool false]) λw'=>Qc Qb w w':=by
 have N:=O (λo=>Qa9 (h.aB ((Zg Qb w).alloc o) (λh=>h) (λh=>h)));clear h;apply WH func95;go_wp2_with fail;apply Zz (N.o _);intro w1 d;have K:w.heap.size<w1.heap.size:=by have:=d.size;simp at this;omega
 have I:=(Qh.new w #[ZU 0,ZI 0,ZI 0,ZU 0] 31);have c:=d.blk I (λh=>h);have q:=c.cell 0;have u:=c.cell 1;have B:=c.cell 2;have E:=c.cell 3;have z:=c.frozen;simp at q u B E;have k:=O d;clear d I c;go_wp2;refine bodyPost_ret (v:=.tuple #[.agg #[ZU 0,ZI 0,ZI 0,ZU 0],.bool false]) (by simp[results,Tryz.results95,go_sem,K,q,u,B,E]) rfl ⟨rfl,?_⟩;have k:=k.o;refine((((Zg Qb w).alloc _).aA k))|>λh=>?_;(exact Z0)
theorem Qpt{w}{b r K Z:Nat}{p:Jr}{l:List Jr}(h:Jz w b r K Z (p::l)):
  Cl 95 #[ZP b] w λe w'=>e=.returned (.tuple #[.agg (ZL p),.bool true])/\
   Jz w' b r K Z l/\Qc (λk=>k=b) w w':=by
 have N:=O (λo=>Qba (h.aB ((Zg Qb w).alloc o) (λh=>h) (λh=>h)));have Xg:=h.lt;obtain⟨ne,p1,p2,b1,b2,m1,s1,J,L,f,U,q2,hf,hl,hL,hr⟩:=h;have gp:=J p (by simp);have s0:=Hd l (λq hq=>J q (by simp[hq]));obtain⟨ag,ah⟩:=gp;have hm:l.length<K:=by simp at m1;omega
 have ak:l.length+1<=L.length:=by simpa using hl
 have es:Jn (p::l)=p.len+Jn l:=rfl;rw[es]at s1 U;simp only[Zm]at U;have aa:=O (λ(W)(cs:Array Value)(I:cs=#[ZI K,ZI Z,.slice (some ⟨r,0,none⟩) L.length L.length,ZI (((f:Int)+1)%(L.length:Int)),ZI l.length,ZI (p.len+Jn l-p.len)])
   (B:Qh W b cs 155) (R:RowBlk Jr.cells W r L 31)=>show Jz W b r K Z l by
  have e1:((f:Int)+1)%(L.length:Int)=(((f+1)%L.length:Nat):Int):=by simp
  have e2:p.len+Jn l-p.len=Jn l:=by omega
  rw[e1,e2]at I;subst I;exact⟨ne,p1,p2,b1,b2,by omega,by omega,λq hq=>J q (by simp[hq]),L,(f+1)%L.length,B,R,Nat.mod_lt _ (by omega),by omega,hL,Qfk hr⟩)
 go_enter func95,ntmps95;go_wp2_with fail;refine Zz (N.o _) ?_;intro w1 d;have hc:=((Zg Qb w).alloc (.cells #[ZU 0,ZI 0,ZI 0,ZU 0] 31)).aA d;have hs:w.heap.size<w1.heap.size:=by have:=d.size;simp at this;omega
 have z0:=d.blk (Qh.new w #[ZU 0,ZI 0,ZI 0,ZU 0] 31) (λh=>h);have k0:=z0.cell 0;have k1:=z0.cell 1;have k2:=z0.cell 2;have k3:=z0.cell 3;have z:=z0.frozen;have c:=hc.blk U (λh=>h);have V:=hc.blk q2 (λh=>h);have d2:=c.cell 2;have d3:=c.cell 3;have d4:=c.cell 4;have d5:=c.cell 5;have dz:=c.frozen;simp at k0 k1 k2 k3 d2 d3 d4 d5;have ai:b<w1.heap.size:=by omega
 have af:¬w.heap.size=b:=by omega
 have ab:¬w1.heap.size=b:=by omega
 have ac:¬b=w.heap.size:=by omega
 have ae:¬b=w1.heap.size:=by omega
 have P:=O (λW(h2:W.cell? ⟨b,2,none⟩=w1.cell? ⟨b,2,none⟩)(h3:W.cell? ⟨b,3,none⟩=w1.cell? ⟨b,3,none⟩)=>Ml b f 1 (some ⟨r,0,none⟩) L.length L.length W (h2.trans d2) (h3.trans d3) (by omega) (by omega) (by omega) (by omega) (by omega) (by omega));have HC:=O (Zt hc (Zt d (Zt c V)));have HR:=O hr;have HG:=O J;have HQ:=O (Zt U (Zt q2 hl));clear hc d z0 c V hr J U q2 hl m1 es;go_wp2_with fail;refine Zz (P.o _ (by go_simp) (by go_simp)) ?_;rintro w2⟨k,rfl⟩;go_wp2;refine ZB [0,1,2,3,4,5,6,7,8,209] ?_;simp only[Z8,Zf,Ze,Zd];iterate 9 (refine Jq (h:=?_))
 try simp only[Act.put,Za,Zc,Zb]
 refine J7 ?_;go_wp2_with fail;refine Jo ?_;go_wp2;refine bodyPost_ret (v:=.tuple #[.agg (ZL p),.bool true]) (by simp[results,Tryz.results95,go_sem,hs,k0,k1,k2,k3]) rfl ⟨rfl,?_,?_⟩
 .have hn:¬((⟨w.heap.size,0,none⟩:Addr).block=b):=λh=>by simp at h;omega
  have B:=((((((((((HC.o.2.2.1.alloc (.cells (ZL p) 31)).drewN k).set 3 (ZI (((f:Int)+1)%(L.length:Int)))).set 4 (ZI l.length)).set 5 (ZI (p.len+Jn l-p.len))).other (a:=⟨w.heap.size,0,none⟩) (ZU p.id) hn).other (a:=⟨w.heap.size,1,none⟩) (ZI p.cls) hn).other (a:=⟨w.heap.size,2,none⟩) (ZI p.len) hn).other (a:=⟨w.heap.size,3,none⟩) (ZU p.at_) hn)).drew;have u:¬((⟨w.heap.size,0,none⟩:Addr).block=r):=λh=>by simp at h;omega
  have E:¬((⟨b,0,none⟩:Addr).block=r):=ne;have R:=((((((((((HC.o.2.2.2.alloc (.cells (ZL p) 31)).drewN k).other (a:=⟨b,3,none⟩) (ZI (((f:Int)+1)%(L.length:Int))) E).other (a:=⟨b,4,none⟩) (ZI l.length) E).other (a:=⟨b,5,none⟩) (ZI (p.len+Jn l-p.len)) E).other (a:=⟨w.heap.size,0,none⟩) (ZU p.id) u).other (a:=⟨w.heap.size,1,none⟩) (ZI p.cls) u).other (a:=⟨w.heap.size,2,none⟩) (ZI p.len) u).other (a:=⟨w.heap.size,3,none⟩) (ZU p.at_) u)).drew;exact aa.o _ _ (by simp) B R
 .have aj:Qc (λk=>k=b) w w1:=HC.o.1.mono λ_ h=>h.elim;(exact Z0)
theorem Qt7(c d:Nat)(w)(z:1<=c)(B:c<=4096)(E:1<=d)(I:d<=16777216):
  ZW 104 #[ZI c,ZI d] w (ZP (w.heap.size+1)) λw'=>Jz w' (w.heap.size+1) w.heap.size c d []/\Qc Qb w w':=by
 have i1:(1:Int)<=(c:Int):=by omega
 have i2:(c:Int)<=4096:=by omega
 have i3:(1:Int)<=(d:Int):=by omega
 have i4:(d:Int)<=16777216:=by omega
 have fin:∀(n:Nat)(W),1<=n->n<=4096->Qh W w.heap.size (Jm Jr.cells (List.replicate n Jr.zero)).toArray 31->Qh W (w.heap.size+1) #[ZI c,ZI d,.slice (some ⟨w.heap.size,0,none⟩) n n,ZI 0,ZI 0,ZI 0] 155->
   Jz W (w.heap.size+1) w.heap.size c d []:=λn W R U V J=>
  ⟨by omega,z,B,E,I,by simp,by simp[Jn],by simp,List.replicate n Jr.zero,0,by simpa[Jn]using J,V,by simp;omega,by simp,by simp;omega,λi K=>absurd K (by simp)⟩
 by_cases hp:4<=c
 .have mk:∀w:World,(Instr.makeSlice 58 (ZI 4) (ZI 4)).run prog w=.ok (.slice (some ⟨w.heap.size,0,none⟩) 4 4) (w.alloc (.cells (Jm Jr.cells (List.replicate 4 Jr.zero)).toArray 31)):=
   λw=>Gi pktT 4 (by omega) (by omega) w
  generalize q:(Jm Jr.cells (List.replicate 4 Jr.zero)).toArray=Z at mk;have u:=O q;have k:=O (fin 4);clear q fin;apply WH func104;go_wp2;go_ret;refine⟨rfl,k.o _ (by omega) (by omega) ?_ ?_,?_⟩;·rw[u.o];exact(Qh.new w Z 31).alloc _
  .exact Qh.new' _ _ (by simp)
  ·(exact Z0)
 .have mk:∀w:World,(Instr.makeSlice 58 (ZI c) (ZI c)).run prog w=.ok (.slice (some ⟨w.heap.size,0,none⟩) c c) (w.alloc (.cells (Jm Jr.cells (List.replicate c Jr.zero)).toArray 31)):=
   λw=>Gi pktT c (by omega) (by omega) w
  generalize q:(Jm Jr.cells (List.replicate c Jr.zero)).toArray=Z at mk;have u:=O q;have k:=O (fin c);clear q fin;apply WH func104;go_wp2;go_ret;refine⟨rfl,k.o _ (by omega) (by omega) ?_ ?_,?_⟩;·rw[u.o];exact(Qh.new w Z 31).alloc _
  .exact Qh.new' _ _ (by simp)
  ·(exact Z0)
theorem Qoq{T:Type}(L:List T)(z:T)(f m:Nat)(q:m=L.length-f)(k:f<L.length):
  (((List.replicate (2*L.length) z).take 0++L.drop f++(List.replicate (2*L.length) z).drop (0+(L.drop f).length)).take m++L.take f++
   ((List.replicate (2*L.length) z).take 0++L.drop f++(List.replicate (2*L.length) z).drop (0+(L.drop f).length)).drop (m+(L.take f).length))=L.drop f++L.take f++List.replicate L.length z:=by
 have c:(L.drop f).length=m:=by simp;omega
 have d:(L.take f).length=f:=by simp;omega
 simp only[List.take_zero,List.nil_append,Nat.zero_add,List.drop_replicate,c,d];rw[List.take_left' c,<-List.drop_drop,List.drop_left' c,List.drop_replicate,show 2*L.length-m-f=L.length by omega]
theorem Qpp{w}{b r:Nat}(c0 c1 c4 c5:Value)(L:List Jr)(f:Nat)(hf:f<L.length)(hL:L.length<=4096)(aa:b≠r)
  (u:Qh w b #[c0,c1,.slice (some ⟨r,0,none⟩) L.length L.length,ZI f,c4,c5] 155)(q2:RowBlk Jr.cells w r L 31):
  Cl 172 #[ZP b] w λe w'=>e=.returned (.tuple #[])/\
   Qh w' b #[c0,c1,.slice (some ⟨w.heap.size,0,none⟩) (2*L.length) (2*L.length),ZI 0,c4,c5] 155/\
   RowBlk Jr.cells w' w.heap.size (L.drop f++L.take f++List.replicate L.length Jr.zero) 31/\Qc (λk=>k=b) w w':=by
 have hb:=u.lt;have hr:=q2.lt;have d2:=u.cell 2;have d3:=u.cell 3;simp at d2 d3;have mk:∀w:World,(Instr.makeSlice 58 (ZI (2*(L.length:Int))) (ZI (2*(L.length:Int)))).run prog w=.ok (.slice (some ⟨w.heap.size,0,none⟩) (2*L.length) (2*L.length)) (w.alloc (.cells (Jm Jr.cells (List.replicate (2*L.length) Jr.zero)).toArray 31)):=
  λw=>by simpa using Gi pktT (2*L.length) (by omega) (by omega) w
 generalize hz:(Jm Jr.cells (List.replicate (2*L.length) Jr.zero)).toArray=Z at mk;have HZ:=O hz;have U:=O (Zt u q2);have f0:(0:Int)<=(f:Int):=by omega
 have f1:(f:Int)<=(L.length:Int):=by omega
 have f2:¬L.length=f:=by omega
 clear hz u q2;apply WH func172;go_wp2;apply XB 220000000000;apply YA 0;refine Dy pktT rfl (.tmp 11) (.tmp 20) rfl _ _ _ _ _ _ rfl rfl w.heap.size 0 (List.replicate (2*L.length) Jr.zero) 31 ?_ (L.drop f) ?_ ?_ ?_ ?_ ?_;·show Qh _ _ _ _;rw[HZ.o];exact(Qh.new w Z 31).drew
 .rw[List.length_drop];show _=min _ _;omega
 .intro _;rfl
 .have:=(RowBlk.row Jr.aF ((U.o.2.alloc (.cells Z 31)).drew)).drop f;simpa using this
 .simp;omega
 intro w1 R1 E;have d:Qc (λk=>k=b) w w1:=((((Zg (λk=>k=b) w).alloc (.cells Z 31)).drew).trans E (λk hk=>.inr (by omega)));have z:=E.blk (((U.o.1.alloc (.cells Z 31)).drew)) (by omega);have R2:=E.blk (((U.o.2.alloc (.cells Z 31)).drew)) (by omega);have V:=z.cell 2;have e3:=z.cell 3;simp at V e3;obtain⟨m,hm⟩:=Zx (L.length-f);have l0:(0:Int)<=(m:Int):=by omega
 have l1:(m:Int)<=2*(L.length:Int):=by omega
 have l2:m<2*L.length:=by omega
 have I:=O (Zt d (Zt z (Zt R1 R2)));clear d z R2 R1 E;simp only[List.length_drop];rw[<-hm];have R:=O hm;clear hm;go_wp2_with fail;apply YI 0;go_wp2;apply XB 2000000000000;apply YA 0;refine Dy pktT rfl (.tmp 24) (.tmp 33) rfl _ _ _ _ _ _ rfl rfl w.heap.size m _ 31 I.o.2.2.1.drew (L.take f) ?_ ?_ ?_ ?_ ?_;·rw[List.length_take];show _=min _ _;have:=R.o;omega
 .intro _;rw[if_neg (by omega)]
 .exact(RowBlk.row Jr.aF (Qh.drew I.o.2.2.2)).take f
 .have:=R.o;simp;omega
 intro w2 R3 J;have q:=(I.o.1.drew).trans (S':=λk=>k=w.heap.size) J (λk hk=>.inr (by omega));have c:=J.blk (I.o.2.1.drew) (by omega);have V:=c.cell 2;have e3:=c.cell 3;have ez:=c.frozen;simp at V e3;have K:=O (Zt q (Zt c R3));clear q c R3 J;go_wp2_with fail;refine Jo ?_;go_wp2;go_end0;refine⟨rfl,?_,?_,?_⟩;·have B:=(K.o.2.1.set 2 (.slice (some ⟨w.heap.size,0,none⟩) (2*L.length) (2*L.length))).set 3 (ZI 0);simpa using B
 .rw[<-Qoq L Jr.zero f m R.o hf];exact(Qh.other (Qh.other K.o.2.2 (a:=⟨b,2,none⟩) _ (by show b≠_;omega)) (a:=⟨b,3,none⟩) _ (by show b≠_;omega))
 .have:=K.o.1;(exact Z0)
def D8(d c:Nat)(l:List Jr)(p:Jr):Int:=
 if p.len<1\/65535<p.len then 100 else if l.length=d\/(c:Int)-Jn l<p.len then 110 else 0
theorem Qlu{w}{b r q B:Nat}{l:List Jr}(h:Jz w b r q B l)(p:Jr)(E:p.len<1\/65535<p.len):
  ZW 107 #[ZP b,.agg (ZL p)] w (ZI 100) λw'=>Qc Qb w w':=by
 have k:Cp p 65535=100:=by unfold Cp;rw[if_neg (by omega),if_pos (by omega)]
 have Xg:=h.lt;obtain⟨_,I,J,_,_,_,_,_,L,f,u,_⟩:=h;have c:=u.cell 0;simp at c;have N:=O (λo=>Hy b q (w.alloc o) (by rw[World.cell?_alloc_past _ _ _ Xg.1];exact c) (by omega));have M:=O (λw=>Rn p 65535 w);rw[k]at M;clear u k;apply WH func107;go_wp2_with fail;apply Zz (N.o _);rintro w1 rfl;go_wp2_with fail;apply ZD (M.o _);intro w2 z;go_wp2;go_ret;exact⟨rfl,((Zg _ _).alloc _).aA z.o⟩
theorem Qlt{w}{b r k z:Nat}{l:List Jr}(h:Jz w b r k z l)(p:Jr)(hp:1<=p.len)(aa:p.len<=65535)(c:l.length=k\/(z:Int)-Jn l<p.len):
  ZW 107 #[ZP b,.agg (ZL p)] w (ZI 110) λw'=>Qc Qb w w':=by
 have V:Cp p 65535=0:=by unfold Cp;rw[if_neg (by omega),if_neg (by omega)]
 have Xg:=h.lt;obtain⟨_,p1,p2,b1,b2,_,s1,R,L,f,B,_⟩:=h;have s0:=Hd l R;have K:=B.cell 0;simp at K;have N:=O (λo=>Hy b k (w.alloc o) (by rw[World.cell?_alloc_past _ _ _ Xg.1];exact K) (by omega));have M:=O (λw=>Rn p 65535 w);rw[V]at M;have Z:=Qh.new w (ZL p) 31;have Q:=B.alloc (.cells (ZL p) 31);have I:=O (Zt Z Q);have U:=Xg.1;clear B V Z Q R Xg;apply WH func107;go_wp2_with fail;apply Zz (N.o _);rintro w1 rfl;go_wp2_with fail;apply Zz (M.o _);intro w2 u;have J:=u.blk I.o.1 (λh=>h);have q:=u.blk I.o.2 (λh=>h);have z2:=J.cell 2;have k0:=q.cell 0;have k1:=q.cell 1;have k4:=q.cell 4;have k5:=q.cell 5;simp at z2 k0 k1 k4 k5;have E:=O u;clear u J q;by_cases d:l.length=k
 .have g:((l.length:Int)==(k:Int))=true:=by simp[d]
  have HL:=O d;have HF:=O c;clear d c;go_wp2;go_quiet (fail);go_wp2;go_ret;exact⟨rfl,(((Zg _ _).alloc _).aA E.o).drewN _⟩
 .have g:((l.length:Int)==(k:Int))=false:=by simp;omega
  have g2:decide ((z:Int)-Jn l<p.len)=true:=by
   rcases c with h|h;·exact absurd h d
   .simpa using h
  have HL:=O d;have HF:=O c;clear d c;go_wp2;go_quiet (fail);go_wp2;go_ret;exact⟨rfl,(((Zg _ _).alloc _).aA E.o).drewN _⟩
theorem Qfj{L:List Jr}{f:Nat}{l:List Jr}(h:Ow L f l)(p:Jr)(K:l.length<L.length):Ow (L.set ((f+l.length)%L.length) p) f (l++[p]):=by
 intro i E;have z:0<L.length:=by omega
 rw[List.length_set];by_cases k:i=l.length;·subst k;rw[List.getElem?_set_self (Nat.mod_lt _ z)];simp
 .have c:i<l.length:=by simp at E;omega
  rw[List.getElem?_append_left c,List.getElem?_set_ne,h i c];intro B;have q:=Nat.div_add_mod (f+l.length) L.length;have I:=Nat.div_add_mod (f+i) L.length;rw[B]at q;have J:L.length*((f+l.length)/L.length)=L.length*((f+i)/L.length)+(l.length-i):=by omega
  have u:L.length*((f+l.length)/L.length-(f+i)/L.length)=l.length-i:=by rw[Nat.mul_sub];omega
  rcases Nat.eq_zero_or_pos ((f+l.length)/L.length-(f+i)/L.length)with d|d;·rw[d]at u;omega
  .have:L.length*1<=L.length*((f+l.length)/L.length-(f+i)/L.length):=Nat.mul_le_mul_left _ d;omega
theorem Qd6{w}{r:Nat}{L:List Jr}{t:TypeId}(h:RowBlk Jr.cells w r L t)(i:Nat)(c:i<L.length)(p:Jr):
  RowBlk Jr.cells ((((w.setCell ⟨r,i*4,none⟩ (ZU p.id)).setCell ⟨r,i*4+1,none⟩ (ZI p.cls)).setCell ⟨r,i*4+2,none⟩ (ZI p.len)).setCell ⟨r,i*4+3,none⟩ (ZU p.at_)) r (L.set i p) t:=
 RowBlk.store Jr.aF h i c p
theorem Qim{W}{b r d c:Nat}{l:List Jr}{L:List Jr}{f:Nat}{p:Jr}(ne:b≠r)(p1:1<=d)(p2:d<=4096)(E:1<=c)(I:c<=16777216)(V:∀q∈l,Ll q)
  (U:f<L.length)(Z:l.length<L.length)(K:L.length<=8192)(hr:Ow L f l)(hm:l.length<d)(hp:1<=p.len)(u:p.len<=65535)(hs:p.len<=c-Jn l)
  (cs:Array Value)(k:cs=#[ZI d,ZI c,.slice (some ⟨r,0,none⟩) L.length L.length,ZI f,ZI ((l.length:Int)+1),ZI (Jn l+p.len)])
  (B:Qh W b cs 155) (R:RowBlk Jr.cells W r (L.set ((f+l.length)%L.length) p) 31):Jz W b r d c (l++[p]):=by
 have z:Jn (l++[p])=Jn l+p.len:=by rw[Tk];simp[Jn]
 have J:(((l++[p]).length:Nat):Int)=(l.length:Int)+1:=by simp
 subst k;refine⟨ne,p1,p2,E,I,by simp;omega,by rw[z];omega,?_,_,f,?_,R,by simpa using U,by simp;omega,by simpa using K,Qfj hr p Z⟩
 .intro q hq;rcases Zl.1 hq with h|h;·exact V q h
  .have:q=p:=by simpa using h
   subst this;exact⟨hp,u⟩
 .rw[z,J,List.length_set];exact B
theorem Qlv{w}{b r J U:Nat}{l:List Jr}{L:List Jr}{f:Nat}(p:Jr)(ne:b≠r)(p1:1<=J)(p2:J<=4096)(b1:1<=U)(b2:U<=16777216)(hg:∀q∈l,Ll q)
  (hf:f<L.length)(hl:l.length<L.length)(hL:L.length<=8192)(hr:Ow L f l)(hm:l.length<J)(hp:1<=p.len)(af:p.len<=65535)(hs:p.len<=U-Jn l)
  (q1:Qh w b #[ZI J,ZI U,.slice (some ⟨r,0,none⟩) L.length L.length,ZI f,ZI l.length,ZI (Jn l)] 155)
  (q2:RowBlk Jr.cells w r L 31):
  ZW 107 #[ZP b,.agg (ZL p)] w (ZI 0) λw'=>Jz w' b r J U (l++[p])/\Qc (λk=>k=b\/k=r) w w':=by
 have ab:Cp p 65535=0:=by unfold Cp;rw[if_neg (by omega),if_neg (by omega)]
 have ac:=O (λW cs ae B R=>Qim (W:=W) (p:=p) ne p1 p2 b1 b2 hg hf hl hL hr hm hp af hs cs ae B R);have s0:=Hd l hg;have hb:=q1.lt;have ah:=q2.lt;have c0:=q1.cell 0;simp at c0;have N:=O (λo=>Hy b J (w.alloc o) (by rw[World.cell?_alloc_past _ _ _ hb];exact c0) (by omega));have M:=O (λw=>Rn p 65535 w);rw[ab]at M;have HH:=O (Zt (Qh.new w (ZL p) 31) (Zt (q1.alloc (.cells (ZL p) 31)) (q2.alloc (.cells (ZL p) 31))));clear q1 q2 ab hg hr c0;apply WH func107;go_wp2_with fail;apply Zz (N.o _);rintro w1 rfl;go_wp2_with fail;apply Zz (M.o _);intro w2 V;have K:=V.blk HH.o.1 (λh=>h);have E:=V.blk HH.o.2.1 (λh=>h);have R2:RowBlk Jr.cells w2 r L 31:=V.blk HH.o.2.2 (λh=>h);have ai:w.heap.size<w2.heap.size:=by have:=V.size;simp at this;omega
 have z0:=K.cell 0;have z1:=K.cell 1;have z2:=K.cell 2;have z3:=K.cell 3;have k0:=E.cell 0;have k1:=E.cell 1;have k2:=E.cell 2;have k3:=E.cell 3;have k4:=E.cell 4;have k5:=E.cell 5;have kz:=E.frozen;have rz:=Qh.frozen R2;simp at z0 z1 z2 z3 k0 k1 k2 k3 k4 k5;have PL:=O (λW(h2:W.cell? ⟨b,2,none⟩=some (.slice (some ⟨r,0,none⟩) L.length L.length))(h3:W.cell? ⟨b,3,none⟩=some (ZI f))=>Ml b f (l.length:Int) (some ⟨r,0,none⟩) L.length L.length W h2 h3 (by omega) (by omega) (by omega) (by omega) (by omega) (by omega));obtain⟨d,z⟩:=Zx ((f+l.length)%L.length);have I:((f:Int)+(l.length:Int))%(L.length:Int)=(d:Int):=by rw[z];simp
 rw[I]at PL;have c:d<L.length:=by rw[z];exact Nat.mod_lt _ (by omega)
 have g1:((l.length:Int)==(J:Int))=false:=by simp;omega
 have g2:decide ((U:Int)-Jn l<p.len)=false:=by simp;omega
 have g3:((l.length:Int)==(L.length:Int))=false:=by simp;omega
 have n0:(0:Int)<=(d:Int):=by omega
 have n1:(d:Int)<(L.length:Int):=by omega
 have nb:¬r=b:=λh=>ne h.symm;have Z:=O (Zt V (Zt E R2));have aa:=O K;have RC:=O (λi(h:i<L.length)j u hu=>R2.cellAt Jr.aF i h j u hu);have ag:=RC.o d c 0 _ rfl;have aj:=RC.o d c 1 _ rfl;have ak:=RC.o d c 2 _ rfl;have al:=RC.o d c 3 _ rfl;simp only[Nat.add_zero]at ag;have HP:=O z;clear V K E R2 z I;go_wp2;go_quiet (fail);go_wp2;go_quiet (fail);go_wp2;apply YC [100,101,102,103,4,5,6,7,8,110,209,11,312] Qb w2;iterate 3 (refine Qy (h:=?_);try simp only[Act.put,Za,Zc,Zb])
 iterate 1 (apply YK λ_ hv=>Zt (Lf (hv.blk Z.o.2.1 (λh=>h))) (X9 (hv.blk aa.o (λh=>h))))
 iterate 5 (refine Xe (h:=?_))
 iterate 1 (apply YK λ_ hv=>Zt (Lf (hv.blk Z.o.2.1 (λh=>h))) (X9 (hv.blk aa.o (λh=>h))))
 apply YA 0;go_wp2_with fail;apply Zz (PL.o _ (by go_simp) (by go_simp));rintro w4⟨k,rfl⟩;go_wp2_with fail;refine⟨(Zg Qb w2).drewN _,?_⟩;apply YI 0;go_wp2_with fail;apply XB 2000000000;apply YI 0;go_wp2;go_ret;refine⟨rfl,?_,?_⟩
 .have e:=HP.o;rw[e]at c;subst e;exact ac.o _ _ (by simp) (Qh.drew (Qh.set (Qh.set (Qh.other (Qh.other (Qh.other (Qh.other (Qh.drewN Z.o.2.1 _) _ nb) _ nb) _ nb) _ nb) 4 _) 5 _))
   (Qh.drew (Qh.other (Qh.other (Qd6 (Qh.drewN Z.o.2.2 _) _ c p) _ ne) _ ne))
 .have h1:=Z.o.1;have h2:Qc (λk=>k=b\/k=r) w w2:=(((Zg _ w).alloc (.cells (ZL p) 31)).trans h1 λk h=>h.elim);(exact Z0)
theorem Qfi{L:List Jr}{f:Nat}{l:List Jr}(h:Ow L f l)(u:f<L.length)(B:l.length=L.length)(z:Jr):
  Ow (L.drop f++L.take f++List.replicate L.length z) 0 l:=by
 intro i d;have c:(L.drop f++L.take f++List.replicate L.length z).length=2*L.length:=by simp;omega
 have k:i<L.length:=by omega
 rw[c,Nat.zero_add,Nat.mod_eq_of_lt (by omega),List.getElem?_append_left (by simp;omega),<-h i d];by_cases q:i<L.length-f;·rw[List.getElem?_append_left (by simp;omega),List.getElem?_drop,Nat.mod_eq_of_lt (by omega)]
 .rw[List.getElem?_append_right (by simp;omega),List.getElem?_take,if_pos (by simp;omega)];congr 1;rw[show f+i=(f+i-L.length)+L.length by omega,Nat.add_mod_right,Nat.mod_eq_of_lt (by omega)];simp;omega
theorem Qio{w}{b r pk bt:Nat}{l:List Jr}{L:List Jr}{f:Nat}(p:Jr)(ne:b≠r)(p1:1<=pk)(p2:pk<=4096)(b1:1<=bt)(b2:bt<=16777216)(hg:∀q∈l,Ll q)
  (hf:f<L.length)(hl:l.length=L.length)(hL:L.length<=8192)(hr:Ow L f l)(hm:l.length<pk)(hp:1<=p.len)(ah:p.len<=65535)(hs:p.len<=bt-Jn l)
  (q1:Qh w b #[ZI pk,ZI bt,.slice (some ⟨r,0,none⟩) L.length L.length,ZI f,ZI l.length,ZI (Jn l)] 155)
  (q2:RowBlk Jr.cells w r L 31):
  ZW 107 #[ZP b,.agg (ZL p)] w (ZI 0) λw'=>∃r',w.heap.size<=r'/\Jz w' b r' pk bt (l++[p])/\Qc (λk=>k=b\/k=r) w w':=by
 have ac:Cp p 65535=0:=by unfold Cp;rw[if_neg (by omega),if_neg (by omega)]
 obtain⟨I,K⟩:=Zx (L.drop f++L.take f++List.replicate L.length Jr.zero);have c:I.length=2*L.length:=by rw[K];simp;omega
 have ae:Ow I 0 l:=by rw[K];exact Qfi hr hf hl _
 have af:=O (λW r'(ai:b≠r')cs ag B R=>Qim (W:=W) (r:=r') (L:=I) (f:=0) (p:=p) ai p1 p2 b1 b2 hg (by omega) (by omega) (by omega) ae hm hp ah hs cs ag B R);have s0:=Hd l hg;have hb:=q1.lt;have ak:=q2.lt;have c0:=q1.cell 0;simp at c0;have N:=O (λo=>Hy b pk (w.alloc o) (by rw[World.cell?_alloc_past _ _ _ hb];exact c0) (by omega));have M:=O (λw=>Rn p 65535 w);rw[ac]at M;have HH:=O (Zt (Qh.new w (ZL p) 31) (Zt (q1.alloc (.cells (ZL p) 31)) (q2.alloc (.cells (ZL p) 31))));have G:=O (λ(W)(q1:Qh W b #[ZI pk,ZI bt,.slice (some ⟨r,0,none⟩) L.length L.length,ZI f,ZI l.length,ZI (Jn l)] 155)
  (q2:RowBlk Jr.cells W r L 31)=>Qpp _ _ _ _ L f hf (by omega) ne q1 q2)
 rw[<-K]at G;have g1:((l.length:Int)==(pk:Int))=false:=by simp;omega
 have g2:decide ((bt:Int)-Jn l<p.len)=false:=by simp;omega
 have g3:((l.length:Int)==(L.length:Int))=true:=by simp;omega
 have i1:l.length<=L.length:=by omega
 have i2:L.length<=l.length:=by omega
 have HL:=O (Zt hl (Zt c K));clear q1 q2 ac hg hr c0 hl c K ae;apply WH func107;go_wp2_with fail;apply Zz (N.o _);rintro w1 rfl;go_wp2_with fail;apply Zz (M.o _);intro w2 hc;have Z2:=hc.blk HH.o.1 (λh=>h);have Q2:=hc.blk HH.o.2.1 (λh=>h);have R2:RowBlk Jr.cells w2 r L 31:=hc.blk HH.o.2.2 (λh=>h);have al:w.heap.size<w2.heap.size:=by have:=hc.size;simp at this;omega
 have z2:=Z2.cell 2;have k0:=Q2.cell 0;have k1:=Q2.cell 1;have k2:=Q2.cell 2;have k4:=Q2.cell 4;have k5:=Q2.cell 5;simp at z2 k0 k1 k2 k4 k5;have HC:=O (Zt hc (Zt Q2 (Zt R2 Z2)));clear hc Z2 Q2 R2;go_wp2;go_quiet (fail);go_wp2;go_quiet (fail);go_wp2_with fail;apply Zz (G.o _ (HC.o.2.1.drewN _) (Qh.drewN HC.o.2.2.1 _));rintro w3⟨V,R3,C3⟩;simp only[World.heap_drewN]at V R3;have am:w2.heap.size<w3.heap.size:=Qh.lt R3;clear z2 k0 k1 k2 k4 k5;have ab:Qc (λk=>k=b\/k=r) w w3:=((((Zg _ w).alloc (.cells (ZL p) 31)).trans HC.o.1 (λk h=>h.elim)).drewN _).trans C3 (λk h=>.inl (.inl h));have Z3:Qh w3 w.heap.size (ZL p) 31:=C3.blk (HC.o.2.2.2.drewN _) (by omega);have z0:=Z3.cell 0;have z1:=Z3.cell 1;have z2:=Z3.cell 2;have z3:=Z3.cell 3;have k2:=V.cell 2;have k3:=V.cell 3;have k4:=V.cell 4;have k5:=V.cell 5;have kz:=V.frozen;have rz:=Qh.frozen R3;simp at z0 z1 z2 z3 k2 k3 k4 k5;have c:=HL.o.2.1;rw[<-c]at k2;have PL:=O (λW(h2:W.cell? ⟨b,2,none⟩=some (.slice (some ⟨w2.heap.size,0,none⟩) I.length I.length))(h3:W.cell? ⟨b,3,none⟩=some (ZI 0))=>Ml b 0 (l.length:Int) (some ⟨w2.heap.size,0,none⟩) I.length I.length W h2 h3 (by omega) (by omega) (by omega) (by omega) (by omega) (by omega));obtain⟨z,E⟩:=Zx ((0+l.length)%I.length);have Z:((0:Int)+(l.length:Int))%(I.length:Int)=(z:Int):=by rw[E];simp
 rw[Z]at PL;have d:z<I.length:=by rw[E];exact Nat.mod_lt _ (by omega)
 have n0:(0:Int)<=(z:Int):=by omega
 have n1:(z:Int)<(I.length:Int):=by omega
 have U:b≠w2.heap.size:=by omega
 have nb:¬w2.heap.size=b:=λh=>U h.symm;have RC:=O (λi(h:i<I.length)j u hu=>R3.cellAt Jr.aF i h j u hu);have aj:=RC.o z d 0 _ rfl;have an:=RC.o z d 1 _ rfl;have ao:=RC.o z d 2 _ rfl;have ap:=RC.o z d 3 _ rfl;simp only[Nat.add_zero]at aj;have HP:=O E;have J:=O (Zt ab (Zt V R3));have H2:=O c;have aa:=O Z3;clear V R3 C3 ab Z3 E Z c;go_wp2;apply YC [100,101,102,103,4,5,6,7,8,110,209,11,312] Qb w3;iterate 3 (refine Qy (h:=?_);try simp only[Act.put,Za,Zc,Zb])
 iterate 1 (refine Qy (by kernel_rfl) (λwv hv=>by(obtain⟨y0,y1,y2,y3,y4,y5⟩:=Lf (hv.blk J.o.2.1 (λh=>h));rw[<-H2.o]at y2;have u0:=X9 (hv.blk aa.o (λh=>h)));go_simp;try rfl) ?_;try simp only[Act.put,Za,Zc,Zb])
 iterate 5 (refine Xe (h:=?_))
 iterate 1 (refine Qy (by kernel_rfl) (λwv hv=>by(obtain⟨y0,y1,y2,y3,y4,y5⟩:=Lf (hv.blk J.o.2.1 (λh=>h));rw[<-H2.o]at y2;have u0:=X9 (hv.blk aa.o (λh=>h)));go_simp;try rfl) ?_;try simp only[Act.put,Za,Zc,Zb])
 apply YA 0;go_wp2_with fail;apply Zz (PL.o _ (by go_simp) (by go_simp));rintro w4⟨k,rfl⟩;go_wp2_with fail;refine⟨(Zg Qb w3).drewN _,?_⟩;apply YI 0;go_wp2_with fail;apply XB 2000000000;apply YI 0;go_wp2;go_ret;refine⟨rfl,w2.heap.size,by omega,?_,?_⟩
 .have e:=HP.o;rw[e]at d;subst e;exact af.o _ _ U _ (by simp[H2.o]) (Qh.drew (Qh.set (Qh.set (Qh.other (Qh.other (Qh.other (Qh.other (Qh.drewN J.o.2.1 _) _ nb) _ nb) _ nb) _ nb) 4 _) 5 _))
   (Qh.drew (Qh.other (Qh.other (Qd6 (Qh.drewN J.o.2.2 _) _ d p) _ U) _ U))
 .have h1:=J.o.1;(exact Z0)
theorem Qsj{w}{b r I d:Nat}{l:List Jr}(h:Jz w b r I d l)(p:Jr)(z:D8 I d l p=0):
  ZW 107 #[ZP b,.agg (ZL p)] w (ZI 0) λw'=>∃c,(c=r\/w.heap.size<=c)/\Jz w' b c I d (l++[p])/\Qc (λk=>k=b\/k=r) w w':=by
 unfold D8 at z;split at z;·omega
 .split at z;·omega
  .rename_i h1 h2;obtain⟨ne,p1,p2,J,K,m1,s1,R,L,f,q1,q2,V,hl,U,Z⟩:=h;by_cases hg:l.length=L.length;·refine(Qio p ne p1 p2 J K R V hg U Z (by omega) (by omega) (by omega) (by omega) q1 q2).mono ?_;rintro e w'⟨u,c,E,B,q⟩;exact⟨u,c,.inr E,B,q⟩
   .refine(Qlv p ne p1 p2 J K R V (by omega) U Z (by omega) (by omega) (by omega) (by omega) q1 q2).mono ?_;rintro e w'⟨u,B,q⟩;exact⟨u,r,.inl rfl,B,q⟩
theorem Qsi{w}{b r q d:Nat}{l:List Jr}(h:Jz w b r q d l)(p:Jr)(k:D8 q d l p≠0):
  ZW 107 #[ZP b,.agg (ZL p)] w (ZI (D8 q d l p)) λw'=>Qc Qb w w':=by
 unfold D8 at*;split at k;·rename_i c;rw[if_pos c];exact Qlu h p c
 .rename_i c;rw[if_neg c];split at k;·rename_i u;rw[if_pos u];exact Qlt h p (by omega) (by omega) u
  .exact absurd rfl k
theorem Qpo{w}{b r E B:Nat}{l:List Jr}(h:Jz w b r E B l):
  ZW 73 #[ZP b] w (ZP w.heap.size) λw'=>Jz w' w.heap.size (w.heap.size+1) E B l/\Qc Qb w w':=by
 have Xg:=h.lt;obtain⟨ne,p1,p2,b1,b2,m1,s1,R,L,f,c,q2,hf,hl,hL,U⟩:=h;have c0:=c.cell 0;have c1:=c.cell 1;have c2:=c.cell 2;have c3:=c.cell 3;have c4:=c.cell 4;have c5:=c.cell 5;simp at c0 c1 c2 c3 c4 c5;have mk:∀w:World,(Instr.makeSlice 58 (ZI L.length) (ZI L.length)).run prog w=.ok (.slice (some ⟨w.heap.size,0,none⟩) L.length L.length) (w.alloc (.cells (Jm Jr.cells (List.replicate L.length Jr.zero)).toArray 31)):=
  λw=>Gi pktT L.length (by omega) (by omega) w
 generalize V:(Jm Jr.cells (List.replicate L.length Jr.zero)).toArray=Z at mk;have hb:=Xg.1;have aa:=Xg.2;have d:=O (Zt U (Zt c (Zt q2 (Zt R V))));clear U c q2 R V Xg;apply WH func73;go_wp2;apply XB 2000000;apply YA 0;refine Dy pktT rfl (.tmp 17) (.tmp 21) rfl _ _ _ _ _ _ rfl rfl (w.heap.size+1) 0 (List.replicate L.length Jr.zero) 31 ?_ L ?_ ?_ ?_ ?_ ?_;·show Qh _ _ _ _;rw[d.o.2.2.2.2];exact(Qh.new' Z 31 (by simp)).drew
 .show _=min _ _;omega
 .intro _;rfl
 .exact RowBlk.row Jr.aF (Qh.drew (Qh.alloc (Qh.alloc d.o.2.2.1 _) _))
 .simp
 intro w1 z q;have K:(List.replicate L.length Jr.zero).take 0++L++(List.replicate L.length Jr.zero).drop (0+L.length)=L:=by simp
 rw[K]at z;have I:=q.blk (Qh.drew (Qh.alloc (Qh.new w #[ZI E,ZI B,.slice (some ⟨w.heap.size+1,0,none⟩) L.length L.length,ZI f,ZI l.length,ZI (Jn l)] 155) (.cells Z 31))) (by omega);have J:Qc Qb w w1:=((((Zg Qb w).alloc _).alloc _).drew).trans q (λk hk=>.inr (by omega));have u:=O (Zt I (Zt z J));clear I z J q K;go_wp2_with fail;refine Jo ?_;go_wp2;go_ret;exact⟨rfl,⟨by omega,p1,p2,b1,b2,m1,s1,d.o.2.2.2.1,L,f,u.o.1,u.o.2.1,hf,hl,hL,d.o.1⟩,u.o.2.2⟩
end Go.Proofs.YtigcnnkagkbflaaGreat
