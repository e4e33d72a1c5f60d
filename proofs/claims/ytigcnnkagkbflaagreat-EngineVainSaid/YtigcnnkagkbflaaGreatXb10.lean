/- A part of the proof: no condition. -/
import Derived.Test.YtigcnnkagkbflaaGreatXb01
import Derived.WalkSpells
import Derived.WalkLawsBesides
import Derived.Outline
import Derived.Laws.StructEq
import Derived.Laws.MakeOwn
namespace Go.Proofs.YtigcnnkagkbflaaGreat
set_option linter.unusedVariables false
set_option maxRecDepth 100000
set_option maxHeartbeats 4000000
open Go.RowKit
open Go.Proofs.Tryz
structure Jr where
 id:Int
 cls:Int
 len:Int
 at_:Int
def Jr.cells(p:Jr):List Value:=[ZU p.id,ZI p.cls,ZI p.len,ZU p.at_]
theorem Jr.aF(p:Jr):p.cells.length=4:=rfl
def Jr.zero:Jr:=⟨0,0,0,0⟩
theorem Q0s:Qce prog Jr.cells 4 58 31 32 Jr.zero where
 ht:=underlying58
 hi:=Ee (by kernel_rfl)
 pos:=by decide
 hc:=Jr.aF
 one:=by intro x u c;simp only[Jr.cells,Zu,List.not_mem_nil,or_false]at c;rcases c with rfl|rfl|rfl|rfl<;>rfl
def Jn:List Jr→Int
 |[]=>0
 |p::l=>p.len+Jn l
theorem Tk(a b:List Jr):Jn (a++b)=Jn a+Jn b:=by
 induction a with
 |nil=>simp[Jn]
 |cons p a c=>simp only[List.cons_append,Jn,c];omega
def Ll(p:Jr):Prop:=1≤p.len∧p.len≤65535
theorem Hd:∀(l:List Jr),(∀p∈l,Ll p)→0≤Jn l
 |[],_=>by simp[Jn]
 |p::l,h=>by have:=Hd l (fun q c=>h q (by simp[c]));have:=(h p (by simp)).1;simp only[Jn];omega
def Ow(L:List Jr)(f:Nat)(l:List Jr):Prop:=∀i,i<l.length→L[(f+i)%L.length]? =l[i]?
structure Jz(w:World)(b r:Nat)(pk bt:Nat)(l:List Jr):Prop where
 ne:b≠r
 pk1:1≤pk
 pk2:pk≤4096
 bt1:1≤bt
 bt2:bt≤16777216
 many:l.length≤pk
 held:Jn l≤bt
 good:∀p∈l,Ll p
 ring:∃(L:List Jr)(f:Nat),Qh w b #[ZI pk,ZI bt,.slice (some ⟨r,0,none⟩) L.length L.length,ZI f,ZI l.length,ZI (Jn l)] 155∧
  RowBlk Jr.cells w r L 31∧f<L.length∧l.length≤L.length∧L.length≤8192∧Ow L f l
theorem Jz.aB{w w1}{b r k c:Nat}{l:List Jr}{S:Nat→Prop}(h:Jz w b r k c l)(d:Qc S w w1)(R:¬S b)(U:¬S r):Jz w1 b r k c l:=by obtain⟨q,u,z,B,E,I,J,K,L,f,q1,q2,V⟩:=h;exact⟨q,u,z,B,E,I,J,K,L,f,d.blk q1 R,d.blk q2 U,V⟩
theorem Jz.lt{w}{b r d c:Nat}{l:List Jr}(h:Jz w b r d c l):b<w.heap.size∧r<w.heap.size:=by obtain⟨_,_,_,_,_,_,_,_,L,f,k,q,_⟩:=h;exact⟨k.lt,q.lt⟩
theorem Qpq(b:Nat)(n:Int)(w:World)(c:w.cell? ⟨b,0,none⟩=some (ZI n)):
  ZW 87 #[ZP b] w (.bool (n==0)) fun w'=>w=w':=by
 go_enter func87,ntmps87;go_wp2;go_ret;exact⟨rfl,rfl⟩
theorem Hy(b:Nat)(n:Int)(w:World)(c:w.cell? ⟨b,0,none⟩=some (ZI n))(q:1≤n):
  ZW 87 #[ZP b] w (.bool false) fun w'=>w=w':=
 (Qpq b n w c).mono fun e w'⟨d,k⟩=>⟨by rw[d];congr 2;simp;omega,k⟩
theorem Ml(b:Nat)(f n:Int)(a:Option Addr)(c cap:Nat)(w:World)(z:w.cell? ⟨b,2,none⟩=some (.slice a c cap))(B:w.cell? ⟨b,3,none⟩=some (ZI f))
  (E:0≤f) (d:f≤10000) (J:0≤n) (u:n≤10000) (I:0<c) (q:c≤10000):
  ZW 148 #[ZP b,ZI n] w (ZI ((f+n)%c)) fun w'=>∃k,w'=w.drewN k:=by
 go_enter func148,ntmps148;go_wp2;go_quiet (fail);go_wp2;go_ret;exact⟨rfl,_,rfl⟩
theorem Qin{w}{b r k q:Nat}{l:List Jr}(h:Jz w b r k q l):
  ZW 48 #[ZP b] w (ZI l.length) fun w'=>w=w':=by
 obtain⟨_,z,B,_,_,_,_,_,L,f,c,_⟩:=h;have d:=c.cell 0;have u:=c.cell 4;simp at d u;have N:=O (Hy b k w d (by omega));clear c;go_enter func48,ntmps48;go_wp2_with fail;refine Zy N ?_;rintro w1 rfl;go_wp2;go_ret;exact⟨rfl,rfl⟩
theorem Qls{w}{b r k q:Nat}{l:List Jr}(h:Jz w b r k q l):
  ZW 49 #[ZP b] w (ZI (Jn l)) fun w'=>w=w':=by
 obtain⟨_,z,B,_,_,_,_,_,L,f,c,_⟩:=h;have d:=c.cell 0;have u:=c.cell 5;simp at d u;have N:=O (Hy b k w d (by omega));clear c;go_enter func49,ntmps49;go_wp2_with fail;refine Zy N ?_;rintro w1 rfl;go_wp2;go_ret;exact⟨rfl,rfl⟩
abbrev ZL(p:Jr):Array Value:=#[ZU p.id,ZI p.cls,ZI p.len,ZU p.at_]
def Cp(p:Jr)(c:Int):Int:=if c<1∨65536≤c then 2 else if p.len<1∨c<p.len then 100 else 0
theorem Rn(p:Jr)(c:Int)(w):
  ZW 106 #[.agg (ZL p),ZI c] w (ZI (Cp p c)) fun w'=>Qc Qb w w':=by
 obtain⟨id,q,d,k⟩:=p;by_cases z:c<1;·have E:Hi (Cp ⟨id,q,d,k⟩ c=2):=O (if_pos (.inl z));go_enter func106,ntmps106;go_wp2;go_ret;exact⟨by rw[E.o];rfl,(Zg _ _).alloc _⟩
 ·by_cases B:65536≤c;·have E:Hi (Cp ⟨id,q,d,k⟩ c=2):=O (if_pos (.inr B));go_enter func106,ntmps106;go_wp2;go_ret;exact⟨by rw[E.o];rfl,(Zg _ _).alloc _⟩
  ·have u:Cp ⟨id,q,d,k⟩ c=if d<1∨c<d then 100 else 0:=if_neg (by omega);by_cases I:d<1;·have E:=O (u.trans (if_pos (.inl I)));clear u;go_enter func106,ntmps106;go_wp2;go_ret;exact⟨by rw[E.o];rfl,(Zg _ _).alloc _⟩
   ·by_cases J:c<d;·have E:=O (u.trans (if_pos (.inr J)));clear u;go_enter func106,ntmps106;go_wp2;go_ret;exact⟨by rw[E.o];rfl,(Zg _ _).alloc _⟩
    ·have E:=O (u.trans (if_neg (by omega)));clear u;go_enter func106,ntmps106;go_wp2;go_ret;exact⟨by rw[E.o];rfl,(Zg _ _).alloc _⟩
theorem Qa9{w}{b r k q:Nat}(h:Jz w b r k q []):
  ZW 96 #[ZP b] w (.tuple #[.agg #[ZU 0,ZI 0,ZI 0,ZU 0],.bool false]) fun w'=>Qc Qb w w':=by
 have Xg:=h.lt;obtain⟨_,B,E,_,_,_,_,_,L,f,c,_⟩:=h;have d:=c.cell 0;have u:=c.cell 4;simp at d u;have N:=O (fun o=>Hy b k (w.alloc o) (by rw[World.cell?_alloc_past _ _ _ Xg.1];exact d) (by omega));have z:=Xg.1;clear c Xg;go_enter func96,ntmps96;go_wp2_with fail;refine Zz (N.o _) ?_;rintro w1 rfl;go_wp2;refine bodyPost_ret (v:=.tuple #[.agg #[ZU 0,ZI 0,ZI 0,ZU 0],.bool false]) (by simp[results,Tryz.results96,go_sem]) rfl ⟨rfl,?_⟩;(exact Z0)
theorem Qba{w}{b r J K:Nat}{p:Jr}{l:List Jr}(h:Jz w b r J K (p::l)):
  ZW 96 #[ZP b] w (.tuple #[.agg (ZL p),.bool true]) fun w'=>Qc Qb w w':=by
 have Xg:=h.lt;obtain⟨_,p1,p2,_,_,m1,_,_,L,f,u,z,d,hl,hL,I⟩:=h;have c:L[f]? =some p:=by have:=I 0 (by simp);rw[Nat.add_zero,Nat.mod_eq_of_lt d]at this;simpa using this
 have k:L[f]=p:=by rw[List.getElem?_eq_getElem d]at c;exact Zs c
 have E:=u.cell 0;have R:=u.cell 2;have U:=u.cell 3;have V:=u.cell 4;have r0:=z.cellAt Jr.aF f d 0 _ (by rw[k];rfl);have r1:=z.cellAt Jr.aF f d 1 _ (by rw[k];rfl);have r2:=z.cellAt Jr.aF f d 2 _ (by rw[k];rfl);have r3:=z.cellAt Jr.aF f d 3 _ (by rw[k];rfl);simp at E R U V r0 r1 r2 r3;have N:=O (fun o=>Hy b J (w.alloc o) (by rw[World.cell?_alloc_past _ _ _ Xg.1];exact E) (by omega));have hb:=Xg.1;have Z:=Xg.2;have f0:(0:Int)≤(f:Int):=by omega
 have f1:(f:Int)<(L.length:Int):=by omega
 have n0:((l.length:Int)+1==0)=false:=by rw[beq_eq_false_iff_ne];omega
 clear u z Xg I c k;go_enter func96,ntmps96;go_wp2_with fail;refine Zz (N.o _) ?_;rintro w1 rfl;go_wp2;refine Yi 0 10 Zq (by kernel_rfl) (fun _ _ _ _ _ h=>h) ?_;simp only[List.take_succ_cons,List.take_zero,List.drop_succ_cons,List.drop_zero];repeat(quiet_step ((fail)))
 refine wpQuiet_nil ?_;intro _ B;obtain⟨nq,q⟩:=B;subst q;go_wp2;refine bodyPost_ret (v:=.tuple #[.agg (ZL p),.bool true]) (by simp[results,Tryz.results96,go_sem]) rfl ⟨rfl,?_⟩;(exact Z0)
theorem Qfk{L:List Jr}{f:Nat}{p:Jr}{l:List Jr}(h:Ow L f (p::l)):Ow L ((f+1)%L.length) l:=by intro i c;have:=h (i+1) (by simpa using c);rw[Nat.mod_add_mod,show f+1+i=f+(i+1) by omega];simpa using this
theorem Qps{w}{b r R J:Nat}(h:Jz w b r R J []):
  ZW 95 #[ZP b] w (.tuple #[.agg #[ZU 0,ZI 0,ZI 0,ZU 0],.bool false]) fun w'=>Qc Qb w w':=by
 have N:=O (fun o=>Qa9 (h.aB ((Zg Qb w).alloc o) (fun h=>h) (fun h=>h)));clear h;go_enter func95,ntmps95;go_wp2_with fail;refine Zz (N.o _) ?_;intro w1 d;have K:w.heap.size<w1.heap.size:=by have:=d.size;simp at this;omega
 have I:=(Qh.new w #[ZU 0,ZI 0,ZI 0,ZU 0] 31);have c:=d.blk I (fun h=>h);have q:=c.cell 0;have u:=c.cell 1;have B:=c.cell 2;have E:=c.cell 3;have z:=c.frozen;simp at q u B E;have k:=O d;clear d I c;go_wp2;refine bodyPost_ret (v:=.tuple #[.agg #[ZU 0,ZI 0,ZI 0,ZU 0],.bool false]) (by simp[results,Tryz.results95,go_sem,K,q,u,B,E]) rfl ⟨rfl,?_⟩;have k:=k.o;refine((((Zg Qb w).alloc _).aA k))|>fun h=>?_;(exact Z0)
theorem Qpt{w}{b r U bt:Nat}{p:Jr}{l:List Jr}(h:Jz w b r U bt (p::l)):
  Cl 95 #[ZP b] w fun e w'=>e=.returned (.tuple #[.agg (ZL p),.bool true])∧
   Jz w' b r U bt l∧Qc (fun k=>k=b) w w':=by
 have N:=O (fun o=>Qba (h.aB ((Zg Qb w).alloc o) (fun h=>h) (fun h=>h)));have Xg:=h.lt;obtain⟨ne,p1,p2,b1,b2,m1,s1,J,L,f,V,q2,hf,hl,hL,hr⟩:=h;have gp:=J p (by simp);have s0:=Hd l (fun q hq=>J q (by simp[hq]));obtain⟨ah,ai⟩:=gp;have hm:l.length<U:=by simp at m1;omega
 have al:l.length+1≤L.length:=by simpa using hl
 have es:Jn (p::l)=p.len+Jn l:=rfl;rw[es]at s1 V;simp only[Zm]at V;have aa:=O (fun(W)(cs:Array Value)(I:cs=#[ZI U,ZI bt,.slice (some ⟨r,0,none⟩) L.length L.length,ZI (((f:Int)+1)%(L.length:Int)),ZI l.length,ZI (p.len+Jn l-p.len)])
   (B:Qh W b cs 155) (R:RowBlk Jr.cells W r L 31)=>show Jz W b r U bt l by
  have e1:((f:Int)+1)%(L.length:Int)=(((f+1)%L.length:Nat):Int):=by simp
  have e2:p.len+Jn l-p.len=Jn l:=by omega
  rw[e1,e2]at I;subst I;exact⟨ne,p1,p2,b1,b2,by omega,by omega,fun q hq=>J q (by simp[hq]),L,(f+1)%L.length,B,R,Nat.mod_lt _ (by omega),by omega,hL,Qfk hr⟩)
 go_enter func95,ntmps95;go_wp2_with fail;refine Zz (N.o _) ?_;intro w1 d;have hc:=((Zg Qb w).alloc (.cells #[ZU 0,ZI 0,ZI 0,ZU 0] 31)).aA d;have hs:w.heap.size<w1.heap.size:=by have:=d.size;simp at this;omega
 have z0:=d.blk (Qh.new w #[ZU 0,ZI 0,ZI 0,ZU 0] 31) (fun h=>h);have k0:=z0.cell 0;have k1:=z0.cell 1;have k2:=z0.cell 2;have k3:=z0.cell 3;have z:=z0.frozen;have c:=hc.blk V (fun h=>h);have Z:=hc.blk q2 (fun h=>h);have d2:=c.cell 2;have d3:=c.cell 3;have d4:=c.cell 4;have d5:=c.cell 5;have dz:=c.frozen;simp at k0 k1 k2 k3 d2 d3 d4 d5;have aj:b<w1.heap.size:=by omega
 have ag:¬w.heap.size=b:=by omega
 have ab:¬w1.heap.size=b:=by omega
 have ac:¬b=w.heap.size:=by omega
 have ae:¬b=w1.heap.size:=by omega
 have P:=O (fun W(h2:W.cell? ⟨b,2,none⟩=w1.cell? ⟨b,2,none⟩)(h3:W.cell? ⟨b,3,none⟩=w1.cell? ⟨b,3,none⟩)=>Ml b f 1 (some ⟨r,0,none⟩) L.length L.length W (h2.trans d2) (h3.trans d3) (by omega) (by omega) (by omega) (by omega) (by omega) (by omega));have HC:=O (Zt hc (Zt d (Zt c Z)));have HR:=O hr;have HG:=O J;have HQ:=O (Zt V (Zt q2 hl));clear hc d z0 c Z hr J V q2 hl m1 es;go_wp2_with fail;refine Zz (P.o _ (by go_simp) (by go_simp)) ?_;rintro w2⟨k,rfl⟩;go_wp2;refine Yi 0 9 Zq (by kernel_rfl) (fun _ _ _ _ _ h=>h) ?_;simp only[List.take_succ_cons,List.take_zero,List.drop_succ_cons,List.drop_zero];repeat(quiet_step ((fail)))
 refine wpQuiet_nil ?_;intro _ af;obtain⟨nq,K⟩:=af;subst K;go_wp2;refine bodyPost_ret (v:=.tuple #[.agg (ZL p),.bool true]) (by simp[results,Tryz.results95,go_sem,hs,k0,k1,k2,k3]) rfl ⟨rfl,?_,?_⟩
 ·have hn:¬((⟨w.heap.size,0,none⟩:Addr).block=b):=fun h=>by simp at h;omega
  have B:=((((((((((HC.o.2.2.1.alloc (.cells (ZL p) 31)).drewN k).set 3 (ZI (((f:Int)+1)%(L.length:Int)))).set 4 (ZI l.length)).drewN nq).set 5 (ZI (p.len+Jn l-p.len))).other (a:=⟨w.heap.size,0,none⟩) (ZU p.id) hn).other (a:=⟨w.heap.size,1,none⟩) (ZI p.cls) hn).other (a:=⟨w.heap.size,2,none⟩) (ZI p.len) hn).other (a:=⟨w.heap.size,3,none⟩) (ZU p.at_) hn);have u:¬((⟨w.heap.size,0,none⟩:Addr).block=r):=fun h=>by simp at h;omega
  have E:¬((⟨b,0,none⟩:Addr).block=r):=ne;have R:=((((((((((HC.o.2.2.2.alloc (.cells (ZL p) 31)).drewN k).other (a:=⟨b,3,none⟩) (ZI (((f:Int)+1)%(L.length:Int))) E).other (a:=⟨b,4,none⟩) (ZI l.length) E).drewN nq).other (a:=⟨b,5,none⟩) (ZI (p.len+Jn l-p.len)) E).other (a:=⟨w.heap.size,0,none⟩) (ZU p.id) u).other (a:=⟨w.heap.size,1,none⟩) (ZI p.cls) u).other (a:=⟨w.heap.size,2,none⟩) (ZI p.len) u).other (a:=⟨w.heap.size,3,none⟩) (ZU p.at_) u);exact aa.o _ _ (by simp) B R
 ·have ak:Qc (fun k=>k=b) w w1:=HC.o.1.mono fun _ h=>h.elim;(exact Z0)
theorem Qt7(c d:Nat)(w)(z:1≤c)(B:c≤4096)(E:1≤d)(I:d≤16777216):
  ZW 104 #[ZI c,ZI d] w (ZP (w.heap.size+1)) fun w'=>Jz w' (w.heap.size+1) w.heap.size c d []∧Qc Qb w w':=by
 have i1:(1:Int)≤(c:Int):=by omega
 have i2:(c:Int)≤4096:=by omega
 have i3:(1:Int)≤(d:Int):=by omega
 have i4:(d:Int)≤16777216:=by omega
 have fin:∀(n:Nat)(W),1≤n→n≤4096→Qh W w.heap.size (Jm Jr.cells (List.replicate n Jr.zero)).toArray 31→Qh W (w.heap.size+1) #[ZI c,ZI d,.slice (some ⟨w.heap.size,0,none⟩) n n,ZI 0,ZI 0,ZI 0] 155→
   Jz W (w.heap.size+1) w.heap.size c d []:=fun n W R U V J=>
  ⟨by omega,z,B,E,I,by simp,by simp[Jn],by simp,List.replicate n Jr.zero,0,by simpa[Jn]using J,V,by simp;omega,by simp,by simp;omega,fun i K=>absurd K (by simp)⟩
 by_cases hp:4≤c
 ·have mk:∀w:World,(Instr.makeSlice 58 (ZI 4) (ZI 4)).run prog w=.ok (.slice (some ⟨w.heap.size,0,none⟩) 4 4) (w.alloc (.cells (Jm Jr.cells (List.replicate 4 Jr.zero)).toArray 31)):=
   fun w=>Gi Q0s 4 (by omega) (by omega) w
  generalize q:(Jm Jr.cells (List.replicate 4 Jr.zero)).toArray=Z at mk;have u:=O q;have k:=O (fin 4);clear q fin;go_enter func104,ntmps104;go_wp2;go_ret;refine⟨rfl,k.o _ (by omega) (by omega) ?_ ?_,?_⟩;·rw[u.o];exact(Qh.new w Z 31).alloc _
  ·exact Qh.new' _ _ (by simp)
  ·(exact Z0)
 ·have mk:∀w:World,(Instr.makeSlice 58 (ZI c) (ZI c)).run prog w=.ok (.slice (some ⟨w.heap.size,0,none⟩) c c) (w.alloc (.cells (Jm Jr.cells (List.replicate c Jr.zero)).toArray 31)):=
   fun w=>Gi Q0s c (by omega) (by omega) w
  generalize q:(Jm Jr.cells (List.replicate c Jr.zero)).toArray=Z at mk;have u:=O q;have k:=O (fin c);clear q fin;go_enter func104,ntmps104;go_wp2;go_ret;refine⟨rfl,k.o _ (by omega) (by omega) ?_ ?_,?_⟩;·rw[u.o];exact(Qh.new w Z 31).alloc _
  ·exact Qh.new' _ _ (by simp)
  ·(exact Z0)
theorem Qoq{T:Type}(L:List T)(z:T)(f m:Nat)(q:m=L.length-f)(k:f<L.length):
  (((List.replicate (2*L.length) z).take 0++L.drop f++(List.replicate (2*L.length) z).drop (0+(L.drop f).length)).take m++L.take f++
   ((List.replicate (2*L.length) z).take 0++L.drop f++(List.replicate (2*L.length) z).drop (0+(L.drop f).length)).drop (m+(L.take f).length))=L.drop f++L.take f++List.replicate L.length z:=by
 have c:(L.drop f).length=m:=by simp;omega
 have d:(L.take f).length=f:=by simp;omega
 simp only[List.take_zero,List.nil_append,Nat.zero_add,List.drop_replicate,c,d];rw[List.take_left' c,←List.drop_drop,List.drop_left' c,List.drop_replicate,show 2*L.length-m-f=L.length by omega]
theorem Qpp{w}{b r:Nat}(c0 c1 c4 c5:Value)(L:List Jr)(f:Nat)(hf:f<L.length)(hL:L.length≤4096)(aa:b≠r)
  (E:Qh w b #[c0,c1,.slice (some ⟨r,0,none⟩) L.length L.length,ZI f,c4,c5] 155)(q2:RowBlk Jr.cells w r L 31):
  Cl 172 #[ZP b] w fun e w'=>e=.returned (.tuple #[])∧
   Qh w' b #[c0,c1,.slice (some ⟨w.heap.size,0,none⟩) (2*L.length) (2*L.length),ZI 0,c4,c5] 155∧
   RowBlk Jr.cells w' w.heap.size (L.drop f++L.take f++List.replicate L.length Jr.zero) 31∧Qc (fun k=>k=b) w w':=by
 have hb:=E.lt;have hr:=q2.lt;have d2:=E.cell 2;have d3:=E.cell 3;simp at d2 d3;have mk:∀w:World,(Instr.makeSlice 58 (ZI (2*(L.length:Int))) (ZI (2*(L.length:Int)))).run prog w=.ok (.slice (some ⟨w.heap.size,0,none⟩) (2*L.length) (2*L.length)) (w.alloc (.cells (Jm Jr.cells (List.replicate (2*L.length) Jr.zero)).toArray 31)):=
  fun w=>by simpa using Gi Q0s (2*L.length) (by omega) (by omega) w
 generalize hz:(Jm Jr.cells (List.replicate (2*L.length) Jr.zero)).toArray=Z at mk;have HZ:=O hz;have HQ:=O (Zt E q2);have f0:(0:Int)≤(f:Int):=by omega
 have f1:(f:Int)≤(L.length:Int):=by omega
 have f2:¬L.length=f:=by omega
 clear hz E q2;go_enter func172,ntmps172;go_wp2;refine Yi 1 10 Zq (by kernel_rfl) (fun _ _ _ _ _ h=>h) ?_;simp only[List.take_succ_cons,List.take_zero,List.drop_succ_cons,List.drop_zero];repeat(quiet_step ((fail)))
 refine wpQuiet_nil ?_;intro _ d;obtain⟨nq,c⟩:=d;subst c;refine Dy Q0s rfl (.tmp 11) (.tmp 20) rfl _ _ _ _ _ _ rfl rfl w.heap.size 0 (List.replicate (2*L.length) Jr.zero) 31 ?_ (L.drop f) ?_ ?_ ?_ ?_ ?_;·show Qh _ _ _ _;rw[HZ.o];exact(Qh.new w Z 31).drewN _
 ·rw[List.length_drop];show _=min _ _;omega
 ·intro _;rfl
 ·have:=(RowBlk.row Jr.aF ((HQ.o.2.alloc (.cells Z 31)).drewN nq)).drop f;simpa using this
 ·simp;omega
 intro w1 R1 J;have u:Qc (fun k=>k=b) w w1:=((((Zg (fun k=>k=b) w).alloc (.cells Z 31)).drewN nq).trans J (fun k hk=>.inr (by omega)));have I:=J.blk (((HQ.o.1.alloc (.cells Z 31)).drewN nq)) (by omega);have R2:=J.blk (((HQ.o.2.alloc (.cells Z 31)).drewN nq)) (by omega);have e2:=I.cell 2;have e3:=I.cell 3;simp at e2 e3;obtain⟨m,hm⟩:=Zx (L.length-f);have l0:(0:Int)≤(m:Int):=by omega
 have l1:(m:Int)≤2*(L.length:Int):=by omega
 have l2:m<2*L.length:=by omega
 have K:=O (Zt u (Zt I (Zt R1 R2)));clear u I R2 R1 J;simp only[List.length_drop];rw[←hm];have V:=O hm;clear hm;go_wp2;refine Yi 2 12 Zq (by kernel_rfl) (fun _ _ _ _ _ h=>h) ?_;simp only[List.take_succ_cons,List.take_zero,List.drop_succ_cons,List.drop_zero];repeat(quiet_step ((fail)))
 refine wpQuiet_nil ?_;intro _ d;obtain⟨nq,c⟩:=d;subst c;refine Dy Q0s rfl (.tmp 24) (.tmp 33) rfl _ _ _ _ _ _ rfl rfl w.heap.size m _ 31 (K.o.2.2.1.drewN _) (L.take f) ?_ ?_ ?_ ?_ ?_;·rw[List.length_take];show _=min _ _;have:=V.o;omega
 ·intro _;rw[if_neg (by omega)]
 ·exact(RowBlk.row Jr.aF (Qh.drewN K.o.2.2.2 _)).take f
 ·have:=V.o;simp;omega
 intro w2 R3 R;have z:=(K.o.1.drewN nq).trans (S':=fun k=>k=w.heap.size) R (fun k hk=>.inr (by omega));have q:=R.blk (K.o.2.1.drewN _) (by omega);have e2:=q.cell 2;have e3:=q.cell 3;have ez:=q.frozen;simp at e2 e3;have U:=O (Zt z (Zt q R3));clear z q R3 R;go_wp2;go_end0;refine⟨rfl,?_,?_,?_⟩;·have B:=(U.o.2.1.set 2 (.slice (some ⟨w.heap.size,0,none⟩) (2*L.length) (2*L.length))).set 3 (ZI 0);simpa using B
 ·rw[←List.append_assoc,←Qoq L Jr.zero f m V.o hf];exact(Qh.other (Qh.other U.o.2.2 (a:=⟨b,2,none⟩) _ (by show b≠_;omega)) (a:=⟨b,3,none⟩) _ (by show b≠_;omega))
 ·have:=U.o.1;(exact Z0)
def D8(d c:Nat)(l:List Jr)(p:Jr):Int:=
 if p.len<1∨65535<p.len then 100 else if l.length=d∨(c:Int)-Jn l<p.len then 110 else 0
theorem Qlu{w}{b r q B:Nat}{l:List Jr}(h:Jz w b r q B l)(p:Jr)(E:p.len<1∨65535<p.len):
  ZW 107 #[ZP b,.agg (ZL p)] w (ZI 100) fun w'=>Qc Qb w w':=by
 have k:Cp p 65535=100:=by unfold Cp;rw[if_neg (by omega),if_pos (by omega)]
 have Xg:=h.lt;obtain⟨_,I,J,_,_,_,_,_,L,f,u,_⟩:=h;have c:=u.cell 0;simp at c;have N:=O (fun o=>Hy b q (w.alloc o) (by rw[World.cell?_alloc_past _ _ _ Xg.1];exact c) (by omega));have M:=O (fun w=>Rn p 65535 w);rw[k]at M;clear u k;go_enter func107,ntmps107;go_wp2_with fail;refine Zz (N.o _) ?_;rintro w1 rfl;go_wp2_with fail;refine Zz (M.o _) ?_;intro w2 d;have z:=O d;clear d;go_wp2;go_ret;exact⟨rfl,((Zg _ _).alloc _).aA z.o⟩
theorem Qlt{w}{b r k z:Nat}{l:List Jr}(h:Jz w b r k z l)(p:Jr)(hp:1≤p.len)(aa:p.len≤65535)(c:l.length=k∨(z:Int)-Jn l<p.len):
  ZW 107 #[ZP b,.agg (ZL p)] w (ZI 110) fun w'=>Qc Qb w w':=by
 have V:Cp p 65535=0:=by unfold Cp;rw[if_neg (by omega),if_neg (by omega)]
 have Xg:=h.lt;obtain⟨_,p1,p2,b1,b2,_,s1,R,L,f,B,_⟩:=h;have s0:=Hd l R;have K:=B.cell 0;simp at K;have N:=O (fun o=>Hy b k (w.alloc o) (by rw[World.cell?_alloc_past _ _ _ Xg.1];exact K) (by omega));have M:=O (fun w=>Rn p 65535 w);rw[V]at M;have Z:=Qh.new w (ZL p) 31;have Q:=B.alloc (.cells (ZL p) 31);have I:=O (Zt Z Q);have U:=Xg.1;clear B V Z Q R Xg;go_enter func107,ntmps107;go_wp2_with fail;refine Zz (N.o _) ?_;rintro w1 rfl;go_wp2_with fail;refine Zz (M.o _) ?_;intro w2 u;have J:=u.blk I.o.1 (fun h=>h);have q:=u.blk I.o.2 (fun h=>h);have z2:=J.cell 2;have k0:=q.cell 0;have k1:=q.cell 1;have k4:=q.cell 4;have k5:=q.cell 5;simp at z2 k0 k1 k4 k5;have E:=O u;clear u J q;by_cases d:l.length=k
 ·have g:((l.length:Int)==(k:Int))=true:=by simp[d]
  have HL:=O d;have HF:=O c;clear d c;go_wp2;go_quiet (fail);go_wp2;go_ret;exact⟨rfl,(((Zg _ _).alloc _).aA E.o).drewN _⟩
 ·have g:((l.length:Int)==(k:Int))=false:=by simp;omega
  have g2:decide ((z:Int)-Jn l<p.len)=true:=by
   rcases c with h|h;·exact absurd h d
   ·simpa using h
  have HL:=O d;have HF:=O c;clear d c;go_wp2;go_quiet (fail);go_wp2;go_ret;exact⟨rfl,(((Zg _ _).alloc _).aA E.o).drewN _⟩
theorem Qfj{L:List Jr}{f:Nat}{l:List Jr}(h:Ow L f l)(p:Jr)(K:l.length<L.length):Ow (L.set ((f+l.length)%L.length) p) f (l++[p]):=by
 intro i E;have z:0<L.length:=by omega
 rw[List.length_set];by_cases k:i=l.length;·subst k;rw[List.getElem?_set_self (Nat.mod_lt _ z)];simp
 ·have c:i<l.length:=by simp at E;omega
  rw[List.getElem?_append_left c,List.getElem?_set_ne,h i c];intro B;have q:=Nat.div_add_mod (f+l.length) L.length;have I:=Nat.div_add_mod (f+i) L.length;rw[B]at q;have J:L.length*((f+l.length)/L.length)=L.length*((f+i)/L.length)+(l.length-i):=by omega
  have u:L.length*((f+l.length)/L.length-(f+i)/L.length)=l.length-i:=by rw[Nat.mul_sub];omega
  rcases Nat.eq_zero_or_pos ((f+l.length)/L.length-(f+i)/L.length)with d|d;·rw[d]at u;omega
  ·have:L.length*1≤L.length*((f+l.length)/L.length-(f+i)/L.length):=Nat.mul_le_mul_left _ d;omega
theorem Qd6{w}{r:Nat}{L:List Jr}{t:TypeId}(h:RowBlk Jr.cells w r L t)(i:Nat)(c:i<L.length)(p:Jr):
  RowBlk Jr.cells ((((w.setCell ⟨r,i*4,none⟩ (ZU p.id)).setCell ⟨r,i*4+1,none⟩ (ZI p.cls)).setCell ⟨r,i*4+2,none⟩ (ZI p.len)).setCell ⟨r,i*4+3,none⟩ (ZU p.at_)) r (L.set i p) t:=
 RowBlk.store Jr.aF h i c p
theorem Qim{W}{b r d c:Nat}{l:List Jr}{L:List Jr}{f:Nat}{p:Jr}(ne:b≠r)(p1:1≤d)(p2:d≤4096)(E:1≤c)(I:c≤16777216)(V:∀q∈l,Ll q)
  (U:f<L.length)(Z:l.length<L.length)(K:L.length≤8192)(hr:Ow L f l)(hm:l.length<d)(hp:1≤p.len)(u:p.len≤65535)(hs:p.len≤c-Jn l)
  (cs:Array Value)(k:cs=#[ZI d,ZI c,.slice (some ⟨r,0,none⟩) L.length L.length,ZI f,ZI ((l.length:Int)+1),ZI (Jn l+p.len)])
  (B:Qh W b cs 155) (R:RowBlk Jr.cells W r (L.set ((f+l.length)%L.length) p) 31):Jz W b r d c (l++[p]):=by
 have z:Jn (l++[p])=Jn l+p.len:=by rw[Tk];simp[Jn]
 have J:(((l++[p]).length:Nat):Int)=(l.length:Int)+1:=by simp
 subst k;refine⟨ne,p1,p2,E,I,by simp;omega,by rw[z];omega,?_,_,f,?_,R,by simpa using U,by simp;omega,by simpa using K,Qfj hr p Z⟩
 ·intro q hq;rcases Zl.1 hq with h|h;·exact V q h
  ·have:q=p:=by simpa using h
   subst this;exact⟨hp,u⟩
 ·rw[z,J,List.length_set];exact B
theorem Qlv{w}{b r U V:Nat}{l:List Jr}{L:List Jr}{f:Nat}(p:Jr)(ne:b≠r)(p1:1≤U)(p2:U≤4096)(b1:1≤V)(b2:V≤16777216)(hg:∀q∈l,Ll q)
  (hf:f<L.length)(hl:l.length<L.length)(hL:L.length≤8192)(hr:Ow L f l)(hm:l.length<U)(hp:1≤p.len)(ae:p.len≤65535)(hs:p.len≤V-Jn l)
  (q1:Qh w b #[ZI U,ZI V,.slice (some ⟨r,0,none⟩) L.length L.length,ZI f,ZI l.length,ZI (Jn l)] 155)
  (q2:RowBlk Jr.cells w r L 31):
  ZW 107 #[ZP b,.agg (ZL p)] w (ZI 0) fun w'=>Jz w' b r U V (l++[p])∧Qc (fun k=>k=b∨k=r) w w':=by
 have aa:Cp p 65535=0:=by unfold Cp;rw[if_neg (by omega),if_neg (by omega)]
 have ab:=O (fun W cs ac B R=>Qim (W:=W) (p:=p) ne p1 p2 b1 b2 hg hf hl hL hr hm hp ae hs cs ac B R);have s0:=Hd l hg;have hb:=q1.lt;have ag:=q2.lt;have c0:=q1.cell 0;simp at c0;have N:=O (fun o=>Hy b U (w.alloc o) (by rw[World.cell?_alloc_past _ _ _ hb];exact c0) (by omega));have M:=O (fun w=>Rn p 65535 w);rw[aa]at M;have HH:=O (Zt (Qh.new w (ZL p) 31) (Zt (q1.alloc (.cells (ZL p) 31)) (q2.alloc (.cells (ZL p) 31))));clear q1 q2 aa hg hr c0;go_enter func107,ntmps107;go_wp2_with fail;refine Zz (N.o _) ?_;rintro w1 rfl;go_wp2_with fail;refine Zz (M.o _) ?_;intro w2 Z;have Z2:=Z.blk HH.o.1 (fun h=>h);have I:=Z.blk HH.o.2.1 (fun h=>h);have R2:RowBlk Jr.cells w2 r L 31:=Z.blk HH.o.2.2 (fun h=>h);have ah:w.heap.size<w2.heap.size:=by have:=Z.size;simp at this;omega
 have z0:=Z2.cell 0;have z1:=Z2.cell 1;have z2:=Z2.cell 2;have z3:=Z2.cell 3;have k0:=I.cell 0;have k1:=I.cell 1;have k2:=I.cell 2;have k3:=I.cell 3;have k4:=I.cell 4;have k5:=I.cell 5;have kz:=I.frozen;have rz:=Qh.frozen R2;simp at z0 z1 z2 z3 k0 k1 k2 k3 k4 k5;have PL:=O (fun n=>Ml b f (l.length:Int) (some ⟨r,0,none⟩) L.length L.length (w2.drewN n) k2 k3 (by omega) (by omega) (by omega) (by omega) (by omega) (by omega));obtain⟨d,z⟩:=Zx ((f+l.length)%L.length);have J:((f:Int)+(l.length:Int))%(L.length:Int)=(d:Int):=by rw[z];simp
 rw[J]at PL;have c:d<L.length:=by rw[z];exact Nat.mod_lt _ (by omega)
 have g1:((l.length:Int)==(U:Int))=false:=by simp;omega
 have g2:decide ((V:Int)-Jn l<p.len)=false:=by simp;omega
 have g3:((l.length:Int)==(L.length:Int))=false:=by simp;omega
 have n0:(0:Int)≤(d:Int):=by omega
 have n1:(d:Int)<(L.length:Int):=by omega
 have nb:¬r=b:=fun h=>ne h.symm;have HC:=O (Zt Z (Zt I R2));have RC:=O (fun i(h:i<L.length)j u hu=>R2.cellAt Jr.aF i h j u hu);have af:=RC.o d c 0 _ rfl;have ai:=RC.o d c 1 _ rfl;have aj:=RC.o d c 2 _ rfl;have ak:=RC.o d c 3 _ rfl;simp only[Nat.add_zero]at af;have HP:=O z;clear Z Z2 I R2 z J;go_wp2;go_quiet (fail);go_wp2;go_quiet (fail);go_wp2;refine Yi 0 12 Zq (by kernel_rfl) (fun _ _ _ _ _ h=>h) ?_;simp only[List.take_succ_cons,List.take_zero,List.drop_succ_cons,List.drop_zero];repeat(quiet_step ((go_at_call 148;exact Qpu (PL.o _))))
 refine wpQuiet_nil ?_;intro _ K;obtain⟨nq,E⟩:=K;subst E;go_wp2;refine Yi 0 9 Zq (by kernel_rfl) (fun _ _ _ _ _ h=>h) ?_;simp only[List.take_succ_cons,List.take_zero,List.drop_succ_cons,List.drop_zero];repeat(quiet_step ((fail)))
 refine wpQuiet_nil ?_;intro _ K;obtain⟨nq,E⟩:=K;subst E;go_wp2;go_ret;refine⟨rfl,?_,?_⟩
 ·have e:=HP.o;rw[e]at c;subst e;exact ab.o _ _ (by simp) (Qh.set (Qh.drewN (Qh.set (Qh.other (Qh.other (Qh.other (Qh.other (Qh.drewN HC.o.2.1 _) _ nb) _ nb) _ nb) _ nb) 4 _) _) 5 _)
   (Qh.other (Qh.drewN (Qh.other (Qd6 (Qh.drewN HC.o.2.2 _) _ c p) _ ne) _) _ ne)
 ·have h1:=HC.o.1;have h2:Qc (fun k=>k=b∨k=r) w w2:=(((Zg _ w).alloc (.cells (ZL p) 31)).trans h1 fun k h=>h.elim);(exact Z0)
theorem Qfi{L:List Jr}{f:Nat}{l:List Jr}(h:Ow L f l)(u:f<L.length)(B:l.length=L.length)(z:Jr):
  Ow (L.drop f++L.take f++List.replicate L.length z) 0 l:=by
 intro i d;have c:(L.drop f++L.take f++List.replicate L.length z).length=2*L.length:=by simp;omega
 have k:i<L.length:=by omega
 rw[c,Nat.zero_add,Nat.mod_eq_of_lt (by omega),List.getElem?_append_left (by simp;omega),←h i d];by_cases q:i<L.length-f;·rw[List.getElem?_append_left (by simp;omega),List.getElem?_drop,Nat.mod_eq_of_lt (by omega)]
 ·rw[List.getElem?_append_right (by simp;omega),List.getElem?_take,if_pos (by simp;omega)];congr 1;rw[show f+i=(f+i-L.length)+L.length by omega,Nat.add_mod_right,Nat.mod_eq_of_lt (by omega)];simp;omega
theorem Qio{w}{b r pk bt:Nat}{l:List Jr}{L:List Jr}{f:Nat}(p:Jr)(ne:b≠r)(p1:1≤pk)(p2:pk≤4096)(b1:1≤bt)(b2:bt≤16777216)(hg:∀q∈l,Ll q)
  (hf:f<L.length)(hl:l.length=L.length)(hL:L.length≤8192)(hr:Ow L f l)(hm:l.length<pk)(hp:1≤p.len)(ai:p.len≤65535)(hs:p.len≤bt-Jn l)
  (q1:Qh w b #[ZI pk,ZI bt,.slice (some ⟨r,0,none⟩) L.length L.length,ZI f,ZI l.length,ZI (Jn l)] 155)
  (q2:RowBlk Jr.cells w r L 31):
  ZW 107 #[ZP b,.agg (ZL p)] w (ZI 0) fun w'=>∃r',w.heap.size≤r'∧Jz w' b r' pk bt (l++[p])∧Qc (fun k=>k=b∨k=r) w w':=by
 have ae:Cp p 65535=0:=by unfold Cp;rw[if_neg (by omega),if_neg (by omega)]
 obtain⟨K,I⟩:=Zx (L.drop f++L.take f++List.replicate L.length Jr.zero);have c:K.length=2*L.length:=by rw[I];simp;omega
 have af:Ow K 0 l:=by rw[I];exact Qfi hr hf hl _
 have ag:=O (fun W r'(aj:b≠r')cs ah B R=>Qim (W:=W) (r:=r') (L:=K) (f:=0) (p:=p) aj p1 p2 b1 b2 hg (by omega) (by omega) (by omega) af hm hp ai hs cs ah B R);have s0:=Hd l hg;have hb:=q1.lt;have al:=q2.lt;have c0:=q1.cell 0;simp at c0;have N:=O (fun o=>Hy b pk (w.alloc o) (by rw[World.cell?_alloc_past _ _ _ hb];exact c0) (by omega));have M:=O (fun w=>Rn p 65535 w);rw[ae]at M;have HH:=O (Zt (Qh.new w (ZL p) 31) (Zt (q1.alloc (.cells (ZL p) 31)) (q2.alloc (.cells (ZL p) 31))));have G:=O (fun(W)(q1:Qh W b #[ZI pk,ZI bt,.slice (some ⟨r,0,none⟩) L.length L.length,ZI f,ZI l.length,ZI (Jn l)] 155)
  (q2:RowBlk Jr.cells W r L 31)=>Qpp _ _ _ _ L f hf (by omega) ne q1 q2)
 rw[←I]at G;have g1:((l.length:Int)==(pk:Int))=false:=by simp;omega
 have g2:decide ((bt:Int)-Jn l<p.len)=false:=by simp;omega
 have g3:((l.length:Int)==(L.length:Int))=true:=by simp;omega
 have i1:l.length≤L.length:=by omega
 have i2:L.length≤l.length:=by omega
 have HL:=O (Zt hl (Zt c I));clear q1 q2 ae hg hr c0 hl c I af;go_enter func107,ntmps107;go_wp2_with fail;refine Zz (N.o _) ?_;rintro w1 rfl;go_wp2_with fail;refine Zz (M.o _) ?_;intro w2 hc;have Z2:=hc.blk HH.o.1 (fun h=>h);have Q2:=hc.blk HH.o.2.1 (fun h=>h);have R2:RowBlk Jr.cells w2 r L 31:=hc.blk HH.o.2.2 (fun h=>h);have am:w.heap.size<w2.heap.size:=by have:=hc.size;simp at this;omega
 have z2:=Z2.cell 2;have k0:=Q2.cell 0;have k1:=Q2.cell 1;have k2:=Q2.cell 2;have k4:=Q2.cell 4;have k5:=Q2.cell 5;simp at z2 k0 k1 k2 k4 k5;have HC:=O (Zt hc (Zt Q2 (Zt R2 Z2)));clear hc Z2 Q2 R2;go_wp2;go_quiet (fail);go_wp2;go_quiet (fail);go_wp2_with fail;refine Zz (G.o _ (HC.o.2.1.drewN _) (Qh.drewN HC.o.2.2.1 _)) ?_;rintro w3⟨V,R3,C3⟩;simp only[World.heap_drewN]at V R3;have an:w2.heap.size<w3.heap.size:=Qh.lt R3;clear z2 k0 k1 k2 k4 k5;have ac:Qc (fun k=>k=b∨k=r) w w3:=((((Zg _ w).alloc (.cells (ZL p) 31)).trans HC.o.1 (fun k h=>h.elim)).drewN _).trans C3 (fun k h=>.inl (.inl h));have Z3:Qh w3 w.heap.size (ZL p) 31:=C3.blk (HC.o.2.2.2.drewN _) (by omega);have z0:=Z3.cell 0;have z1:=Z3.cell 1;have z2:=Z3.cell 2;have z3:=Z3.cell 3;have k2:=V.cell 2;have k3:=V.cell 3;have k4:=V.cell 4;have k5:=V.cell 5;have kz:=V.frozen;have rz:=Qh.frozen R3;simp at z0 z1 z2 z3 k2 k3 k4 k5;have c:=HL.o.2.1;rw[←c]at k2;have PL:=O (fun n=>Ml b 0 (l.length:Int) (some ⟨w2.heap.size,0,none⟩) K.length K.length (w3.drewN n) k2 k3 (by omega) (by omega) (by omega) (by omega) (by omega) (by omega));obtain⟨z,E⟩:=Zx ((0+l.length)%K.length);have Z:((0:Int)+(l.length:Int))%(K.length:Int)=(z:Int):=by rw[E];simp
 rw[Z]at PL;have d:z<K.length:=by rw[E];exact Nat.mod_lt _ (by omega)
 have n0:(0:Int)≤(z:Int):=by omega
 have n1:(z:Int)<(K.length:Int):=by omega
 have U:b≠w2.heap.size:=by omega
 have nb:¬w2.heap.size=b:=fun h=>U h.symm;have RC:=O (fun i(h:i<K.length)j u hu=>R3.cellAt Jr.aF i h j u hu);have ak:=RC.o z d 0 _ rfl;have ao:=RC.o z d 1 _ rfl;have ap:=RC.o z d 2 _ rfl;have aq:=RC.o z d 3 _ rfl;simp only[Nat.add_zero]at ak;have HP:=O E;have aa:=O (Zt ac (Zt V R3));have H2:=O c;clear V R3 C3 ac Z3 E Z c;go_wp2;refine Yi 0 12 Zq (by kernel_rfl) (fun _ _ _ _ _ h=>h) ?_;simp only[List.take_succ_cons,List.take_zero,List.drop_succ_cons,List.drop_zero];repeat(quiet_step ((go_at_call 148;exact Calls.quiet_of (PL.o _))))
 refine wpQuiet_nil ?_;intro _ ab;obtain⟨nq,J⟩:=ab;subst J;go_wp2;refine Yi 0 9 Zq (by kernel_rfl) (fun _ _ _ _ _ h=>h) ?_;simp only[List.take_succ_cons,List.take_zero,List.drop_succ_cons,List.drop_zero];repeat(quiet_step ((fail)))
 refine wpQuiet_nil ?_;intro _ ab;obtain⟨nq,J⟩:=ab;subst J;go_wp2;go_ret;refine⟨rfl,w2.heap.size,by omega,?_,?_⟩
 ·have e:=HP.o;rw[e]at d;subst e;exact ag.o _ _ U _ (by simp[H2.o]) (Qh.set (Qh.drewN (Qh.set (Qh.other (Qh.other (Qh.other (Qh.other (Qh.drewN aa.o.2.1 _) _ nb) _ nb) _ nb) _ nb) 4 _) _) 5 _)
   (Qh.other (Qh.drewN (Qh.other (Qd6 (Qh.drewN aa.o.2.2 _) _ d p) _ U) _) _ U)
 ·have h1:=aa.o.1;(exact Z0)
theorem Qsj{w}{b r I d:Nat}{l:List Jr}(h:Jz w b r I d l)(p:Jr)(z:D8 I d l p=0):
  ZW 107 #[ZP b,.agg (ZL p)] w (ZI 0) fun w'=>∃c,(c=r∨w.heap.size≤c)∧Jz w' b c I d (l++[p])∧Qc (fun k=>k=b∨k=r) w w':=by
 unfold D8 at z;split at z;·omega
 ·split at z;·omega
  ·rename_i h1 h2;obtain⟨ne,p1,p2,J,K,m1,s1,R,L,f,q1,q2,V,hl,U,Z⟩:=h;by_cases hg:l.length=L.length;·refine(Qio p ne p1 p2 J K R V hg U Z (by omega) (by omega) (by omega) (by omega) q1 q2).mono ?_;rintro e w'⟨u,c,E,B,q⟩;exact⟨u,c,.inr E,B,q⟩
   ·refine(Qlv p ne p1 p2 J K R V (by omega) U Z (by omega) (by omega) (by omega) (by omega) q1 q2).mono ?_;rintro e w'⟨u,B,q⟩;exact⟨u,r,.inl rfl,B,q⟩
theorem Qsi{w}{b r q d:Nat}{l:List Jr}(h:Jz w b r q d l)(p:Jr)(k:D8 q d l p≠0):
  ZW 107 #[ZP b,.agg (ZL p)] w (ZI (D8 q d l p)) fun w'=>Qc Qb w w':=by
 unfold D8 at*;split at k;·rename_i c;rw[if_pos c];exact Qlu h p c
 ·rename_i c;rw[if_neg c];split at k;·rename_i u;rw[if_pos u];exact Qlt h p (by omega) (by omega) u
  ·exact absurd rfl k
theorem Qpo{w}{b r J E:Nat}{l:List Jr}(h:Jz w b r J E l):
  ZW 73 #[ZP b] w (ZP w.heap.size) fun w'=>Jz w' w.heap.size (w.heap.size+1) J E l∧Qc Qb w w':=by
 have Xg:=h.lt;obtain⟨ne,p1,p2,b1,b2,m1,s1,V,L,f,c,q2,hf,hl,hL,hr⟩:=h;have c0:=c.cell 0;have c1:=c.cell 1;have c2:=c.cell 2;have c3:=c.cell 3;have c4:=c.cell 4;have c5:=c.cell 5;simp at c0 c1 c2 c3 c4 c5;have mk:∀w:World,(Instr.makeSlice 58 (ZI L.length) (ZI L.length)).run prog w=.ok (.slice (some ⟨w.heap.size,0,none⟩) L.length L.length) (w.alloc (.cells (Jm Jr.cells (List.replicate L.length Jr.zero)).toArray 31)):=
  fun w=>Gi Q0s L.length (by omega) (by omega) w
 generalize hz:(Jm Jr.cells (List.replicate L.length Jr.zero)).toArray=Z at mk;have hb:=Xg.1;have aa:=Xg.2;have q:=O (Zt hr (Zt c (Zt q2 (Zt V hz))));clear hr c q2 V hz Xg;go_enter func73,ntmps73;go_wp2;refine Yi 0 6 Zq (by kernel_rfl) (fun _ _ _ _ _ h=>h) ?_;simp only[List.take_succ_cons,List.take_zero,List.drop_succ_cons,List.drop_zero];repeat(quiet_step ((fail)))
 refine wpQuiet_nil ?_;intro _ I;obtain⟨nq,d⟩:=I;subst d;refine Dy Q0s rfl (.tmp 17) (.tmp 21) rfl _ _ _ _ _ _ rfl rfl (w.heap.size+1) 0 (List.replicate L.length Jr.zero) 31 ?_ L ?_ ?_ ?_ ?_ ?_;·show Qh _ _ _ _;rw[q.o.2.2.2.2];exact(Qh.new' Z 31 (by simp)).drewN _
 ·show _=min _ _;omega
 ·intro _;rfl
 ·exact RowBlk.row Jr.aF (Qh.drewN (Qh.alloc (Qh.alloc q.o.2.2.1 _) _) _)
 ·simp
 intro w1 B u;have U:(List.replicate L.length Jr.zero).take 0++L++(List.replicate L.length Jr.zero).drop (0+L.length)=L:=by simp
 rw[U]at B;have K:=u.blk (Qh.drewN (Qh.alloc (Qh.new w #[ZI J,ZI E,.slice (some ⟨w.heap.size+1,0,none⟩) L.length L.length,ZI f,ZI l.length,ZI (Jn l)] 155) (.cells Z 31)) nq) (by omega);have R:Qc Qb w w1:=((((Zg Qb w).alloc _).alloc _).drewN _).trans u (fun k hk=>.inr (by omega));have z:=O (Zt K (Zt B R));clear K B R u U;go_wp2;go_ret;exact⟨rfl,⟨by omega,p1,p2,b1,b2,m1,s1,q.o.2.2.2.1,L,f,z.o.1,z.o.2.1,hf,hl,hL,q.o.1⟩,z.o.2.2⟩
end Go.Proofs.YtigcnnkagkbflaaGreat
