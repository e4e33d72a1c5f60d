/- A part of the proof: no condition. -/
import Derived.Test.YtnnhmpehkbihnaaGreatPk06
import Derived.WalkSpells
import Derived.WalkLawsBesides
import Derived.Laws.StructEq
import Derived.Laws.MakeOwn
namespace Go.Proofs.YtnnhmpehkbihnaaGreat
set_option linter.unusedVariables false
set_option maxRecDepth 100000
set_option maxHeartbeats 4000000
open Go.RowKit
open Go.Proofs.Tryz
structure Jr where
 id:Int
 cls:Int
 len:Int
 at_:Int
def Jr.cells(p:Jr):List Value:=[.int .u64 p.id,.int .i64 p.cls,.int .i64 p.len,.int .u64 p.at_]
theorem Jr.aF(p:Jr):p.cells.length=4:=rfl
def Jr.zero:Jr:=⟨0,0,0,0⟩
theorem pktT:Qce prog Jr.cells 4 27 34 32 Jr.zero where
 ht:=underlying27
 hi:=Ee (by kernel_rfl)
 pos:=by decide
 hc:=Jr.aF
 one:=by intro x u c;simp only[Jr.cells,Zu,List.not_mem_nil,or_false]at c;rcases c with rfl|rfl|rfl|rfl<;>rfl
def Jn:List Jr→Int
 |[]=>0
 |p::l=>p.len+Jn l
theorem Tk(a b:List Jr):Jn (a++b)=Jn a+Jn b:=by
 induction a with
 |nil=>simp[Jn]
 |cons p a c=>simp only[List.cons_append,Jn,c];omega
def Ll(p:Jr):Prop:=1≤p.len∧p.len≤65535
theorem Hd:∀(l:List Jr),(∀p∈l,Ll p)→0≤Jn l
 |[],_=>by simp[Jn]
 |p::l,h=>by have:=Hd l (fun q c=>h q (by simp[c]));have:=(h p (by simp)).1;simp only[Jn];omega
def Ow(L:List Jr)(f:Nat)(l:List Jr):Prop:=∀i,i<l.length→L[(f+i)%L.length]? =l[i]?
structure Jz(w:World)(b r:Nat)(pk bt:Nat)(l:List Jr):Prop where
 ne:b≠r
 pk1:1≤pk
 pk2:pk≤4096
 bt1:1≤bt
 bt2:bt≤16777216
 many:l.length≤pk
 held:Jn l≤bt
 good:∀p∈l,Ll p
 ring:∃(L:List Jr)(f:Nat),Qh w b #[.int .i64 pk,.int .i64 bt,.slice (some ⟨r,0,none⟩) L.length L.length,.int .i64 f,.int .i64 l.length,.int .i64 (Jn l)] 123∧
  RowBlk Jr.cells w r L 34∧f<L.length∧l.length≤L.length∧L.length≤8192∧Ow L f l
theorem Jz.aB{w w1}{b r pk bt:Nat}{l:List Jr}{S:Nat→Prop}(h:Jz w b r pk bt l)(hc:Qc S w w1)(B:¬S b)(hr:¬S r):Jz w1 b r pk bt l:=by obtain⟨h0,h1,c,d,k,q,u,z,L,f,q1,q2,E⟩:=h;exact⟨h0,h1,c,d,k,q,u,z,L,f,hc.blk q1 B,hc.blk q2 hr,E⟩
theorem Jz.lt{w}{b r pk bt:Nat}{l:List Jr}(h:Jz w b r pk bt l):b<w.heap.size∧r<w.heap.size:=by obtain⟨_,_,_,_,_,_,_,_,L,f,q1,q2,_⟩:=h;exact⟨q1.lt,q2.lt⟩
theorem Qpq(b:Nat)(n:Int)(w:World)(h0:w.cell? ⟨b,0,none⟩=some (.int .i64 n)):
  Cl 78 #[.pointer (some ⟨b,0,none⟩)] w fun e w'=>e=.returned (.bool (n==0))∧w=w':=by
 go_enter func78,ntmps78;go_wp2;go_ret;exact⟨rfl,rfl⟩
theorem Hy(b:Nat)(n:Int)(w:World)(h0:w.cell? ⟨b,0,none⟩=some (.int .i64 n))(hn:1≤n):
  Cl 78 #[.pointer (some ⟨b,0,none⟩)] w fun e w'=>e=.returned (.bool false)∧w=w':=
 (Qpq b n w h0).mono fun e w'⟨c,d⟩=>⟨by rw[c];congr 2;simp;omega,d⟩
theorem Ml(b:Nat)(f n:Int)(a:Option Addr)(len cap:Nat)(w:World)(u:w.cell? ⟨b,2,none⟩=some (.slice a len cap))(z:w.cell? ⟨b,3,none⟩=some (.int .i64 f))
  (hf:0≤f) (c:f≤10000) (hn:0≤n) (q:n≤10000) (hl:0<len) (d:len≤10000):
  Cl 131 #[.pointer (some ⟨b,0,none⟩),.int .i64 n] w fun e w'=>e=.returned (.int .i64 ((f+n)%len))∧∃k,w'=w.drewN k:=by
 go_enter func131,ntmps131;go_wp2;go_quiet (fail);go_wp2;go_ret;exact⟨rfl,_,rfl⟩
theorem Qin{w}{b r pk bt:Nat}{l:List Jr}(h:Jz w b r pk bt l):
  Cl 31 #[.pointer (some ⟨b,0,none⟩)] w fun e w'=>e=.returned (.int .i64 l.length)∧w=w':=by
 obtain⟨_,p1,k,_,_,_,_,_,L,f,q1,_⟩:=h;have c:=q1.cell 0;have d:=q1.cell 4;simp at c d;have N:=O (Hy b pk w c (by omega));clear q1;go_enter func31,ntmps31;go_wp2_with fail;refine Zy N ?_;rintro w1 rfl;go_wp2;go_ret;exact⟨rfl,rfl⟩
theorem Qls{w}{b r pk bt:Nat}{l:List Jr}(h:Jz w b r pk bt l):
  Cl 32 #[.pointer (some ⟨b,0,none⟩)] w fun e w'=>e=.returned (.int .i64 (Jn l))∧w=w':=by
 obtain⟨_,p1,k,_,_,_,_,_,L,f,q1,_⟩:=h;have c:=q1.cell 0;have d:=q1.cell 5;simp at c d;have N:=O (Hy b pk w c (by omega));clear q1;go_enter func32,ntmps32;go_wp2_with fail;refine Zy N ?_;rintro w1 rfl;go_wp2;go_ret;exact⟨rfl,rfl⟩
def Cp(p:Jr)(most:Int):Int:=if most<1∨65536≤most then 2 else if p.len<1∨most<p.len then 100 else 0
theorem Rn(p:Jr)(most:Int)(w):
  Cl 72 #[.agg #[.int .u64 p.id,.int .i64 p.cls,.int .i64 p.len,.int .u64 p.at_],.int .i64 most] w fun e w'=>e=.returned (.int .i64 (Cp p most))∧Qc Qb w w':=by
 obtain⟨id,cls,len,at_⟩:=p;by_cases h1:most<1;·have E:=O (show Cp ⟨id,cls,len,at_⟩ most=2 from if_pos (.inl h1));go_enter func72,ntmps72;go_wp2;go_ret;exact⟨by rw[E.o];rfl,(Zg _ _).alloc _⟩
 ·by_cases d:65536≤most;·have E:=O (show Cp ⟨id,cls,len,at_⟩ most=2 from if_pos (.inr d));go_enter func72,ntmps72;go_wp2;go_ret;exact⟨by rw[E.o];rfl,(Zg _ _).alloc _⟩
  ·have c:Cp ⟨id,cls,len,at_⟩ most=if len<1∨most<len then 100 else 0:=if_neg (by omega);by_cases k:len<1;·have E:=O (c.trans (if_pos (.inl k)));clear c;go_enter func72,ntmps72;go_wp2;go_ret;exact⟨by rw[E.o];rfl,(Zg _ _).alloc _⟩
   ·by_cases q:most<len;·have E:=O (c.trans (if_pos (.inr q)));clear c;go_enter func72,ntmps72;go_wp2;go_ret;exact⟨by rw[E.o];rfl,(Zg _ _).alloc _⟩
    ·have E:=O (c.trans (if_neg (by omega)));clear c;go_enter func72,ntmps72;go_wp2;go_ret;exact⟨by rw[E.o];rfl,(Zg _ _).alloc _⟩
theorem Qa9{w}{b r pk bt:Nat}(h:Jz w b r pk bt []):
  Cl 96 #[.pointer (some ⟨b,0,none⟩)] w fun e w'=>e=.returned (.tuple #[.agg #[.int .u64 0,.int .i64 0,.int .i64 0,.int .u64 0],.bool false])∧Qc Qb w w':=by
 have Xg:=h.lt;obtain⟨_,p1,q,_,_,_,_,_,L,f,q1,_⟩:=h;have c:=q1.cell 0;have d:=q1.cell 4;simp at c d;have N:=O (fun o=>Hy b pk (w.alloc o) (by rw[World.cell?_alloc_past _ _ _ Xg.1];exact c) (by omega));have k:=Xg.1;clear q1 Xg;go_enter func96,ntmps96;go_wp2_with fail;refine Zz (N.o _) ?_;rintro w1 rfl;go_wp2;refine bodyPost_ret (v:=.tuple #[.agg #[.int .u64 0,.int .i64 0,.int .i64 0,.int .u64 0],.bool false]) (by simp[results,Tryz.results96,go_sem]) rfl ⟨rfl,?_⟩;(repeat' (first|(with_reducible first|exact Zg _ _|assumption|refine Zh ?_ _|refine Zi ?_ _|refine Zj ?_|refine Zk ?_ _ ?_|(apply Or.inl;rfl))|(apply Or.inl;simp;done)|(apply Or.inr;simp;first|done|omega)))
theorem Qba{w}{b r pk bt:Nat}{p:Jr}{l:List Jr}(h:Jz w b r pk bt (p::l)):
  Cl 96 #[.pointer (some ⟨b,0,none⟩)] w fun e w'=>e=.returned (.tuple #[.agg #[.int .u64 p.id,.int .i64 p.cls,.int .i64 p.len,.int .u64 p.at_],.bool true])∧Qc Qb w w':=by
 have Xg:=h.lt;obtain⟨_,p1,p2,_,_,m1,_,_,L,f,q1,q2,hf,hl,hL,hr⟩:=h;have c:L[f]? =some p:=by have:=hr 0 (by simp);rw[Nat.add_zero,Nat.mod_eq_of_lt hf]at this;simpa using this
 have d:L[f]=p:=by rw[List.getElem?_eq_getElem hf]at c;exact Zs c
 have u:=q1.cell 0;have z:=q1.cell 2;have B:=q1.cell 3;have E:=q1.cell 4;have J:=q2.cellAt Jr.aF f hf 0 _ (by rw[d];rfl);have K:=q2.cellAt Jr.aF f hf 1 _ (by rw[d];rfl);have R:=q2.cellAt Jr.aF f hf 2 _ (by rw[d];rfl);have U:=q2.cellAt Jr.aF f hf 3 _ (by rw[d];rfl);simp at u z B E J K R U;have N:=O (fun o=>Hy b pk (w.alloc o) (by rw[World.cell?_alloc_past _ _ _ Xg.1];exact u) (by omega));have hb:=Xg.1;have I:=Xg.2;have V:(0:Int)≤(f:Int):=by omega
 have Z:(f:Int)<(L.length:Int):=by omega
 have n0:((l.length:Int)+1==0)=false:=by rw[beq_eq_false_iff_ne];omega
 clear q1 q2 Xg hr c d;go_enter func96,ntmps96;go_wp2_with fail;refine Zz (N.o _) ?_;rintro w1 rfl;go_wp2;refine Yi 0 10 Zq (by kernel_rfl) (fun _ _ _ _ _ h=>h) ?_;simp only[List.take_succ_cons,List.take_zero,List.drop_succ_cons,List.drop_zero];repeat(quiet_step ((fail)))
 refine wpQuiet_nil ?_;intro _ q;obtain⟨nq,k⟩:=q;subst k;go_wp2;refine bodyPost_ret (v:=.tuple #[.agg #[.int .u64 p.id,.int .i64 p.cls,.int .i64 p.len,.int .u64 p.at_],.bool true]) (by simp[results,Tryz.results96,go_sem]) rfl ⟨rfl,?_⟩;(repeat' (first|(with_reducible first|exact Zg _ _|assumption|refine Zh ?_ _|refine Zi ?_ _|refine Zj ?_|refine Zk ?_ _ ?_|(apply Or.inl;rfl))|(apply Or.inl;simp;done)|(apply Or.inr;simp;first|done|omega)))
theorem Qfk{L:List Jr}{f:Nat}{p:Jr}{l:List Jr}(h:Ow L f (p::l)):Ow L ((f+1)%L.length) l:=by intro i hi;have:=h (i+1) (by simpa using hi);rw[Nat.mod_add_mod,show f+1+i=f+(i+1) by omega];simpa using this
theorem Qps{w}{b r pk bt:Nat}(h:Jz w b r pk bt []):
  Cl 95 #[.pointer (some ⟨b,0,none⟩)] w fun e w'=>e=.returned (.tuple #[.agg #[.int .u64 0,.int .i64 0,.int .i64 0,.int .u64 0],.bool false])∧Qc Qb w w':=by
 have N:=O (fun o=>Qa9 (h.aB ((Zg Qb w).alloc o) (fun h=>h) (fun h=>h)));clear h;go_enter func95,ntmps95;go_wp2_with fail;refine Zz (N.o _) ?_;intro w1 hc;have hs:w.heap.size<w1.heap.size:=by have:=hc.size;simp at this;omega
 have k:=(Qh.new w #[.int .u64 0,.int .i64 0,.int .i64 0,.int .u64 0] 34);have q1:=hc.blk k (fun h=>h);have k0:=q1.cell 0;have k1:=q1.cell 1;have k2:=q1.cell 2;have d:=q1.cell 3;have z:=q1.frozen;simp at k0 k1 k2 d;have c:=O hc;clear hc k q1;go_wp2;refine bodyPost_ret (v:=.tuple #[.agg #[.int .u64 0,.int .i64 0,.int .i64 0,.int .u64 0],.bool false]) (by simp[results,Tryz.results95,go_sem,hs,k0,k1,k2,d]) rfl ⟨rfl,?_⟩;have c:=c.o;refine((((Zg Qb w).alloc _).aA c))|>fun h=>?_;(repeat' (first|(with_reducible first|exact Zg _ _|assumption|refine Zh ?_ _|refine Zi ?_ _|refine Zj ?_|refine Zk ?_ _ ?_|(apply Or.inl;rfl))|(apply Or.inl;simp;done)|(apply Or.inr;simp;first|done|omega)))
theorem Qpt{w}{b r pk bt:Nat}{p:Jr}{l:List Jr}(h:Jz w b r pk bt (p::l)):
  Cl 95 #[.pointer (some ⟨b,0,none⟩)] w fun e w'=>e=.returned (.tuple #[.agg #[.int .u64 p.id,.int .i64 p.cls,.int .i64 p.len,.int .u64 p.at_],.bool true])∧
   Jz w' b r pk bt l∧Qc (fun k=>k=b) w w':=by
 have N:=O (fun o=>Qba (h.aB ((Zg Qb w).alloc o) (fun h=>h) (fun h=>h)));have Xg:=h.lt;obtain⟨ne,p1,p2,b1,b2,m1,s1,J,L,f,q1,q2,hf,hl,hL,hr⟩:=h;have gp:=J p (by simp);have s0:=Hd l (fun q hq=>J q (by simp[hq]));obtain⟨ag,ah⟩:=gp;have hm:l.length<pk:=by simp at m1;omega
 have ak:l.length+1≤L.length:=by simpa using hl
 have es:Jn (p::l)=p.len+Jn l:=rfl;rw[es]at s1 q1;simp only[Zm]at q1;have V:=O (fun(W)(cs:Array Value)(I:cs=#[.int .i64 pk,.int .i64 bt,.slice (some ⟨r,0,none⟩) L.length L.length,.int .i64 (((f:Int)+1)%(L.length:Int)),.int .i64 l.length,.int .i64 (p.len+Jn l-p.len)])
   (B:Qh W b cs 123) (R:RowBlk Jr.cells W r L 34)=>show Jz W b r pk bt l by
  have e1:((f:Int)+1)%(L.length:Int)=(((f+1)%L.length:Nat):Int):=by simp
  have e2:p.len+Jn l-p.len=Jn l:=by omega
  rw[e1,e2]at I;subst I;exact⟨ne,p1,p2,b1,b2,by omega,by omega,fun q hq=>J q (by simp[hq]),L,(f+1)%L.length,B,R,Nat.mod_lt _ (by omega),by omega,hL,Qfk hr⟩)
 go_enter func95,ntmps95;go_wp2_with fail;refine Zz (N.o _) ?_;intro w1 d;have hc:=((Zg Qb w).alloc (.cells #[.int .u64 0,.int .i64 0,.int .i64 0,.int .u64 0] 34)).aA d;have hs:w.heap.size<w1.heap.size:=by have:=d.size;simp at this;omega
 have z0:=d.blk (Qh.new w #[.int .u64 0,.int .i64 0,.int .i64 0,.int .u64 0] 34) (fun h=>h);have k0:=z0.cell 0;have k1:=z0.cell 1;have k2:=z0.cell 2;have k3:=z0.cell 3;have z:=z0.frozen;have c:=hc.blk q1 (fun h=>h);have U:=hc.blk q2 (fun h=>h);have d2:=c.cell 2;have d3:=c.cell 3;have d4:=c.cell 4;have d5:=c.cell 5;have dz:=c.frozen;simp at k0 k1 k2 k3 d2 d3 d4 d5;have ai:b<w1.heap.size:=by omega
 have af:¬w.heap.size=b:=by omega
 have aa:¬w1.heap.size=b:=by omega
 have ab:¬b=w.heap.size:=by omega
 have ac:¬b=w1.heap.size:=by omega
 have P:=O (fun W(h2:W.cell? ⟨b,2,none⟩=w1.cell? ⟨b,2,none⟩)(h3:W.cell? ⟨b,3,none⟩=w1.cell? ⟨b,3,none⟩)=>Ml b f 1 (some ⟨r,0,none⟩) L.length L.length W (h2.trans d2) (h3.trans d3) (by omega) (by omega) (by omega) (by omega) (by omega) (by omega));have Z:=O (Zt hc (Zt d (Zt c U)));have HR:=O hr;have HG:=O J;have HQ:=O (Zt q1 (Zt q2 hl));clear hc d z0 c U hr J q1 q2 hl m1 es;go_wp2_with fail;refine Zz (P.o _ (by go_simp) (by go_simp)) ?_;rintro w2⟨k,rfl⟩;go_wp2;refine Yi 0 9 Zq (by kernel_rfl) (fun _ _ _ _ _ h=>h) ?_;simp only[List.take_succ_cons,List.take_zero,List.drop_succ_cons,List.drop_zero];repeat(quiet_step ((fail)))
 refine wpQuiet_nil ?_;intro _ ae;obtain⟨nq,K⟩:=ae;subst K;go_wp2;refine bodyPost_ret (v:=.tuple #[.agg #[.int .u64 p.id,.int .i64 p.cls,.int .i64 p.len,.int .u64 p.at_],.bool true]) (by simp[results,Tryz.results95,go_sem,hs,k0,k1,k2,k3]) rfl ⟨rfl,?_,?_⟩
 ·have hn:¬((⟨w.heap.size,0,none⟩:Addr).block=b):=fun h=>by simp at h;omega
  have B:=((((((((((Z.o.2.2.1.alloc (.cells #[.int .u64 p.id,.int .i64 p.cls,.int .i64 p.len,.int .u64 p.at_] 34)).drewN k).set 3 (.int .i64 (((f:Int)+1)%(L.length:Int)))).set 4 (.int .i64 l.length)).drewN nq).set 5 (.int .i64 (p.len+Jn l-p.len))).other (a:=⟨w.heap.size,0,none⟩) (.int .u64 p.id) hn).other (a:=⟨w.heap.size,1,none⟩) (.int .i64 p.cls) hn).other (a:=⟨w.heap.size,2,none⟩) (.int .i64 p.len) hn).other (a:=⟨w.heap.size,3,none⟩) (.int .u64 p.at_) hn);have u:¬((⟨w.heap.size,0,none⟩:Addr).block=r):=fun h=>by simp at h;omega
  have E:¬((⟨b,0,none⟩:Addr).block=r):=ne;have R:=((((((((((Z.o.2.2.2.alloc (.cells #[.int .u64 p.id,.int .i64 p.cls,.int .i64 p.len,.int .u64 p.at_] 34)).drewN k).other (a:=⟨b,3,none⟩) (.int .i64 (((f:Int)+1)%(L.length:Int))) E).other (a:=⟨b,4,none⟩) (.int .i64 l.length) E).drewN nq).other (a:=⟨b,5,none⟩) (.int .i64 (p.len+Jn l-p.len)) E).other (a:=⟨w.heap.size,0,none⟩) (.int .u64 p.id) u).other (a:=⟨w.heap.size,1,none⟩) (.int .i64 p.cls) u).other (a:=⟨w.heap.size,2,none⟩) (.int .i64 p.len) u).other (a:=⟨w.heap.size,3,none⟩) (.int .u64 p.at_) u);exact V.o _ _ (by simp) B R
 ·have aj:Qc (fun k=>k=b) w w1:=Z.o.1.mono fun _ h=>h.elim;(repeat' (first|(with_reducible first|exact Zg _ _|assumption|refine Zh ?_ _|refine Zi ?_ _|refine Zj ?_|refine Zk ?_ _ ?_|(apply Or.inl;rfl))|(apply Or.inl;simp;done)|(apply Or.inr;simp;first|done|omega)))
theorem Qt7(pk bt:Nat)(w)(h1:1≤pk)(q:pk≤4096)(u:1≤bt)(z:bt≤16777216):
  Cl 70 #[.int .i64 pk,.int .i64 bt] w fun e w'=>e=.returned (.pointer (some ⟨w.heap.size+1,0,none⟩))∧Jz w' (w.heap.size+1) w.heap.size pk bt []∧Qc Qb w w':=by
 have K:(1:Int)≤(pk:Int):=by omega
 have R:(pk:Int)≤4096:=by omega
 have U:(1:Int)≤(bt:Int):=by omega
 have V:(bt:Int)≤16777216:=by omega
 have fin:∀(n:Nat)(W),1≤n→n≤4096→Qh W w.heap.size (Jm Jr.cells (List.replicate n Jr.zero)).toArray 34→Qh W (w.heap.size+1) #[.int .i64 pk,.int .i64 bt,.slice (some ⟨w.heap.size,0,none⟩) n n,.int .i64 0,.int .i64 0,.int .i64 0] 123→
   Jz W (w.heap.size+1) w.heap.size pk bt []:=fun n W E I hr B=>
  ⟨by omega,h1,q,u,z,by simp,by simp[Jn],by simp,List.replicate n Jr.zero,0,by simpa[Jn]using B,hr,by simp;omega,by simp,by simp;omega,fun i hi=>absurd hi (by simp)⟩
 by_cases J:4≤pk
 ·have mk:∀w:World,(Instr.makeSlice 27 (.int .i64 4) (.int .i64 4)).run prog w=.ok (.slice (some ⟨w.heap.size,0,none⟩) 4 4) (w.alloc (.cells (Jm Jr.cells (List.replicate 4 Jr.zero)).toArray 34)):=
   fun w=>Gi pktT 4 (by omega) (by omega) w
  generalize d:(Jm Jr.cells (List.replicate 4 Jr.zero)).toArray=Z at mk;have k:=O d;have c:=O (fin 4);clear d fin;go_enter func70,ntmps70;go_wp2;go_ret;refine⟨rfl,c.o _ (by omega) (by omega) ?_ ?_,?_⟩;·rw[k.o];exact(Qh.new w Z 34).alloc _
  ·exact Qh.new' _ _ (by simp)
  ·(repeat' (first|(with_reducible first|exact Zg _ _|assumption|refine Zh ?_ _|refine Zi ?_ _|refine Zj ?_|refine Zk ?_ _ ?_|(apply Or.inl;rfl))|(apply Or.inl;simp;done)|(apply Or.inr;simp;first|done|omega)))
 ·have mk:∀w:World,(Instr.makeSlice 27 (.int .i64 pk) (.int .i64 pk)).run prog w=.ok (.slice (some ⟨w.heap.size,0,none⟩) pk pk) (w.alloc (.cells (Jm Jr.cells (List.replicate pk Jr.zero)).toArray 34)):=
   fun w=>Gi pktT pk (by omega) (by omega) w
  generalize d:(Jm Jr.cells (List.replicate pk Jr.zero)).toArray=Z at mk;have k:=O d;have c:=O (fin pk);clear d fin;go_enter func70,ntmps70;go_wp2;go_ret;refine⟨rfl,c.o _ (by omega) (by omega) ?_ ?_,?_⟩;·rw[k.o];exact(Qh.new w Z 34).alloc _
  ·exact Qh.new' _ _ (by simp)
  ·(repeat' (first|(with_reducible first|exact Zg _ _|assumption|refine Zh ?_ _|refine Zi ?_ _|refine Zj ?_|refine Zk ?_ _ ?_|(apply Or.inl;rfl))|(apply Or.inl;simp;done)|(apply Or.inr;simp;first|done|omega)))
theorem Qoq{T:Type}(L:List T)(z:T)(f m:Nat)(k:m=L.length-f)(hf:f<L.length):
  (((List.replicate (2*L.length) z).take 0++L.drop f++(List.replicate (2*L.length) z).drop (0+(L.drop f).length)).take m++L.take f++
   ((List.replicate (2*L.length) z).take 0++L.drop f++(List.replicate (2*L.length) z).drop (0+(L.drop f).length)).drop (m+(L.take f).length))=L.drop f++L.take f++List.replicate L.length z:=by
 have c:(L.drop f).length=m:=by simp;omega
 have d:(L.take f).length=f:=by simp;omega
 simp only[List.take_zero,List.nil_append,Nat.zero_add,List.drop_replicate,c,d];rw[List.take_left' c,←List.drop_drop,List.drop_left' c,List.drop_replicate,show 2*L.length-m-f=L.length by omega]
theorem Qpp{w}{b r:Nat}(c0 c1 c4 c5:Value)(L:List Jr)(f:Nat)(hf:f<L.length)(hL:L.length≤4096)(aa:b≠r)
  (q1:Qh w b #[c0,c1,.slice (some ⟨r,0,none⟩) L.length L.length,.int .i64 f,c4,c5] 123)(q2:RowBlk Jr.cells w r L 34):
  Cl 130 #[.pointer (some ⟨b,0,none⟩)] w fun e w'=>e=.returned (.tuple #[])∧
   Qh w' b #[c0,c1,.slice (some ⟨w.heap.size,0,none⟩) (2*L.length) (2*L.length),.int .i64 0,c4,c5] 123∧
   RowBlk Jr.cells w' w.heap.size (L.drop f++L.take f++List.replicate L.length Jr.zero) 34∧Qc (fun k=>k=b) w w':=by
 have hb:=q1.lt;have hr:=q2.lt;have d2:=q1.cell 2;have d3:=q1.cell 3;simp at d2 d3;have mk:∀w:World,(Instr.makeSlice 27 (.int .i64 (2*(L.length:Int))) (.int .i64 (2*(L.length:Int)))).run prog w=.ok (.slice (some ⟨w.heap.size,0,none⟩) (2*L.length) (2*L.length)) (w.alloc (.cells (Jm Jr.cells (List.replicate (2*L.length) Jr.zero)).toArray 34)):=
  fun w=>by simpa using Gi pktT (2*L.length) (by omega) (by omega) w
 generalize hz:(Jm Jr.cells (List.replicate (2*L.length) Jr.zero)).toArray=Z at mk;have HZ:=O hz;have V:=O (Zt q1 q2);have f0:(0:Int)≤(f:Int):=by omega
 have f1:(f:Int)≤(L.length:Int):=by omega
 have f2:¬L.length=f:=by omega
 clear hz q1 q2;go_enter func130,ntmps130;go_wp2;refine Yi 1 10 Zq (by kernel_rfl) (fun _ _ _ _ _ h=>h) ?_;simp only[List.take_succ_cons,List.take_zero,List.drop_succ_cons,List.drop_zero];repeat(quiet_step ((fail)))
 refine wpQuiet_nil ?_;intro _ d;obtain⟨nq,c⟩:=d;subst c;refine Dy pktT rfl (.tmp 11) (.tmp 20) rfl _ _ _ _ _ _ rfl rfl w.heap.size 0 (List.replicate (2*L.length) Jr.zero) 34 ?_ (L.drop f) ?_ ?_ ?_ ?_ ?_;·show Qh _ _ _ _;rw[HZ.o];exact(Qh.new w Z 34).drewN _
 ·rw[List.length_drop];show _=min _ _;omega
 ·intro _;rfl
 ·have:=(RowBlk.row Jr.aF ((V.o.2.alloc (.cells Z 34)).drewN nq)).drop f;simpa using this
 ·simp;omega
 intro w1 R1 I;have u:Qc (fun k=>k=b) w w1:=((((Zg (fun k=>k=b) w).alloc (.cells Z 34)).drewN nq).trans I (fun k hk=>.inr (by omega)));have E:=I.blk (((V.o.1.alloc (.cells Z 34)).drewN nq)) (by omega);have R2:=I.blk (((V.o.2.alloc (.cells Z 34)).drewN nq)) (by omega);have e2:=E.cell 2;have e3:=E.cell 3;simp at e2 e3;obtain⟨m,hm⟩:=Zx (L.length-f);have l0:(0:Int)≤(m:Int):=by omega
 have l1:(m:Int)≤2*(L.length:Int):=by omega
 have l2:m<2*L.length:=by omega
 have J:=O (Zt u (Zt E (Zt R1 R2)));clear u E R2 R1 I;simp only[List.length_drop];rw[←hm];have U:=O hm;clear hm;go_wp2;refine Yi 2 12 Zq (by kernel_rfl) (fun _ _ _ _ _ h=>h) ?_;simp only[List.take_succ_cons,List.take_zero,List.drop_succ_cons,List.drop_zero];repeat(quiet_step ((fail)))
 refine wpQuiet_nil ?_;intro _ d;obtain⟨nq,c⟩:=d;subst c;refine Dy pktT rfl (.tmp 24) (.tmp 33) rfl _ _ _ _ _ _ rfl rfl w.heap.size m _ 34 (J.o.2.2.1.drewN _) (L.take f) ?_ ?_ ?_ ?_ ?_;·rw[List.length_take];show _=min _ _;have:=U.o;omega
 ·intro _;rw[if_neg (by omega)]
 ·exact(RowBlk.row Jr.aF (Qh.drewN J.o.2.2.2 _)).take f
 ·have:=U.o;simp;omega
 intro w2 R3 K;have z:=(J.o.1.drewN nq).trans (S':=fun k=>k=w.heap.size) K (fun k hk=>.inr (by omega));have q:=K.blk (J.o.2.1.drewN _) (by omega);have e2:=q.cell 2;have e3:=q.cell 3;have ez:=q.frozen;simp at e2 e3;have R:=O (Zt z (Zt q R3));clear z q R3 K;go_wp2;go_end0;refine⟨rfl,?_,?_,?_⟩;·have B:=(R.o.2.1.set 2 (.slice (some ⟨w.heap.size,0,none⟩) (2*L.length) (2*L.length))).set 3 (.int .i64 0);simpa using B
 ·rw[←List.append_assoc,←Qoq L Jr.zero f m U.o hf];exact(Qh.other (Qh.other R.o.2.2 (a:=⟨b,2,none⟩) _ (by show b≠_;omega)) (a:=⟨b,3,none⟩) _ (by show b≠_;omega))
 ·have:=R.o.1;(repeat' (first|(with_reducible first|exact Zg _ _|assumption|refine Zh ?_ _|refine Zi ?_ _|refine Zj ?_|refine Zk ?_ _ ?_|(apply Or.inl;rfl))|(apply Or.inl;simp;done)|(apply Or.inr;simp;first|done|omega)))
def D8(pk bt:Nat)(l:List Jr)(p:Jr):Int:=
 if p.len<1∨65535<p.len then 100 else if l.length=pk∨(bt:Int)-Jn l<p.len then 110 else 0
theorem Qlu{w}{b r pk bt:Nat}{l:List Jr}(h:Jz w b r pk bt l)(p:Jr)(q:p.len<1∨65535<p.len):
  Cl 73 #[.pointer (some ⟨b,0,none⟩),.agg #[.int .u64 p.id,.int .i64 p.cls,.int .i64 p.len,.int .u64 p.at_]] w fun e w'=>e=.returned (.int .i64 100)∧Qc Qb w w':=by
 have d:Cp p 65535=100:=by unfold Cp;rw[if_neg (by omega),if_pos (by omega)]
 have Xg:=h.lt;obtain⟨_,p1,u,_,_,_,_,_,L,f,q1,_⟩:=h;have c:=q1.cell 0;simp at c;have N:=O (fun o=>Hy b pk (w.alloc o) (by rw[World.cell?_alloc_past _ _ _ Xg.1];exact c) (by omega));have M:=O (fun w=>Rn p 65535 w);rw[d]at M;clear q1 d;go_enter func73,ntmps73;go_wp2_with fail;refine Zz (N.o _) ?_;rintro w1 rfl;go_wp2_with fail;refine Zz (M.o _) ?_;intro w2 hc;have k:=O hc;clear hc;go_wp2;go_ret;exact⟨rfl,((Zg _ _).alloc _).aA k.o⟩
theorem Qlt{w}{b r pk bt:Nat}{l:List Jr}(h:Jz w b r pk bt l)(p:Jr)(hp:1≤p.len)(R:p.len≤65535)(c:l.length=pk∨(bt:Int)-Jn l<p.len):
  Cl 73 #[.pointer (some ⟨b,0,none⟩),.agg #[.int .u64 p.id,.int .i64 p.cls,.int .i64 p.len,.int .u64 p.at_]] w fun e w'=>e=.returned (.int .i64 110)∧Qc Qb w w':=by
 have I:Cp p 65535=0:=by unfold Cp;rw[if_neg (by omega),if_neg (by omega)]
 have Xg:=h.lt;obtain⟨_,p1,p2,b1,b2,_,s1,B,L,f,q1,_⟩:=h;have s0:=Hd l B;have z:=q1.cell 0;simp at z;have N:=O (fun o=>Hy b pk (w.alloc o) (by rw[World.cell?_alloc_past _ _ _ Xg.1];exact z) (by omega));have M:=O (fun w=>Rn p 65535 w);rw[I]at M;have Z:=Qh.new w #[.int .u64 p.id,.int .i64 p.cls,.int .i64 p.len,.int .u64 p.at_] 34;have Q:=q1.alloc (.cells #[.int .u64 p.id,.int .i64 p.cls,.int .i64 p.len,.int .u64 p.at_] 34);have q:=O (Zt Z Q);have E:=Xg.1;clear q1 I Z Q B Xg;go_enter func73,ntmps73;go_wp2_with fail;refine Zz (N.o _) ?_;rintro w1 rfl;go_wp2_with fail;refine Zz (M.o _) ?_;intro w2 hc;have u:=hc.blk q.o.1 (fun h=>h);have d:=hc.blk q.o.2 (fun h=>h);have z2:=u.cell 2;have k0:=d.cell 0;have k1:=d.cell 1;have U:=d.cell 4;have V:=d.cell 5;simp at z2 k0 k1 U V;have k:=O hc;clear hc u d;by_cases hl:l.length=pk
 ·have g:((l.length:Int)==(pk:Int))=true:=by simp[hl]
  have K:=O hl;have J:=O c;clear hl c;go_wp2;go_quiet (fail);go_wp2;go_ret;exact⟨rfl,(((Zg _ _).alloc _).aA k.o).drewN _⟩
 ·have g:((l.length:Int)==(pk:Int))=false:=by simp;omega
  have g2:decide ((bt:Int)-Jn l<p.len)=true:=by
   rcases c with h|h;·exact absurd h hl
   ·simpa using h
  have K:=O hl;have J:=O c;clear hl c;go_wp2;go_quiet (fail);go_wp2;go_ret;exact⟨rfl,(((Zg _ _).alloc _).aA k.o).drewN _⟩
theorem Qfj{L:List Jr}{f:Nat}{l:List Jr}(h:Ow L f l)(p:Jr)(hl:l.length<L.length):Ow (L.set ((f+l.length)%L.length) p) f (l++[p]):=by
 intro i hi;have u:0<L.length:=by omega
 rw[List.length_set];by_cases k:i=l.length;·subst k;rw[List.getElem?_set_self (Nat.mod_lt _ u)];simp
 ·have c:i<l.length:=by simp at hi;omega
  rw[List.getElem?_append_left c,List.getElem?_set_ne,h i c];intro z;have h1:=Nat.div_add_mod (f+l.length) L.length;have B:=Nat.div_add_mod (f+i) L.length;rw[z]at h1;have E:L.length*((f+l.length)/L.length)=L.length*((f+i)/L.length)+(l.length-i):=by omega
  have q:L.length*((f+l.length)/L.length-(f+i)/L.length)=l.length-i:=by rw[Nat.mul_sub];omega
  rcases Nat.eq_zero_or_pos ((f+l.length)/L.length-(f+i)/L.length)with d|d;·rw[d]at q;omega
  ·have:L.length*1≤L.length*((f+l.length)/L.length-(f+i)/L.length):=Nat.mul_le_mul_left _ d;omega
theorem Qd6{w}{r:Nat}{L:List Jr}{t:TypeId}(h:RowBlk Jr.cells w r L t)(i:Nat)(hi:i<L.length)(p:Jr):
  RowBlk Jr.cells ((((w.setCell ⟨r,i*4,none⟩ (.int .u64 p.id)).setCell ⟨r,i*4+1,none⟩ (.int .i64 p.cls)).setCell ⟨r,i*4+2,none⟩ (.int .i64 p.len)).setCell ⟨r,i*4+3,none⟩ (.int .u64 p.at_)) r (L.set i p) t:=
 RowBlk.store Jr.aF h i hi p
theorem Qim{W}{b r pk bt:Nat}{l:List Jr}{L:List Jr}{f:Nat}{p:Jr}(ne:b≠r)(p1:1≤pk)(J:pk≤4096)(b1:1≤bt)(b2:bt≤16777216)(z:∀q∈l,Ll q)
  (hf:f<L.length)(hl:l.length<L.length)(u:L.length≤8192)(hr:Ow L f l)(K:l.length<pk)(E:1≤p.len)(d:p.len≤65535)(hs:p.len≤bt-Jn l)
  (cs:Array Value)(c:cs=#[.int .i64 pk,.int .i64 bt,.slice (some ⟨r,0,none⟩) L.length L.length,.int .i64 f,.int .i64 ((l.length:Int)+1),.int .i64 (Jn l+p.len)])
  (B:Qh W b cs 123) (R:RowBlk Jr.cells W r (L.set ((f+l.length)%L.length) p) 34):Jz W b r pk bt (l++[p]):=by
 have e1:Jn (l++[p])=Jn l+p.len:=by rw[Tk];simp[Jn]
 have k:(((l++[p]).length:Nat):Int)=(l.length:Int)+1:=by simp
 subst c;refine⟨ne,p1,J,b1,b2,by simp;omega,by rw[e1];omega,?_,_,f,?_,R,by simpa using hf,by simp;omega,by simpa using u,Qfj hr p hl⟩
 ·intro q I;rcases Zl.1 I with h|h;·exact z q h
  ·have:q=p:=by simpa using h
   subst this;exact⟨E,d⟩
 ·rw[e1,k,List.length_set];exact B
theorem Qlv{w}{b r pk bt:Nat}{l:List Jr}{L:List Jr}{f:Nat}(p:Jr)(ne:b≠r)(p1:1≤pk)(p2:pk≤4096)(b1:1≤bt)(b2:bt≤16777216)(hg:∀q∈l,Ll q)
  (hf:f<L.length)(hl:l.length<L.length)(hL:L.length≤8192)(hr:Ow L f l)(hm:l.length<pk)(hp:1≤p.len)(ac:p.len≤65535)(hs:p.len≤bt-Jn l)
  (q1:Qh w b #[.int .i64 pk,.int .i64 bt,.slice (some ⟨r,0,none⟩) L.length L.length,.int .i64 f,.int .i64 l.length,.int .i64 (Jn l)] 123)
  (q2:RowBlk Jr.cells w r L 34):
  Cl 73 #[.pointer (some ⟨b,0,none⟩),.agg #[.int .u64 p.id,.int .i64 p.cls,.int .i64 p.len,.int .u64 p.at_]] w fun e w'=>e=.returned (.int .i64 0)∧Jz w' b r pk bt (l++[p])∧Qc (fun k=>k=b∨k=r) w w':=by
 have U:Cp p 65535=0:=by unfold Cp;rw[if_neg (by omega),if_neg (by omega)]
 have aa:=O (fun W cs ab B R=>Qim (W:=W) (p:=p) ne p1 p2 b1 b2 hg hf hl hL hr hm hp ac hs cs ab B R);have s0:=Hd l hg;have hb:=q1.lt;have af:=q2.lt;have c0:=q1.cell 0;simp at c0;have N:=O (fun o=>Hy b pk (w.alloc o) (by rw[World.cell?_alloc_past _ _ _ hb];exact c0) (by omega));have M:=O (fun w=>Rn p 65535 w);rw[U]at M;have HH:=O (Zt (Qh.new w #[.int .u64 p.id,.int .i64 p.cls,.int .i64 p.len,.int .u64 p.at_] 34) (Zt (q1.alloc (.cells #[.int .u64 p.id,.int .i64 p.cls,.int .i64 p.len,.int .u64 p.at_] 34)) (q2.alloc (.cells #[.int .u64 p.id,.int .i64 p.cls,.int .i64 p.len,.int .u64 p.at_] 34))));clear q1 q2 U hg hr c0;go_enter func73,ntmps73;go_wp2_with fail;refine Zz (N.o _) ?_;rintro w1 rfl;go_wp2_with fail;refine Zz (M.o _) ?_;intro w2 hc;have K:=hc.blk HH.o.1 (fun h=>h);have E:=hc.blk HH.o.2.1 (fun h=>h);have V:RowBlk Jr.cells w2 r L 34:=hc.blk HH.o.2.2 (fun h=>h);have ag:w.heap.size<w2.heap.size:=by have:=hc.size;simp at this;omega
 have z0:=K.cell 0;have z1:=K.cell 1;have z2:=K.cell 2;have z3:=K.cell 3;have k0:=E.cell 0;have k1:=E.cell 1;have k2:=E.cell 2;have k3:=E.cell 3;have k4:=E.cell 4;have k5:=E.cell 5;have kz:=E.frozen;have rz:=Qh.frozen V;simp at z0 z1 z2 z3 k0 k1 k2 k3 k4 k5;have PL:=O (fun n=>Ml b f (l.length:Int) (some ⟨r,0,none⟩) L.length L.length (w2.drewN n) k2 k3 (by omega) (by omega) (by omega) (by omega) (by omega) (by omega));obtain⟨pos,d⟩:=Zx ((f+l.length)%L.length);have I:((f:Int)+(l.length:Int))%(L.length:Int)=(pos:Int):=by rw[d];simp
 rw[I]at PL;have c:pos<L.length:=by rw[d];exact Nat.mod_lt _ (by omega)
 have g1:((l.length:Int)==(pk:Int))=false:=by simp;omega
 have g2:decide ((bt:Int)-Jn l<p.len)=false:=by simp;omega
 have g3:((l.length:Int)==(L.length:Int))=false:=by simp;omega
 have n0:(0:Int)≤(pos:Int):=by omega
 have n1:(pos:Int)<(L.length:Int):=by omega
 have nb:¬r=b:=fun h=>ne h.symm;have HC:=O (Zt hc (Zt E V));have Z:=O (fun i(h:i<L.length)j u hu=>V.cellAt Jr.aF i h j u hu);have ae:=Z.o pos c 0 _ rfl;have ah:=Z.o pos c 1 _ rfl;have ai:=Z.o pos c 2 _ rfl;have aj:=Z.o pos c 3 _ rfl;simp only[Nat.add_zero]at ae;have HP:=O d;clear hc K E V d I;go_wp2;go_quiet (fail);go_wp2;go_quiet (fail);go_wp2;refine Yi 0 12 Zq (by kernel_rfl) (fun _ _ _ _ _ h=>h) ?_;simp only[List.take_succ_cons,List.take_zero,List.drop_succ_cons,List.drop_zero];repeat(quiet_step ((go_at_call 131;exact Qpu (PL.o _))))
 refine wpQuiet_nil ?_;intro _ J;obtain⟨nq,z⟩:=J;subst z;go_wp2;refine Yi 0 9 Zq (by kernel_rfl) (fun _ _ _ _ _ h=>h) ?_;simp only[List.take_succ_cons,List.take_zero,List.drop_succ_cons,List.drop_zero];repeat(quiet_step ((fail)))
 refine wpQuiet_nil ?_;intro _ J;obtain⟨nq,z⟩:=J;subst z;go_wp2;go_ret;refine⟨rfl,?_,?_⟩
 ·have e:=HP.o;rw[e]at c;subst e;exact aa.o _ _ (by simp) (Qh.set (Qh.drewN (Qh.set (Qh.other (Qh.other (Qh.other (Qh.other (Qh.drewN HC.o.2.1 _) _ nb) _ nb) _ nb) _ nb) 4 _) _) 5 _)
   (Qh.other (Qh.drewN (Qh.other (Qd6 (Qh.drewN HC.o.2.2 _) _ c p) _ ne) _) _ ne)
 ·have h1:=HC.o.1;have h2:Qc (fun k=>k=b∨k=r) w w2:=(((Zg _ w).alloc (.cells #[.int .u64 p.id,.int .i64 p.cls,.int .i64 p.len,.int .u64 p.at_] 34)).trans h1 fun k h=>h.elim);(repeat' (first|(with_reducible first|exact Zg _ _|assumption|refine Zh ?_ _|refine Zi ?_ _|refine Zj ?_|refine Zk ?_ _ ?_|(apply Or.inl;rfl))|(apply Or.inl;simp;done)|(apply Or.inr;simp;first|done|omega)))
theorem Qfi{L:List Jr}{f:Nat}{l:List Jr}(h:Ow L f l)(hf:f<L.length)(hl:l.length=L.length)(z:Jr):
  Ow (L.drop f++L.take f++List.replicate L.length z) 0 l:=by
 intro i hi;have c:(L.drop f++L.take f++List.replicate L.length z).length=2*L.length:=by simp;omega
 have d:i<L.length:=by omega
 rw[c,Nat.zero_add,Nat.mod_eq_of_lt (by omega),List.getElem?_append_left (by simp;omega),←h i hi];by_cases hc:i<L.length-f;·rw[List.getElem?_append_left (by simp;omega),List.getElem?_drop,Nat.mod_eq_of_lt (by omega)]
 ·rw[List.getElem?_append_right (by simp;omega),List.getElem?_take,if_pos (by simp;omega)];congr 1;rw[show f+i=(f+i-L.length)+L.length by omega,Nat.add_mod_right,Nat.mod_eq_of_lt (by omega)];simp;omega
theorem Qio{w}{b r pk bt:Nat}{l:List Jr}{L:List Jr}{f:Nat}(p:Jr)(ne:b≠r)(p1:1≤pk)(p2:pk≤4096)(b1:1≤bt)(b2:bt≤16777216)(hg:∀q∈l,Ll q)
  (hf:f<L.length)(hl:l.length=L.length)(hL:L.length≤8192)(hr:Ow L f l)(hm:l.length<pk)(hp:1≤p.len)(ah:p.len≤65535)(hs:p.len≤bt-Jn l)
  (q1:Qh w b #[.int .i64 pk,.int .i64 bt,.slice (some ⟨r,0,none⟩) L.length L.length,.int .i64 f,.int .i64 l.length,.int .i64 (Jn l)] 123)
  (q2:RowBlk Jr.cells w r L 34):
  Cl 73 #[.pointer (some ⟨b,0,none⟩),.agg #[.int .u64 p.id,.int .i64 p.cls,.int .i64 p.len,.int .u64 p.at_]] w fun e w'=>e=.returned (.int .i64 0)∧∃r',w.heap.size≤r'∧Jz w' b r' pk bt (l++[p])∧Qc (fun k=>k=b∨k=r) w w':=by
 have ac:Cp p 65535=0:=by unfold Cp;rw[if_neg (by omega),if_neg (by omega)]
 obtain⟨J,E⟩:=Zx (L.drop f++L.take f++List.replicate L.length Jr.zero);have c:J.length=2*L.length:=by rw[E];simp;omega
 have ae:Ow J 0 l:=by rw[E];exact Qfi hr hf hl _
 have af:=O (fun W r'(ai:b≠r')cs ag B R=>Qim (W:=W) (r:=r') (L:=J) (f:=0) (p:=p) ai p1 p2 b1 b2 hg (by omega) (by omega) (by omega) ae hm hp ah hs cs ag B R);have s0:=Hd l hg;have hb:=q1.lt;have ak:=q2.lt;have c0:=q1.cell 0;simp at c0;have N:=O (fun o=>Hy b pk (w.alloc o) (by rw[World.cell?_alloc_past _ _ _ hb];exact c0) (by omega));have M:=O (fun w=>Rn p 65535 w);rw[ac]at M;have HH:=O (Zt (Qh.new w #[.int .u64 p.id,.int .i64 p.cls,.int .i64 p.len,.int .u64 p.at_] 34) (Zt (q1.alloc (.cells #[.int .u64 p.id,.int .i64 p.cls,.int .i64 p.len,.int .u64 p.at_] 34)) (q2.alloc (.cells #[.int .u64 p.id,.int .i64 p.cls,.int .i64 p.len,.int .u64 p.at_] 34))));have G:=O (fun(W)(q1:Qh W b #[.int .i64 pk,.int .i64 bt,.slice (some ⟨r,0,none⟩) L.length L.length,.int .i64 f,.int .i64 l.length,.int .i64 (Jn l)] 123)
  (q2:RowBlk Jr.cells W r L 34)=>Qpp _ _ _ _ L f hf (by omega) ne q1 q2)
 rw[←E]at G;have g1:((l.length:Int)==(pk:Int))=false:=by simp;omega
 have g2:decide ((bt:Int)-Jn l<p.len)=false:=by simp;omega
 have g3:((l.length:Int)==(L.length:Int))=true:=by simp;omega
 have i1:l.length≤L.length:=by omega
 have i2:L.length≤l.length:=by omega
 have HL:=O (Zt hl (Zt c E));clear q1 q2 ac hg hr c0 hl c E ae;go_enter func73,ntmps73;go_wp2_with fail;refine Zz (N.o _) ?_;rintro w1 rfl;go_wp2_with fail;refine Zz (M.o _) ?_;intro w2 hc;have Z2:=hc.blk HH.o.1 (fun h=>h);have Q2:=hc.blk HH.o.2.1 (fun h=>h);have R2:RowBlk Jr.cells w2 r L 34:=hc.blk HH.o.2.2 (fun h=>h);have al:w.heap.size<w2.heap.size:=by have:=hc.size;simp at this;omega
 have z2:=Z2.cell 2;have k0:=Q2.cell 0;have k1:=Q2.cell 1;have k2:=Q2.cell 2;have k4:=Q2.cell 4;have k5:=Q2.cell 5;simp at z2 k0 k1 k2 k4 k5;have HC:=O (Zt hc (Zt Q2 (Zt R2 Z2)));clear hc Z2 Q2 R2;go_wp2;go_quiet (fail);go_wp2;go_quiet (fail);go_wp2_with fail;refine Zz (G.o _ (HC.o.2.1.drewN _) (Qh.drewN HC.o.2.2.1 _)) ?_;rintro w3⟨U,R3,C3⟩;simp only[World.heap_drewN]at U R3;have am:w2.heap.size<w3.heap.size:=Qh.lt R3;clear z2 k0 k1 k2 k4 k5;have ab:Qc (fun k=>k=b∨k=r) w w3:=((((Zg _ w).alloc (.cells #[.int .u64 p.id,.int .i64 p.cls,.int .i64 p.len,.int .u64 p.at_] 34)).trans HC.o.1 (fun k h=>h.elim)).drewN _).trans C3 (fun k h=>.inl (.inl h));have Z3:Qh w3 w.heap.size #[.int .u64 p.id,.int .i64 p.cls,.int .i64 p.len,.int .u64 p.at_] 34:=C3.blk (HC.o.2.2.2.drewN _) (by omega);have z0:=Z3.cell 0;have z1:=Z3.cell 1;have z2:=Z3.cell 2;have z3:=Z3.cell 3;have k2:=U.cell 2;have k3:=U.cell 3;have k4:=U.cell 4;have k5:=U.cell 5;have kz:=U.frozen;have rz:=Qh.frozen R3;simp at z0 z1 z2 z3 k2 k3 k4 k5;have c:=HL.o.2.1;rw[←c]at k2;have PL:=O (fun n=>Ml b 0 (l.length:Int) (some ⟨w2.heap.size,0,none⟩) J.length J.length (w3.drewN n) k2 k3 (by omega) (by omega) (by omega) (by omega) (by omega) (by omega));obtain⟨pos,z⟩:=Zx ((0+l.length)%J.length);have V:((0:Int)+(l.length:Int))%(J.length:Int)=(pos:Int):=by rw[z];simp
 rw[V]at PL;have d:pos<J.length:=by rw[z];exact Nat.mod_lt _ (by omega)
 have n0:(0:Int)≤(pos:Int):=by omega
 have n1:(pos:Int)<(J.length:Int):=by omega
 have K:b≠w2.heap.size:=by omega
 have nb:¬w2.heap.size=b:=fun h=>K h.symm;have RC:=O (fun i(h:i<J.length)j u hu=>R3.cellAt Jr.aF i h j u hu);have aj:=RC.o pos d 0 _ rfl;have an:=RC.o pos d 1 _ rfl;have ao:=RC.o pos d 2 _ rfl;have ap:=RC.o pos d 3 _ rfl;simp only[Nat.add_zero]at aj;have HP:=O z;have Z:=O (Zt ab (Zt U R3));have H2:=O c;clear U R3 C3 ab Z3 z V c;go_wp2;refine Yi 0 12 Zq (by kernel_rfl) (fun _ _ _ _ _ h=>h) ?_;simp only[List.take_succ_cons,List.take_zero,List.drop_succ_cons,List.drop_zero];repeat(quiet_step ((go_at_call 131;exact Calls.quiet_of (PL.o _))))
 refine wpQuiet_nil ?_;intro _ aa;obtain⟨nq,I⟩:=aa;subst I;go_wp2;refine Yi 0 9 Zq (by kernel_rfl) (fun _ _ _ _ _ h=>h) ?_;simp only[List.take_succ_cons,List.take_zero,List.drop_succ_cons,List.drop_zero];repeat(quiet_step ((fail)))
 refine wpQuiet_nil ?_;intro _ aa;obtain⟨nq,I⟩:=aa;subst I;go_wp2;go_ret;refine⟨rfl,w2.heap.size,by omega,?_,?_⟩
 ·have e:=HP.o;rw[e]at d;subst e;exact af.o _ _ K _ (by simp[H2.o]) (Qh.set (Qh.drewN (Qh.set (Qh.other (Qh.other (Qh.other (Qh.other (Qh.drewN Z.o.2.1 _) _ nb) _ nb) _ nb) _ nb) 4 _) _) 5 _)
   (Qh.other (Qh.drewN (Qh.other (Qd6 (Qh.drewN Z.o.2.2 _) _ d p) _ K) _) _ K)
 ·have h1:=Z.o.1;(repeat' (first|(with_reducible first|exact Zg _ _|assumption|refine Zh ?_ _|refine Zi ?_ _|refine Zj ?_|refine Zk ?_ _ ?_|(apply Or.inl;rfl))|(apply Or.inl;simp;done)|(apply Or.inr;simp;first|done|omega)))
theorem Qsj{w}{b r pk bt:Nat}{l:List Jr}(h:Jz w b r pk bt l)(p:Jr)(q:D8 pk bt l p=0):
  Cl 73 #[.pointer (some ⟨b,0,none⟩),.agg #[.int .u64 p.id,.int .i64 p.cls,.int .i64 p.len,.int .u64 p.at_]] w fun e w'=>e=.returned (.int .i64 0)∧∃c,(c=r∨w.heap.size≤c)∧Jz w' b c pk bt (l++[p])∧Qc (fun k=>k=b∨k=r) w w':=by
 unfold D8 at q;split at q;·omega
 ·split at q;·omega
  ·rename_i h1 K;obtain⟨ne,p1,I,b1,b2,R,s1,B,L,f,q1,q2,hf,hl,E,hr⟩:=h;by_cases J:l.length=L.length;·refine(Qio p ne p1 I b1 b2 B hf J E hr (by omega) (by omega) (by omega) (by omega) q1 q2).mono ?_;rintro e w'⟨d,c,z,u,hc⟩;exact⟨d,c,.inr z,u,hc⟩
   ·refine(Qlv p ne p1 I b1 b2 B hf (by omega) E hr (by omega) (by omega) (by omega) (by omega) q1 q2).mono ?_;rintro e w'⟨d,u,hc⟩;exact⟨d,r,.inl rfl,u,hc⟩
theorem Qsi{w}{b r pk bt:Nat}{l:List Jr}(h:Jz w b r pk bt l)(p:Jr)(c:D8 pk bt l p≠0):
  Cl 73 #[.pointer (some ⟨b,0,none⟩),.agg #[.int .u64 p.id,.int .i64 p.cls,.int .i64 p.len,.int .u64 p.at_]] w fun e w'=>e=.returned (.int .i64 (D8 pk bt l p))∧Qc Qb w w':=by
 unfold D8 at*;split at c;·rename_i h1;rw[if_pos h1];exact Qlu h p h1
 ·rename_i h1;rw[if_neg h1];split at c;·rename_i d;rw[if_pos d];exact Qlt h p (by omega) (by omega) d
  ·exact absurd rfl c
end Go.Proofs.YtnnhmpehkbihnaaGreat
