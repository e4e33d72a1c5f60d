/- A part of the proof: no condition. -/
import Derived.Test.YtnnhmpehkbihnaaGreatPs22
import Derived.Lib.AppendZerosOnto
import Derived.Lib.Overlaps
import Derived.Shelf.Sort.Plain
import Derived.Shelf.Slices.In.SortNone
import Derived.Test.YtnnhmpehkbihnaaGreatProg
namespace Go.Proofs.YtnnhmpehkbihnaaGreat
set_option linter.unusedVariables false
set_option maxRecDepth 100000
set_option maxHeartbeats 4000000
open Go.RowKit
open Go.Proofs.Tryz
theorem Qfj{L:List Jr}{f:Nat}{l:List Jr}(h:Ow L f l)(p:Jr)(hl:l.length<L.length):Ow (L.set ((f+l.length)%L.length) p) f (l++[p]):=by
 intro i hi;have u:0<L.length:=by omega
 rw[List.length_set];by_cases k:i=l.length;·subst k;rw[List.getElem?_set_self (Nat.mod_lt _ u)];simp
 ·have c:i<l.length:=by simp at hi;omega
  rw[List.getElem?_append_left c,List.getElem?_set_ne,h i c];intro z;have h1:=Nat.div_add_mod (f+l.length) L.length;have B:=Nat.div_add_mod (f+i) L.length;rw[z]at h1;have E:L.length*((f+l.length)/L.length)=L.length*((f+i)/L.length)+(l.length-i):=by omega
  have q:L.length*((f+l.length)/L.length-(f+i)/L.length)=l.length-i:=by rw[Nat.mul_sub];omega
  rcases Nat.eq_zero_or_pos ((f+l.length)/L.length-(f+i)/L.length)with d|d;·rw[d]at q;omega
  ·have:L.length*1≤L.length*((f+l.length)/L.length-(f+i)/L.length):=Nat.mul_le_mul_left _ d;omega
theorem Qd6{w}{r:Nat}{L:List Jr}{t:TypeId}(h:RowBlk Jr.cells w r L t)(i:Nat)(hi:i<L.length)(p:Jr):
  RowBlk Jr.cells ((((w.setCell ⟨r,i*4,none⟩ (.int .u64 p.id)).setCell ⟨r,i*4+1,none⟩ (.int .i64 p.cls)).setCell ⟨r,i*4+2,none⟩ (.int .i64 p.len)).setCell ⟨r,i*4+3,none⟩ (.int .u64 p.at_)) r (L.set i p) t:=
 RowBlk.store Jr.aF h i hi p
theorem Qim{W}{b r pk bt:Nat}{l:List Jr}{L:List Jr}{f:Nat}{p:Jr}(ne:b≠r)(p1:1≤pk)(J:pk≤4096)(b1:1≤bt)(b2:bt≤16777216)(z:∀q∈l,Ll q)
  (hf:f<L.length)(hl:l.length<L.length)(u:L.length≤8192)(hr:Ow L f l)(K:l.length<pk)(E:1≤p.len)(d:p.len≤65535)(hs:p.len≤bt-Jn l)
  (cs:Array Value)(c:cs=#[.int .i64 pk,.int .i64 bt,.slice (some ⟨r,0,none⟩) L.length L.length,.int .i64 f,.int .i64 ((l.length:Int)+1),.int .i64 (Jn l+p.len)])
  (B:Qh W b cs 123) (R:RowBlk Jr.cells W r (L.set ((f+l.length)%L.length) p) 34):Jz W b r pk bt (l++[p]):=by
 have e1:Jn (l++[p])=Jn l+p.len:=by rw[Tk];simp[Jn]
 have k:(((l++[p]).length:Nat):Int)=(l.length:Int)+1:=by simp
 subst c;refine⟨ne,p1,J,b1,b2,by simp;omega,by rw[e1];omega,?_,_,f,?_,R,by simpa using hf,by simp;omega,by simpa using u,Qfj hr p hl⟩
 ·intro q I;rcases Zl.1 I with h|h;·exact z q h
  ·have:q=p:=by simpa using h
   subst this;exact⟨E,d⟩
 ·rw[e1,k,List.length_set];exact B
theorem Qlv{w}{b r pk bt:Nat}{l:List Jr}{L:List Jr}{f:Nat}(p:Jr)(ne:b≠r)(p1:1≤pk)(p2:pk≤4096)(b1:1≤bt)(b2:bt≤16777216)(hg:∀q∈l,Ll q)
  (hf:f<L.length)(hl:l.length<L.length)(hL:L.length≤8192)(hr:Ow L f l)(hm:l.length<pk)(hp:1≤p.len)(ac:p.len≤65535)(hs:p.len≤bt-Jn l)
  (q1:Qh w b #[.int .i64 pk,.int .i64 bt,.slice (some ⟨r,0,none⟩) L.length L.length,.int .i64 f,.int .i64 l.length,.int .i64 (Jn l)] 123)
  (q2:RowBlk Jr.cells w r L 34):
  Cl 73 #[.pointer (some ⟨b,0,none⟩),.agg #[.int .u64 p.id,.int .i64 p.cls,.int .i64 p.len,.int .u64 p.at_]] w fun e w'=>e=.returned (.int .i64 0)∧Jz w' b r pk bt (l++[p])∧Qc (fun k=>k=b∨k=r) w w':=by
 have U:Cp p 65535=0:=by unfold Cp;rw[if_neg (by omega),if_neg (by omega)]
 have aa:=O (fun W cs ab B R=>Qim (W:=W) (p:=p) ne p1 p2 b1 b2 hg hf hl hL hr hm hp ac hs cs ab B R);have s0:=Hd l hg;have hb:=q1.lt;have af:=q2.lt;have c0:=q1.cell 0;simp at c0;have N:=O (fun o=>Hy b pk (w.alloc o) (by rw[World.cell?_alloc_past _ _ _ hb];exact c0) (by omega));have M:=O (fun w=>Rn p 65535 w);rw[U]at M;have HH:=O (Zt (Qh.new w #[.int .u64 p.id,.int .i64 p.cls,.int .i64 p.len,.int .u64 p.at_] 34) (Zt (q1.alloc (.cells #[.int .u64 p.id,.int .i64 p.cls,.int .i64 p.len,.int .u64 p.at_] 34)) (q2.alloc (.cells #[.int .u64 p.id,.int .i64 p.cls,.int .i64 p.len,.int .u64 p.at_] 34))));clear q1 q2 U hg hr c0;go_enter func73,ntmps73;go_wp2_with fail;refine Zz (N.o _) ?_;rintro w1 rfl;go_wp2_with fail;refine Zz (M.o _) ?_;intro w2 hc;have K:=hc.blk HH.o.1 (fun h=>h);have E:=hc.blk HH.o.2.1 (fun h=>h);have V:RowBlk Jr.cells w2 r L 34:=hc.blk HH.o.2.2 (fun h=>h);have ag:w.heap.size<w2.heap.size:=by have:=hc.size;simp at this;omega
 have z0:=K.cell 0;have z1:=K.cell 1;have z2:=K.cell 2;have z3:=K.cell 3;have k0:=E.cell 0;have k1:=E.cell 1;have k2:=E.cell 2;have k3:=E.cell 3;have k4:=E.cell 4;have k5:=E.cell 5;have kz:=E.frozen;have rz:=Qh.frozen V;simp at z0 z1 z2 z3 k0 k1 k2 k3 k4 k5;have PL:=O (fun n=>Ml b f (l.length:Int) (some ⟨r,0,none⟩) L.length L.length (w2.drewN n) k2 k3 (by omega) (by omega) (by omega) (by omega) (by omega) (by omega));obtain⟨pos,d⟩:=Zx ((f+l.length)%L.length);have I:((f:Int)+(l.length:Int))%(L.length:Int)=(pos:Int):=by rw[d];simp
 rw[I]at PL;have c:pos<L.length:=by rw[d];exact Nat.mod_lt _ (by omega)
 have g1:((l.length:Int)==(pk:Int))=false:=by simp;omega
 have g2:decide ((bt:Int)-Jn l<p.len)=false:=by simp;omega
 have g3:((l.length:Int)==(L.length:Int))=false:=by simp;omega
 have n0:(0:Int)≤(pos:Int):=by omega
 have n1:(pos:Int)<(L.length:Int):=by omega
 have nb:¬r=b:=fun h=>ne h.symm;have HC:=O (Zt hc (Zt E V));have Z:=O (fun i(h:i<L.length)j u hu=>V.cellAt Jr.aF i h j u hu);have ae:=Z.o pos c 0 _ rfl;have ah:=Z.o pos c 1 _ rfl;have ai:=Z.o pos c 2 _ rfl;have aj:=Z.o pos c 3 _ rfl;simp only[Nat.add_zero]at ae;have HP:=O d;clear hc K E V d I;go_wp2;go_quiet (fail);go_wp2;go_quiet (fail);go_wp2;refine Yi 0 12 Zq (by kernel_rfl) (fun _ _ _ _ _ h=>h) ?_;simp only[List.take_succ_cons,List.take_zero,List.drop_succ_cons,List.drop_zero];repeat(quiet_step ((go_at_call 131;exact Qpu (PL.o _))))
 refine wpQuiet_nil ?_;intro _ J;obtain⟨nq,z⟩:=J;subst z;go_wp2;refine Yi 0 9 Zq (by kernel_rfl) (fun _ _ _ _ _ h=>h) ?_;simp only[List.take_succ_cons,List.take_zero,List.drop_succ_cons,List.drop_zero];repeat(quiet_step ((fail)))
 refine wpQuiet_nil ?_;intro _ J;obtain⟨nq,z⟩:=J;subst z;go_wp2;go_ret;refine⟨rfl,?_,?_⟩
 ·have e:=HP.o;rw[e]at c;subst e;exact aa.o _ _ (by simp) (Qh.set (Qh.drewN (Qh.set (Qh.other (Qh.other (Qh.other (Qh.other (Qh.drewN HC.o.2.1 _) _ nb) _ nb) _ nb) _ nb) 4 _) _) 5 _)
   (Qh.other (Qh.drewN (Qh.other (Qd6 (Qh.drewN HC.o.2.2 _) _ c p) _ ne) _) _ ne)
 ·have h1:=HC.o.1;have h2:Qc (fun k=>k=b∨k=r) w w2:=(((Zg _ w).alloc (.cells #[.int .u64 p.id,.int .i64 p.cls,.int .i64 p.len,.int .u64 p.at_] 34)).trans h1 fun k h=>h.elim);(repeat' (first|(with_reducible first|exact Zg _ _|assumption|refine Zh ?_ _|refine Zi ?_ _|refine Zj ?_|refine Zk ?_ _ ?_|(apply Or.inl;rfl))|(apply Or.inl;simp;done)|(apply Or.inr;simp;first|done|omega)))
theorem Qfi{L:List Jr}{f:Nat}{l:List Jr}(h:Ow L f l)(hf:f<L.length)(hl:l.length=L.length)(z:Jr):
  Ow (L.drop f++L.take f++List.replicate L.length z) 0 l:=by
 intro i hi;have c:(L.drop f++L.take f++List.replicate L.length z).length=2*L.length:=by simp;omega
 have d:i<L.length:=by omega
 rw[c,Nat.zero_add,Nat.mod_eq_of_lt (by omega),List.getElem?_append_left (by simp;omega),←h i hi];by_cases hc:i<L.length-f;·rw[List.getElem?_append_left (by simp;omega),List.getElem?_drop,Nat.mod_eq_of_lt (by omega)]
 ·rw[List.getElem?_append_right (by simp;omega),List.getElem?_take,if_pos (by simp;omega)];congr 1;rw[show f+i=(f+i-L.length)+L.length by omega,Nat.add_mod_right,Nat.mod_eq_of_lt (by omega)];simp;omega
theorem Qio{w}{b r pk bt:Nat}{l:List Jr}{L:List Jr}{f:Nat}(p:Jr)(ne:b≠r)(p1:1≤pk)(p2:pk≤4096)(b1:1≤bt)(b2:bt≤16777216)(hg:∀q∈l,Ll q)
  (hf:f<L.length)(hl:l.length=L.length)(hL:L.length≤8192)(hr:Ow L f l)(hm:l.length<pk)(hp:1≤p.len)(ah:p.len≤65535)(hs:p.len≤bt-Jn l)
  (q1:Qh w b #[.int .i64 pk,.int .i64 bt,.slice (some ⟨r,0,none⟩) L.length L.length,.int .i64 f,.int .i64 l.length,.int .i64 (Jn l)] 123)
  (q2:RowBlk Jr.cells w r L 34):
  Cl 73 #[.pointer (some ⟨b,0,none⟩),.agg #[.int .u64 p.id,.int .i64 p.cls,.int .i64 p.len,.int .u64 p.at_]] w fun e w'=>e=.returned (.int .i64 0)∧∃r',w.heap.size≤r'∧Jz w' b r' pk bt (l++[p])∧Qc (fun k=>k=b∨k=r) w w':=by
 have ac:Cp p 65535=0:=by unfold Cp;rw[if_neg (by omega),if_neg (by omega)]
 obtain⟨J,E⟩:=Zx (L.drop f++L.take f++List.replicate L.length Jr.zero);have c:J.length=2*L.length:=by rw[E];simp;omega
 have ae:Ow J 0 l:=by rw[E];exact Qfi hr hf hl _
 have af:=O (fun W r'(ai:b≠r')cs ag B R=>Qim (W:=W) (r:=r') (L:=J) (f:=0) (p:=p) ai p1 p2 b1 b2 hg (by omega) (by omega) (by omega) ae hm hp ah hs cs ag B R);have s0:=Hd l hg;have hb:=q1.lt;have ak:=q2.lt;have c0:=q1.cell 0;simp at c0;have N:=O (fun o=>Hy b pk (w.alloc o) (by rw[World.cell?_alloc_past _ _ _ hb];exact c0) (by omega));have M:=O (fun w=>Rn p 65535 w);rw[ac]at M;have HH:=O (Zt (Qh.new w #[.int .u64 p.id,.int .i64 p.cls,.int .i64 p.len,.int .u64 p.at_] 34) (Zt (q1.alloc (.cells #[.int .u64 p.id,.int .i64 p.cls,.int .i64 p.len,.int .u64 p.at_] 34)) (q2.alloc (.cells #[.int .u64 p.id,.int .i64 p.cls,.int .i64 p.len,.int .u64 p.at_] 34))));have G:=O (fun(W)(q1:Qh W b #[.int .i64 pk,.int .i64 bt,.slice (some ⟨r,0,none⟩) L.length L.length,.int .i64 f,.int .i64 l.length,.int .i64 (Jn l)] 123)
  (q2:RowBlk Jr.cells W r L 34)=>Qpp _ _ _ _ L f hf (by omega) ne q1 q2)
 rw[←E]at G;have g1:((l.length:Int)==(pk:Int))=false:=by simp;omega
 have g2:decide ((bt:Int)-Jn l<p.len)=false:=by simp;omega
 have g3:((l.length:Int)==(L.length:Int))=true:=by simp;omega
 have i1:l.length≤L.length:=by omega
 have i2:L.length≤l.length:=by omega
 have HL:=O (Zt hl (Zt c E));clear q1 q2 ac hg hr c0 hl c E ae;go_enter func73,ntmps73;go_wp2_with fail;refine Zz (N.o _) ?_;rintro w1 rfl;go_wp2_with fail;refine Zz (M.o _) ?_;intro w2 hc;have Z2:=hc.blk HH.o.1 (fun h=>h);have Q2:=hc.blk HH.o.2.1 (fun h=>h);have R2:RowBlk Jr.cells w2 r L 34:=hc.blk HH.o.2.2 (fun h=>h);have al:w.heap.size<w2.heap.size:=by have:=hc.size;simp at this;omega
 have z2:=Z2.cell 2;have k0:=Q2.cell 0;have k1:=Q2.cell 1;have k2:=Q2.cell 2;have k4:=Q2.cell 4;have k5:=Q2.cell 5;simp at z2 k0 k1 k2 k4 k5;have HC:=O (Zt hc (Zt Q2 (Zt R2 Z2)));clear hc Z2 Q2 R2;go_wp2;go_quiet (fail);go_wp2;go_quiet (fail);go_wp2_with fail;refine Zz (G.o _ (HC.o.2.1.drewN _) (Qh.drewN HC.o.2.2.1 _)) ?_;rintro w3⟨U,R3,C3⟩;simp only[World.heap_drewN]at U R3;have am:w2.heap.size<w3.heap.size:=Qh.lt R3;clear z2 k0 k1 k2 k4 k5;have ab:Qc (fun k=>k=b∨k=r) w w3:=((((Zg _ w).alloc (.cells #[.int .u64 p.id,.int .i64 p.cls,.int .i64 p.len,.int .u64 p.at_] 34)).trans HC.o.1 (fun k h=>h.elim)).drewN _).trans C3 (fun k h=>.inl (.inl h));have Z3:Qh w3 w.heap.size #[.int .u64 p.id,.int .i64 p.cls,.int .i64 p.len,.int .u64 p.at_] 34:=C3.blk (HC.o.2.2.2.drewN _) (by omega);have z0:=Z3.cell 0;have z1:=Z3.cell 1;have z2:=Z3.cell 2;have z3:=Z3.cell 3;have k2:=U.cell 2;have k3:=U.cell 3;have k4:=U.cell 4;have k5:=U.cell 5;have kz:=U.frozen;have rz:=Qh.frozen R3;simp at z0 z1 z2 z3 k2 k3 k4 k5;have c:=HL.o.2.1;rw[←c]at k2;have PL:=O (fun n=>Ml b 0 (l.length:Int) (some ⟨w2.heap.size,0,none⟩) J.length J.length (w3.drewN n) k2 k3 (by omega) (by omega) (by omega) (by omega) (by omega) (by omega));obtain⟨pos,z⟩:=Zx ((0+l.length)%J.length);have V:((0:Int)+(l.length:Int))%(J.length:Int)=(pos:Int):=by rw[z];simp
 rw[V]at PL;have d:pos<J.length:=by rw[z];exact Nat.mod_lt _ (by omega)
 have n0:(0:Int)≤(pos:Int):=by omega
 have n1:(pos:Int)<(J.length:Int):=by omega
 have K:b≠w2.heap.size:=by omega
 have nb:¬w2.heap.size=b:=fun h=>K h.symm;have RC:=O (fun i(h:i<J.length)j u hu=>R3.cellAt Jr.aF i h j u hu);have aj:=RC.o pos d 0 _ rfl;have an:=RC.o pos d 1 _ rfl;have ao:=RC.o pos d 2 _ rfl;have ap:=RC.o pos d 3 _ rfl;simp only[Nat.add_zero]at aj;have HP:=O z;have Z:=O (Zt ab (Zt U R3));have H2:=O c;clear U R3 C3 ab Z3 z V c;go_wp2;refine Yi 0 12 Zq (by kernel_rfl) (fun _ _ _ _ _ h=>h) ?_;simp only[List.take_succ_cons,List.take_zero,List.drop_succ_cons,List.drop_zero];repeat(quiet_step ((go_at_call 131;exact Calls.quiet_of (PL.o _))))
 refine wpQuiet_nil ?_;intro _ aa;obtain⟨nq,I⟩:=aa;subst I;go_wp2;refine Yi 0 9 Zq (by kernel_rfl) (fun _ _ _ _ _ h=>h) ?_;simp only[List.take_succ_cons,List.take_zero,List.drop_succ_cons,List.drop_zero];repeat(quiet_step ((fail)))
 refine wpQuiet_nil ?_;intro _ aa;obtain⟨nq,I⟩:=aa;subst I;go_wp2;go_ret;refine⟨rfl,w2.heap.size,by omega,?_,?_⟩
 ·have e:=HP.o;rw[e]at d;subst e;exact af.o _ _ K _ (by simp[H2.o]) (Qh.set (Qh.drewN (Qh.set (Qh.other (Qh.other (Qh.other (Qh.other (Qh.drewN Z.o.2.1 _) _ nb) _ nb) _ nb) _ nb) 4 _) _) 5 _)
   (Qh.other (Qh.drewN (Qh.other (Qd6 (Qh.drewN Z.o.2.2 _) _ d p) _ K) _) _ K)
 ·have h1:=Z.o.1;exact Zk (Zi (Zk (Zk (Zk (Zk (Zk (Zi h1 _) _ (.inr (by simp;omega))) _ (.inr (by simp;omega))) _ (.inr (by simp;omega))) _ (.inr (by simp;omega))) _ (.inl (by simp))) _) _ (.inl (by simp))
theorem Qsj{w}{b r pk bt:Nat}{l:List Jr}(h:Jz w b r pk bt l)(p:Jr)(q:D8 pk bt l p=0):
  Cl 73 #[.pointer (some ⟨b,0,none⟩),.agg #[.int .u64 p.id,.int .i64 p.cls,.int .i64 p.len,.int .u64 p.at_]] w fun e w'=>e=.returned (.int .i64 0)∧∃c,(c=r∨w.heap.size≤c)∧Jz w' b c pk bt (l++[p])∧Qc (fun k=>k=b∨k=r) w w':=by
 unfold D8 at q;split at q;·omega
 ·split at q;·omega
  ·rename_i h1 K;obtain⟨ne,p1,I,b1,b2,R,s1,B,L,f,q1,q2,hf,hl,E,hr⟩:=h;by_cases J:l.length=L.length;·refine(Qio p ne p1 I b1 b2 B hf J E hr (by omega) (by omega) (by omega) (by omega) q1 q2).mono ?_;rintro e w'⟨d,c,z,u,hc⟩;exact⟨d,c,.inr z,u,hc⟩
   ·refine(Qlv p ne p1 I b1 b2 B hf (by omega) E hr (by omega) (by omega) (by omega) (by omega) q1 q2).mono ?_;rintro e w'⟨d,u,hc⟩;exact⟨d,r,.inl rfl,u,hc⟩
theorem Qsi{w}{b r pk bt:Nat}{l:List Jr}(h:Jz w b r pk bt l)(p:Jr)(c:D8 pk bt l p≠0):
  Cl 73 #[.pointer (some ⟨b,0,none⟩),.agg #[.int .u64 p.id,.int .i64 p.cls,.int .i64 p.len,.int .u64 p.at_]] w fun e w'=>e=.returned (.int .i64 (D8 pk bt l p))∧Qc Qb w w':=by
 unfold D8 at*;split at c;·rename_i h1;rw[if_pos h1];exact Qlu h p h1
 ·rename_i h1;rw[if_neg h1];split at c;·rename_i d;rw[if_pos d];exact Qlt h p (by omega) (by omega) d
  ·exact absurd rfl c
theorem Qpo{w}{b r pk bt:Nat}{l:List Jr}(h:Jz w b r pk bt l):
  Cl 39 #[.pointer (some ⟨b,0,none⟩)] w fun e w'=>e=.returned (.pointer (some ⟨w.heap.size,0,none⟩))∧Jz w' w.heap.size (w.heap.size+1) pk bt l∧Qc Qb w w':=by
 have Xg:=h.lt;obtain⟨ne,p1,p2,b1,b2,m1,s1,J,L,f,q1,q2,hf,hl,hL,hr⟩:=h;have R:=q1.cell 0;have U:=q1.cell 1;have V:=q1.cell 2;have c3:=q1.cell 3;have c4:=q1.cell 4;have c5:=q1.cell 5;simp at R U V c3 c4 c5;have mk:∀w:World,(Instr.makeSlice 27 (.int .i64 L.length) (.int .i64 L.length)).run prog w=.ok (.slice (some ⟨w.heap.size,0,none⟩) L.length L.length) (w.alloc (.cells (Jm Jr.cells (List.replicate L.length Jr.zero)).toArray 34)):=
  fun w=>Gi pktT L.length (by omega) (by omega) w
 generalize K:(Jm Jr.cells (List.replicate L.length Jr.zero)).toArray=Z at mk;have hb:=Xg.1;have aa:=Xg.2;have d:=O (Zt hr (Zt q1 (Zt q2 (Zt J K))));clear hr q1 q2 J K Xg;go_enter func39,ntmps39;go_wp2;refine Yi 0 6 Zq (by kernel_rfl) (fun _ _ _ _ _ h=>h) ?_;simp only[List.take_succ_cons,List.take_zero,List.drop_succ_cons,List.drop_zero];repeat(quiet_step ((fail)))
 refine wpQuiet_nil ?_;intro _ B;obtain⟨nq,c⟩:=B;subst c;refine Dy pktT rfl (.tmp 17) (.tmp 21) rfl _ _ _ _ _ _ rfl rfl (w.heap.size+1) 0 (List.replicate L.length Jr.zero) 34 ?_ L ?_ ?_ ?_ ?_ ?_;·show Qh _ _ _ _;rw[d.o.2.2.2.2];exact(Qh.new' Z 34 (by simp)).drewN _
 ·show _=min _ _;omega
 ·intro _;rfl
 ·exact RowBlk.row Jr.aF (Qh.drewN (Qh.alloc (Qh.alloc d.o.2.2.1 _) _) _)
 ·simp
 intro w1 z q;have e1:(List.replicate L.length Jr.zero).take 0++L++(List.replicate L.length Jr.zero).drop (0+L.length)=L:=by simp
 rw[e1]at z;have E:=q.blk (Qh.drewN (Qh.alloc (Qh.new w #[.int .i64 pk,.int .i64 bt,.slice (some ⟨w.heap.size+1,0,none⟩) L.length L.length,.int .i64 f,.int .i64 l.length,.int .i64 (Jn l)] 123) (.cells Z 34)) nq) (by omega);have I:Qc Qb w w1:=((((Zg Qb w).alloc _).alloc _).drewN _).trans q (fun k hk=>.inr (by omega));have u:=O (Zt E (Zt z I));clear E z I q e1;go_wp2;go_ret;exact⟨rfl,⟨by omega,p1,p2,b1,b2,m1,s1,d.o.2.2.2.1,L,f,u.o.1,u.o.2.1,hf,hl,hL,d.o.1⟩,u.o.2.2⟩
section
attribute [local go_sem] Qp
def quS(b pk bt:Nat)(q:List Jr):Ya:=fun w F=>∃r,Jz w b r pk bt q∧F b∧F r∧Bd F w
theorem Lm(b pk bt:Nat)(q:List Jr):Uy (quS b pk bt q) where
 bd:=fun⟨r,_,_,_,h⟩=>h
 aB:=fun⟨r,h,h1,c,d⟩hc k=>⟨r,h.aB hc (k _ h1) (k _ c),h1,c,d.later hc⟩
 more:=fun⟨r,h,h1,c,d⟩hs u=>⟨r,h,hs _ h1,hs _ c,u⟩
def Qrs(b qb:Nat)(dv:Value)(l:Qw):List Ya:=[Tv b #[ptr qb,dv] 85,quS qb l.pk l.bt l.q,fun w F=>Kv w F dv l.debt]
theorem U5(b qb:Nat)(dv:Value)(l:Qw):∀P∈Qrs b qb dv l,Uy P:=by
 intro P c;simp only[Qrs,Zu,List.not_mem_nil,or_false]at c;rcases c with rfl|rfl|rfl;·exact Ks _ _ _
 ·exact Lm _ _ _ _
 ·exact Kv.good _ _
def Yj(w:World)(F:Fp)(b:Nat)(l:Qw):Prop:=∃qb dv,Oh (Qrs b qb dv l) w F
theorem Yj.obj:Hf Yj where
 bd:=fun⟨qb,dv,h⟩=>(Je (U5 _ _ _ _)).bd h
 own:=fun⟨qb,dv,h⟩=>by obtain⟨G,h1,c⟩:=J6 (U5 _ _ _ _) 0 rfl h;exact c _ h1.2.1
 aB:=fun⟨qb,dv,h⟩hc k=>⟨qb,dv,(Je (U5 _ _ _ _)).aB h hc k⟩
 more:=fun⟨qb,dv,h⟩hs d=>⟨qb,dv,(Je (U5 _ _ _ _)).more h hs d⟩
structure Tb where
 tb:Nat
 m:Nat
 rb:Nat
 pb:Nat
 ad:Int→Nat
def Qfq(A:Tb)(s:Qf):Array Value:=#[.int .i64 s.most,ptr A.tb,.map (some A.m),ptr A.rb,ptr A.pb]
def Lw(A:Tb)(b:Nat)(L:List Qw)(s:Qf):List Ya:=
 [Tv b (Qfq A s) 79,fun w F=>Q9 w F A.tb s.tree,fun w F=>Yn Qw.id Yj w F A.m A.ad L,fun w F=>Yq w F A.rb s.row,fun w F=>Yr w F A.pb s.pick]
theorem Ua(A:Tb)(b:Nat)(L:List Qw)(s:Qf):∀P∈Lw A b L s,Uy P:=by
 intro P c;simp only[Lw,Zu,List.not_mem_nil,or_false]at c;rcases c with rfl|rfl|rfl|rfl|rfl;·exact Ks _ _ _
 ·exact Q9.obj.good _ _
 ·exact Sm Yj.obj _ _ _
 ·exact Yq.obj.good _ _
 ·exact Yr.obj.good _ _
def Qi(A:Tb)(w:World)(F:Fp)(b:Nat)(s:Qf):Prop:=∃L:List Qw,L.Perm s.aI∧Oh (Lw A b L s) w F
theorem Qi.obj(A:Tb):Hf (Qi A) where
 bd:=fun⟨L,_,h⟩=>(Je (Ua A _ L _)).bd h
 own:=fun⟨L,_,h⟩=>by obtain⟨G,h1,d⟩:=J6 (Ua A _ L _) 0 rfl h;exact d _ h1.2.1
 aB:=fun⟨L,c,h⟩hc q=>⟨L,c,(Je (Ua A _ L _)).aB h hc q⟩
 more:=fun⟨L,c,h⟩hs k=>⟨L,c,(Je (Ua A _ L _)).more h hs k⟩
def Qt(w:World)(F:Fp)(b:Nat)(s:Qf):Prop:=∃A,Qi A w F b s
theorem Qt.obj:Hf Qt where
 bd:=fun⟨A,h⟩=>(Qi.obj A).bd h
 own:=fun⟨A,h⟩=>(Qi.obj A).own h
 aB:=fun⟨A,h⟩hc d=>⟨A,(Qi.obj A).aB h hc d⟩
 more:=fun⟨A,h⟩hs c=>⟨A,(Qi.obj A).more h hs c⟩
section
variable{A:Tb}{w:World}{F:Fp}{b:Nat}{s:Qf}
theorem Qi.drew(h:Qi A w F b s):Qi A w.drew F b s:=(Qi.obj A).aB h (Zg Qb w).drew (Jl.none F)
theorem Qi.blk(h:Qi A w F b s):Qh w b (Qfq A s) 79:=by obtain⟨L,c,h⟩:=h;obtain⟨G,h1,_⟩:=J6 (Ua A b L s) 0 rfl h;exact h1.1
theorem Qi.part(h:Qi A w F b s)(i:Nat){R:List Qw→Ya}(hi:∀L,(Lw A b L s)[i]? =some (R L)):
  ∃L,L.Perm s.aI∧∃G:Fp,R L w G∧(∀k,G k→F k)∧∀w' L' s' Q,L'.Perm s'.aI→Lw A b L' s'=(Lw A b L s).set i Q→Q w' (Qn G w w')→Qc G w w'→Qi A w' (Qn F w w') b s'∧Qc F w w':=by
 obtain⟨L,B,h⟩:=h;obtain⟨G,u,q,_,z⟩:=Xv i (Ua A b L s) (hi L) h;refine⟨L,B,G,u,q,fun w' L' s' Q d hs E c=>⟨⟨L',d,?_⟩,c.sub q⟩⟩;rw[hs];exact z w' Q c E
theorem Qi.treeOf(h:Qi A w F b s):∃G:Fp,Q9 w G A.tb s.tree∧(∀k,G k→F k)∧∀w' t,Q9 w' (Qn G w w') A.tb t→Qc G w w'→Qi A w' (Qn F w w') b {s with tree:=t}∧Qc F w w':=by obtain⟨L,u,G,h1,d,q⟩:=h.part 1 (R:=fun _ w F=>Q9 w F A.tb s.tree) (fun _=>rfl);exact⟨G,h1,d,fun w' t ht c=>q w' L {s with tree:=t} _ u rfl ht c⟩
theorem Qi.rowOf(h:Qi A w F b s):∃G:Fp,Yq w G A.rb s.row∧(∀k,G k→F k)∧∀w' t,Yq w' (Qn G w w') A.rb t→Qc G w w'→Qi A w' (Qn F w w') b {s with row:=t}∧Qc F w w':=by obtain⟨L,u,G,h1,d,q⟩:=h.part 3 (R:=fun _ w F=>Yq w F A.rb s.row) (fun _=>rfl);exact⟨G,h1,d,fun w' t ht c=>q w' L {s with row:=t} _ u rfl ht c⟩
theorem Qi.pickOf(h:Qi A w F b s):∃G:Fp,Yr w G A.pb s.pick∧(∀k,G k→F k)∧∀w' t,Yr w' (Qn G w w') A.pb t→Qc G w w'→Qi A w' (Qn F w w') b {s with pick:=t}∧Qc F w w':=by obtain⟨L,u,G,h1,d,q⟩:=h.part 4 (R:=fun _ w F=>Yr w F A.pb s.pick) (fun _=>rfl);exact⟨G,h1,d,fun w' t ht c=>q w' L {s with pick:=t} _ u rfl ht c⟩
theorem Qi.collOf(h:Qi A w F b s):∃L,L.Perm s.aI∧∃G:Fp,Yn Qw.id Yj w G A.m A.ad L∧(∀k,G k→F k)∧
  ∀w' L' s',L'.Perm s'.aI→s'.most=s.most→s'.tree=s.tree→s'.row=s.row→s'.pick=s.pick→Yn Qw.id Yj w' (Qn G w w') A.m A.ad L'→Qc G w w'→Qi A w' (Qn F w w') b s'∧Qc F w w':=by
 obtain⟨L,J,G,h1,B,E⟩:=h.part 2 (R:=fun L w F=>Yn Qw.id Yj w F A.m A.ad L) (fun _=>rfl);refine⟨L,J,G,h1,B,fun w' L' s' d q e1 u z I c=>E w' L' s' (fun w F=>Yn Qw.id Yj w F A.m A.ad L') d ?_ I c⟩;unfold Lw Qfq;rw[q,e1,u,z];rfl
theorem So{L:List Qw}(c:L.Perm s.aI)(hn:(L.map Qw.id).Nodup)(i:Int):s.leaf i=Hn Qw.id i L:=(Mz c hn i).symm
theorem Qi.leafOf(h:Qi A w F b s){i:Int}{l:Qw}(hl:s.leaf i=some l):
  ∃G:Fp,Yj w G (A.ad i) l∧(∀k,G k→F k)∧∀w' l',l'.id=i→Yj w' (Qn G w w') (A.ad i) l'→Qc G w w'→Qi A w' (Qn F w w') b (s.setLeaf l')∧Qc F w w':=by
 obtain⟨L,E,G,B,I,q⟩:=h.collOf;rw[So E B.nodup]at hl;obtain⟨J,c⟩:=Y3 hl;subst c;obtain⟨K,k1,k2,R⟩:=B.focus Yj.obj J;refine⟨K,k1,fun k u=>I k (k2 k u).1,fun w' l' c z d=>?_⟩;have:=R w' l' c z d;exact q w' _ (s.setLeaf l') (E.map _) rfl rfl rfl rfl this (d.sub fun k u=>(k2 k u).1)
def Qad(A:Tb)(s:Qf)(i:Int):Value:=match s.leaf i with
 |none=>.pointer none
 |some _=>ptr (A.ad i)
theorem Qf7(w):(zeroValue 80).run prog w=.ok (.pointer none) w:=by go_simp
theorem Qi.look1(h:Qi A w F b s)(i:Int):(Instr.lookup 75 (.map (some A.m)) (.int .i64 i) false).run prog w=.ok (Qad A s i) w:=by
 obtain⟨L,k,G,c,_,_⟩:=h.collOf;have d:=Du (P:=prog) c.map underlying75 underlying3 (Qf7 w) i;rw[c.look i,←So k c.nodup]at d;have q:((s.leaf i).map fun _=>ptr (A.ad i)).getD (.pointer none)=Qad A s i:=by unfold Qad;cases s.leaf i<;>rfl
 rw[q]at d;exact d
theorem G7{i:Int}{l:Qw}(hl:s.leaf i=some l):Qad A s i=ptr (A.ad i):=by unfold Qad;rw[hl]
theorem Qae{i:Int}(hl:s.leaf i=none):Qad A s i=.pointer none:=by unfold Qad;rw[hl]
theorem Qi.nodup(h:Qi A w F b s):(s.aI.map Qw.id).Nodup:=by obtain⟨L,d,G,c,_⟩:=h.collOf;exact((d.map _).nodup_iff).1 c.nodup
theorem Qi.once(h:Qi A w F b s):∃p G,Qh w A.rb #[ptr p] 135∧Jg w G p s.row:=by obtain⟨G,h1,_⟩:=h.rowOf;obtain⟨p,c,k,d,_⟩:=h1.ex;exact⟨p,c,k,d⟩
variable{l:Qw}{a:Nat}
theorem Yj.cells(h:Yj w F a l):∃qb dv,Qh w a #[ptr qb,dv] 85∧(∃r,Jz w qb r l.pk l.bt l.q)∧∃G,Kv w G dv l.debt:=by obtain⟨qb,dv,h⟩:=h;obtain⟨k,h0,_⟩:=J6 (U5 a qb dv l) 0 rfl h;obtain⟨q,⟨r,h1,_⟩,_⟩:=J6 (U5 a qb dv l) 1 rfl h;obtain⟨c,d,_⟩:=J6 (U5 a qb dv l) 2 rfl h;exact⟨qb,dv,h0.1,⟨r,h1⟩,c,d⟩
theorem Yj.opn(h:Yj w F a l):∃qb dv,Qh w a #[ptr qb,dv] 85∧
  (∃G:Fp,quS qb l.pk l.bt l.q w G∧(∀k,G k→F k)∧¬G a∧∀w' q',quS qb l.pk l.bt q' w' (Qn G w w')→Qc G w w'→Yj w' (Qn F w w') a {l with q:=q'}∧Qc F w w')∧
  (∃G:Fp,Kv w G dv l.debt∧(∀k,G k→F k)∧¬G a∧∀w' d',Kv w' (Qn G w w') dv d'→Qc G w w'→Yj w' (Qn F w w') a {l with debt:=d'}∧Qc F w w'):=by
 obtain⟨qb,dv,h⟩:=h;have hh:=h;obtain⟨u,G0,R0,K,⟨ab,B,R1,g1,⟨ac,E,R2,g2,_,_,s4,_⟩,d1,s2,s3⟩,d0,s0,s1⟩:=hh;have n1:¬B a:=fun c=>d0 a K.2.1 (s2 _ c);have n2:¬E a:=fun c=>d0 a K.2.1 (s3 _ (s4 _ c));have U:∀k,B k→F k:=fun k c=>s1 _ (s2 _ c);have V:∀k,E k→F k:=fun k c=>s1 _ (s3 _ (s4 _ c));have I:Jl B E:=fun k c aa=>d1 k c (s4 _ aa);have ga:F a:=s0 _ K.2.1;have J:Bd B w:=u.sub U;have z:Bd E w:=u.sub V;refine⟨qb,dv,K.1,⟨B,g1,U,n1,fun w' q' hq d=>?_⟩,⟨E,g2,V,n2,fun w' d' hd d=>?_⟩⟩
 ·have R:=d.sub U;refine⟨⟨qb,dv,?_⟩,R⟩;have Z:Qh w' a #[ptr qb,dv] 85:=d.blk K.1 n1;refine Q7 (G:=fun k=>k=a) (H:=fun k=>Qn B w w' k∨E k) ⟨Z,rfl,fun k e=>e▸Z.lt⟩ ?_ ?_ (fun k e=>.inl (e▸ga)) ?_ (u.ext R);·refine Q7 (G:=Qn B w w') (H:=E) hq (Y6 ((Kv.good dv l.debt).aB g2 d I.symm) (z.later d)) (Jl.extL I z) (fun k c=>.inl c) (fun k c=>.inr c) ?_;exact fun k c=>c.elim (J.ext d k) (z.later d k)
  ·rintro k rfl(c|c);·exact c.elim n1 fun c=>by have:=u _ ga;omega
   ·exact n2 c
  ·exact fun k c=>c.elim (Qn.mono U k) fun c=>.inl (V k c)
 ·have R:=d.sub V;refine⟨⟨qb,dv,?_⟩,R⟩;have Z:Qh w' a #[ptr qb,dv] 85:=d.blk K.1 n2;refine Q7 (G:=fun k=>k=a) (H:=fun k=>B k∨Qn E w w' k) ⟨Z,rfl,fun k e=>e▸Z.lt⟩ ?_ ?_ (fun k e=>.inl (e▸ga)) ?_ (u.ext R);·refine Q7 (G:=B) (H:=Qn E w w') ((Lm qb l.pk l.bt l.q).aB g1 d I) (Y6 hd (z.ext d)) (Jl.extR I J) (fun k c=>.inl c) (fun k c=>.inr c) ?_;exact fun k c=>c.elim (J.later d k) (z.ext d k)
  ·rintro k rfl(c|c);·exact n1 c
   ·exact c.elim n2 fun c=>by have:=u _ ga;omega
  ·exact fun k c=>c.elim (fun c=>.inl (U k c)) (Qn.mono V k)
end
end
section
attribute [local go_sem] Qp
attribute [local irreducible] Kl J9 Xo
section
variable{A:Tb}{w:World}{F:Fp}{b:Nat}{s:Qf}
theorem Ku(h:Qi A w F b s)(q:1≤s.most):Cl 30 #[ptr b] w fun e w'=>e=.returned (.bool false)∧w=w':=by
 obtain⟨k,_⟩:=Ym h.blk;have d:(s.most==0)=false:=by
  have:s.most≠0:=by omega
  simpa using this
 have c:decide (s.most=0)=false:=by
  have:s.most≠0:=by omega
  simpa using this
 unfold ptr;clear h;go_enter func30,ntmps30;go_wp2;go_ret;exact⟨rfl,rfl⟩
theorem Qiz(most:Int)(w)(h:most<1∨65536≤most):Cl 26 #[.int .i64 most] w fun e w'=>e=.returned (.tuple #[.pointer none,.int .i64 2])∧Qc Qb w w':=by
 have C:=O (Zg Qb w).drew;by_cases h1:most<1
 ·have c:decide (most<1)=true:=by simpa using h1
  go_enter func26,ntmps26;go_wp2;go_ret2;refine⟨rfl,?_⟩;exact Zg _ _
 ·have d:65536≤most:=h.resolve_left h1;have c:decide (most<1)=false:=by simp;omega
  have k:decide (65536≤most)=true:=by simpa using d
  go_enter func26,ntmps26;go_wp2;go_ret2;refine⟨rfl,?_⟩;exact Zg _ _
theorem Qeb(most:Int)(h1:1≤most)(h2:most<65536)(w):Cl 26 #[.int .i64 most] w fun e w'=>∃b,e=.returned (.tuple #[ptr b,.int .i64 0])∧Qt w' (Qn Qb w w') b (Qf.new most)∧Qc Qb w w':=by
 have HN:=O Qos;have EN:=O Qod;have PN:=O Qpk;have aa:=@run_makeMap prog;have d1:decide (most<1)=false:=by simp;omega
 have d2:decide (65536≤most)=false:=by simp;omega
 have q:Hi (∀w1 w3 w4 tb rb pb,Qc Qb w w1→Q9 w1 (Qn Qb w w1) tb []→Qc Qb (w1.alloc (.map #[] 0)) w3→Yq w3 (Qn Qb (w1.alloc (.map #[] 0)) w3) rb []→Qc Qb w3 w4→Yr w4 (Qn Qb w3 w4) pb Qe.new→
   Qt (w4.alloc (.cells #[.int .i64 most,ptr tb,.map (some w1.heap.size),ptr rb,ptr pb] 79)) (Qn Qb w (w4.alloc (.cells #[.int .i64 most,ptr tb,.map (some w1.heap.size),ptr rb,ptr pb] 79))) w4.heap.size (Qf.new most)∧Qc Qb w (w4.alloc (.cells #[.int .i64 most,ptr tb,.map (some w1.heap.size),ptr rb,ptr pb] 79))):=O (by
  intro w1 w3 w4 tb rb pb u I d B c E;have Z:Qc Qb w1 (w1.alloc (.map #[] 0)):=(Zg _ _).alloc _;have V:Xq (w1.alloc (.map #[] 0)) w1.heap.size []:=Xq.new w1;have hz:(w1.alloc (.map #[] 0)).heap.size=w1.heap.size+1:=by simp
  generalize w1.alloc (.map #[] 0)=w2 at*;have z:Qc Qb w4 (w4.alloc (.cells #[.int .i64 most,ptr tb,.map (some w1.heap.size),ptr rb,ptr pb] 79)):=(Zg _ _).alloc _;have hB:Qh (w4.alloc (.cells #[.int .i64 most,ptr tb,.map (some w1.heap.size),ptr rb,ptr pb] 79)) w4.heap.size #[.int .i64 most,ptr tb,.map (some w1.heap.size),ptr rb,ptr pb] 79:=Qh.new _ _ _;generalize w4.alloc (.cells #[.int .i64 most,ptr tb,.map (some w1.heap.size),ptr rb,ptr pb] 79)=w5 at*;have s1:=u.size;have s3:=d.size;have s4:=c.size;have s5:=hB.lt;refine⟨⟨⟨tb,w1.heap.size,rb,pb,fun _=>0⟩,[],List.Perm.refl _,?_⟩,(((u.aA Z).aA d).aA c).aA z⟩;have t5:Q9 w5 (Qn Qb w w1) tb []:=Q9.obj.aB I (((Z.aA d).aA c).aA z) (Jl.none _);have m5:Xq w5 w1.heap.size []:=V.aB ((d.aA c).aA z) (fun h=>h);have e5:Yq w5 (Qn Qb w2 w3) rb []:=Yq.obj.aB B (c.aA z) (Jl.none _);have p5:Yr w5 (Qn Qb w3 w4) pb Qe.new:=Yr.obj.aB E z (Jl.none _);have K:Bd (Qn Qb w w5) w5:=fun k R=>((Qr k).1 R).2;have bd:∀{U:Fp},(∀k,U k→w.heap.size≤k∧k<w5.heap.size)→Bd U w5:=fun h k R=>(h k R).2;refine Q7 (G:=fun k=>k=w4.heap.size) (H:=fun k=>w.heap.size≤k∧k<w4.heap.size) ⟨hB,rfl,fun k e=>e▸s5⟩ ?_ (fun k e h=>by omega) (fun k e=>(Qr k).2 (by omega)) (fun k h=>(Qr k).2 (by omega)) K;refine Q7 (G:=Qn Qb w w1) (H:=fun k=>w1.heap.size≤k∧k<w4.heap.size) t5 ?_ (fun k e h=>by have:=(Qr k).1 e;omega) (fun k e=>by have:=(Qr k).1 e;omega) (fun k h=>by omega) (bd fun k h=>by omega);refine Q7 (G:=fun k=>k=w1.heap.size) (H:=fun k=>w2.heap.size≤k∧k<w4.heap.size) (Yn.new m5 (fun k e=>by rw[e];exact m5.lt) rfl) ?_ (fun k e h=>by omega) (fun k e=>by omega) (fun k h=>by omega) (bd fun k h=>by omega);refine Q7 (G:=Qn Qb w2 w3) (H:=Qn Qb w3 w4) e5 (Y6 p5 (Yr.obj.bd p5)) (fun k e h=>by have:=(Qr k).1 e;have:=(Qr k).1 h;omega) (fun k e=>by have:=(Qr k).1 e;omega) (fun k h=>by have:=(Qr k).1 h;omega) (bd fun k h=>by omega))
 unfold ptr at*;go_enter func26,ntmps26;go_wp2_with fail;refine(HN.o _).mono ?_;rintro e w1⟨tb,rfl,I,u⟩;have J:=O (Zt u I);clear u I;go_wp2_with fail;refine(EN.o _).mono ?_;rintro e w3⟨rb,rfl,B,d⟩;have T3:=O (Zt d B);clear d B;go_wp2_with fail;refine(PN.o _).mono ?_;rintro e w4⟨pb,rfl,E,c⟩;have FF:=O (q.o w1 w3 w4 tb rb pb J.o.1 J.o.2 T3.o.1 T3.o.2 c E);clear c E q J T3;unfold ptr at*;go_wp2;go_ret2;exact⟨_,rfl,FF.o⟩
end
section
variable{w:World}{g:Nat}
theorem Vc{t:TypeId}:∀(vs:List Value)(o:Nat)(w)(cs:Array Value),Qh w g cs t→o+vs.length≤cs.size→
  ∃cs',Qh (w.setCells g o vs) g cs' t∧cs'.size=cs.size∧(∀k,cs'[k]? =if o≤k∧k<o+vs.length then vs[k-o]? else cs[k]?)∧Qc (fun k=>k=g) w (w.setCells g o vs)
 |[],o,w,cs,h,_=>⟨cs,h,rfl,fun k=>by rw[if_neg (by simp)],Zg _ _⟩
 |v::vs,o,w,cs,h,hb=>by
  simp only[Zm]at hb;obtain⟨cs',h1,q,u,z⟩:=Vc vs (o+1) (w.setCell ⟨g,o,none⟩ v) _ (h.set o v) (by simp;omega);refine⟨cs',h1,by rw[q];simp,fun k=>?_,?_⟩
  ·rw[u k];by_cases e:k=o
   ·subst e;rw[if_neg (by omega),if_pos (by simp),Nat.sub_self];have:k<cs.size:=by omega
    simp[this]
   ·by_cases c:o+1≤k∧k<o+1+vs.length;·rw[if_pos c,if_pos (by simp only[Zm];omega),show k-o=(k-(o+1))+1 by omega,Zd]
    ·rw[if_neg c,if_neg (by simp only[Zm];omega),Array.getElem?_setIfInBounds_ne (fun d=>e d.symm)]
  ·have hc:Qc (fun k=>k=g) w (w.setCell ⟨g,o,none⟩ v):=(Zg _ _).setCell _ (.inl rfl);exact hc.aA z
theorem Q6.mk{cap:Nat}{l:List Int}{c:Array Value}(q:Qh w g c 3)(hs:c.size=cap)(hn:l.length≤cap)(u:cap≤maxLen)(hc:∀(k:Nat)(y:Int),l[k]? =some y→c[k]? =some (.int .i64 y)):Q6 w (.slice (some ⟨g,0,none⟩) l.length cap) l:=by
 refine⟨by rw[Wo];simp,.inr ⟨g,cap,c,rfl,Nat.zero_le _,q,hn,u,by omega,?_⟩⟩;rw[Wo];apply List.ext_getElem?;intro k;rw[List.getElem?_take,List.getElem?_map];by_cases d:k<l.length;·rw[if_pos (by omega),List.getElem?_eq_getElem d];have:=hc k _ (List.getElem?_eq_getElem d);simpa using this
 ·rw[if_neg (by omega),List.getElem?_eq_none (by omega)];rfl
theorem Qm9(l:List Int)(x:Int){i:Nat}(hi:i≤l.length)(k:Nat):(l.take i++x::l.drop i)[k]? =if k<i then l[k]? else if k=i then some x else l[k-1]? :=by
 have hl:(l.take i).length=i:=by rw[List.length_take];omega
 by_cases h1:k<i;·rw[if_pos h1,List.getElem?_append_left (by omega),List.getElem?_take,if_pos h1]
 ·rw[if_neg h1,List.getElem?_append_right (by omega),hl];by_cases c:k=i;·rw[if_pos c,c,Nat.sub_self];rfl
  ·rw[if_neg c,show k-i=(k-i-1)+1 by omega,Zd,List.getElem?_drop,show i+(k-i-1)=k-1 by omega]
theorem Qou{cap i:Nat}{l:List Int}{c:Array Value}(x:Int)(hi:i<l.length)(I:Qh w g c 3)(hs:c.size=cap)(hn:l.length+1≤cap)(J:cap≤maxLen)(hc:∀(k:Nat)(y:Int),l[k]? =some y→c[k]? =some (.int .i64 y)):
  Q6 ((w.setCells g (i+1) ((l.drop i).map fun y=>.int .i64 y)).setCells g i [.int .i64 x]) (.slice (some ⟨g,0,none⟩) (l.length+1) cap) (l.take i++x::l.drop i)∧Qc (fun k=>k=g) w ((w.setCells g (i+1) ((l.drop i).map fun y=>.int .i64 y)).setCells g i [.int .i64 x]):=by
 obtain⟨B,b1,s1,k1,h1⟩:=Vc ((l.drop i).map fun y=>Value.int .i64 y) (i+1) w c I (by simp;omega);obtain⟨K,b2,s2,k2,E⟩:=Vc [Value.int .i64 x] i _ B b1 (by simp;omega);have q:(l.take i++x::l.drop i).length=l.length+1:=by simp;omega
 have:=Q6.mk (l:=l.take i++x::l.drop i) b2 (cap:=cap) (by omega) (by omega) J (fun k y d=>by
  rw[Qm9 l x (by omega)]at d;rw[k2];simp only[Zm,List.length_nil,List.length_map,List.length_drop]at k1⊢;by_cases u:k=i;·rw[if_neg (by omega),if_pos u]at d;obtain rfl:=Zs d;rw[if_pos (by omega),u,Nat.sub_self];rfl
  ·rw[if_neg (by omega),k1];by_cases z:k<i;·rw[if_pos z]at d;rw[if_neg (by omega)];exact hc k y d
   ·rw[if_neg z,if_neg u]at d;have:=(Z1.1 d).1;rw[if_pos (by omega),List.getElem?_map,List.getElem?_drop,show i+(k-(i+1))=k-1 by omega,d];rfl)
 rw[q]at this;exact⟨this,h1.aA E⟩
theorem Qtr{cap i r:Nat}{l:List Int}{c:Array Value}(x:Int)(hi:i<l.length)(I:Qh w r c 3)(hs:c.size=cap)(hn:l.length+1≤cap)(J:cap≤maxLen)(hc:∀(k:Nat)(y:Int),k<i→l[k]? =some y→c[k]? =some (.int .i64 y)):
  Q6 ((w.setCells r i [.int .i64 x]).setCells r (i+1) ((l.drop i).map fun y=>.int .i64 y)) (.slice (some ⟨r,0,none⟩) (l.length+1) cap) (l.take i++x::l.drop i)∧Qc (fun k=>k=r) w ((w.setCells r i [.int .i64 x]).setCells r (i+1) ((l.drop i).map fun y=>.int .i64 y)):=by
 obtain⟨B,b1,s1,k1,h1⟩:=Vc [Value.int .i64 x] i w c I (by simp;omega);obtain⟨K,b2,s2,k2,E⟩:=Vc ((l.drop i).map fun y=>Value.int .i64 y) (i+1) _ B b1 (by simp;omega);have q:(l.take i++x::l.drop i).length=l.length+1:=by simp;omega
 have:=Q6.mk (l:=l.take i++x::l.drop i) b2 (cap:=cap) (by omega) (by omega) J (fun k y d=>by
  rw[Qm9 l x (by omega)]at d;rw[k2];simp only[Zm,List.length_nil,List.length_map,List.length_drop]at k1⊢;by_cases z:k<i;·rw[if_pos z]at d;rw[if_neg (by omega),k1,if_neg (by omega)];exact hc k y z d
  ·rw[if_neg z]at d;by_cases u:k=i;·rw[if_pos u]at d;obtain rfl:=Zs d;rw[if_neg (by omega),k1,if_pos (by omega),u,Nat.sub_self];rfl
   ·rw[if_neg u]at d;have:=(Z1.1 d).1;rw[if_pos (by omega),List.getElem?_map,List.getElem?_drop,show i+(k-(i+1))=k-1 by omega,d];rfl)
 rw[q]at this;exact⟨this,h1.aA E⟩
end
end
section
open Go.Shelf
def Tryz.lays189_ren:Go.Shelf.Ren:=⟨fun|189=>36|125=>83|257=>82|128=>152|129=>153|294=>143|295=>144|296=>145|297=>146|298=>147|299=>148|216=>149|300=>150|301=>151|328=>202|329=>203|330=>204|331=>205|332=>206|215=>207|343=>226|n=>n,fun|28=>46|3=>3|46=>129|0=>0|51=>193|53=>29|4=>4|183=>186|182=>185|131=>98|5=>5|9=>9|218=>247|222=>250|228=>283|229=>35|n=>n,fun|n=>n⟩
theorem Tryz.lays189:Go.Proofs.Lays.n189 prog Tryz.lays189_ren:={
 mixed:=by kernel_rfl
 f125:=func83.trans (congrArg some (by kernel_rfl))
 f128:=func152.trans (congrArg some (by kernel_rfl))
 f129:=func153.trans (congrArg some (by kernel_rfl))
 f189:=func36.trans (congrArg some (by kernel_rfl))
 f215:=func207.trans (congrArg some (by kernel_rfl))
 f216:=func149.trans (congrArg some (by kernel_rfl))
 f257:=func82.trans (congrArg some (by kernel_rfl))
 f294:=func143.trans (congrArg some (by kernel_rfl))
 f295:=func144.trans (congrArg some (by kernel_rfl))
 f296:=func145.trans (congrArg some (by kernel_rfl))
 f297:=func146.trans (congrArg some (by kernel_rfl))
 f298:=func147.trans (congrArg some (by kernel_rfl))
 f299:=func148.trans (congrArg some (by kernel_rfl))
 f300:=func150.trans (congrArg some (by kernel_rfl))
 f301:=func151.trans (congrArg some (by kernel_rfl))
 f328:=func202.trans (congrArg some (by kernel_rfl))
 f329:=func203.trans (congrArg some (by kernel_rfl))
 f330:=func204.trans (congrArg some (by kernel_rfl))
 f331:=func205.trans (congrArg some (by kernel_rfl))
 f332:=func206.trans (congrArg some (by kernel_rfl))
 f343:=func226.trans (congrArg some (by kernel_rfl))
 t0:=underlying0
 a0:=Tryz.isAgg0
 z0:=Tryz.sizeOf0
 v0:=Tryz.zeroValue0
 t3:=underlying3
 a3:=Tryz.isAgg3
 z3:=Tryz.sizeOf3
 v3:=Tryz.zeroValue3
 t4:=underlying4
 a4:=Tryz.isAgg4
 z4:=Tryz.sizeOf4
 v4:=Tryz.zeroValue4
 t5:=underlying5
 a5:=Tryz.isAgg5
 z5:=Tryz.sizeOf5
 v5:=Tryz.zeroValue5
 t9:=underlying9
 a9:=Tryz.isAgg9
 z9:=Tryz.sizeOf9
 v9:=Tryz.zeroValue9
 t28:=underlying46
 a28:=Tryz.isAgg46
 z28:=Tryz.sizeOf46
 v28:=Tryz.zeroValue46
 t46:=underlying129
 a46:=Tryz.isAgg129
 z46:=Tryz.sizeOf129
 v46:=Tryz.zeroValue129
 t51:=underlying193
 a51:=Tryz.isAgg193
 z51:=Tryz.sizeOf193
 v51:=Tryz.zeroValue193
 t53:=underlying29
 a53:=Tryz.isAgg29
 z53:=Tryz.sizeOf29
 v53:=Tryz.zeroValue29
 t131:=underlying98
 a131:=Tryz.isAgg98
 z131:=Tryz.sizeOf98
 v131:=Tryz.zeroValue98
 t182:=underlying185
 a182:=Tryz.isAgg185
 z182:=Tryz.sizeOf185
 v182:=Tryz.zeroValue185
 t183:=underlying186
 a183:=Tryz.isAgg186
 z183:=Tryz.sizeOf186
 v183:=Tryz.zeroValue186
 t218:=underlying247
 a218:=Tryz.isAgg247
 z218:=Tryz.sizeOf247
 v218:=Tryz.zeroValue247
 t222:=underlying250
 a222:=Tryz.isAgg250
 z222:=Tryz.sizeOf250
 v222:=Tryz.zeroValue250
 t228:=underlying283
 a228:=Tryz.isAgg283
 z228:=Tryz.sizeOf283
 v228:=Tryz.zeroValue283
 t229:=underlying35
 a229:=Tryz.isAgg35
 z229:=Tryz.sizeOf35
 v229:=Tryz.zeroValue35}
open Go.Sort Go.RowKit in
theorem Tryz.slices_Sort_int(blk off cap:Nat)(zs:List Int)(w:World)(hH:Holds (Value.int .i64) w blk off zs.toArray)(hblk:blk<w.heap.size)(hsz:zs.length<4611686018427387904):
  Cl 36 #[.slice (some ⟨blk,off,none⟩) zs.length cap] w fun e w'=>
   e=.returned (.tuple #[])∧∃n os,w'=grow (putRow (Value.int .i64) (Sort.ahead w n) blk off (zs.mergeSort fun x y=>decide (x≤y)).toArray) os:=Any.slices_Sort_int Tryz.lays189 blk off cap zs w hH hblk hsz
open Go.RowKit Go.Sort in
theorem Tryz.slices_Sort_int_none(p:Option Addr)(cap:Nat)(w:World):
  Cl 36 #[.slice p 0 cap] w fun e w'=>e=.returned (.tuple #[])∧w'=w:=Any.slices_Sort_int_none Tryz.lays189 p cap w
end
section
attribute [local go_sem] Qp
attribute [local irreducible] Kl J9 Xo
section
variable{w:World}{g:Nat}
theorem Qt6{cap:Nat}{d:List Int}{q:Array Value}{t:TypeId}(B:Qh w g q t)(hs:q.size=cap)(J:d.length≤cap)(n:Nat)(os:Array Obj):
  ∃c,Qh (Sort.grow (Sort.putRow (Value.int .i64) (Sort.ahead w n) g 0 d.toArray) os) g c t∧c.size=cap∧(∀(k:Nat)(y:Int),d[k]? =some y→c[k]? =some (.int .i64 y))∧Qc (fun k=>k=g) w (Sort.grow (Sort.putRow (Value.int .i64) (Sort.ahead w n) g 0 d.toArray) os):=by
 have Xg:=B.lt;have I:∀k,k<w.heap.size→(Sort.grow (Sort.putRow (Value.int .i64) (Sort.ahead w n) g 0 d.toArray) os).heap[k]? =if g=k then(w.heap[k]?).map (Sort.onCells (Sort.putCells (Value.int .i64) 0 d.toArray))else w.heap[k]? :=fun k u=>by show(w.heap.modify g _++os)[k]? =_;rw[Array.getElem?_append_left (by simpa using u),Array.getElem?_modify]
 refine⟨Sort.putCells (Value.int .i64) 0 d.toArray q,?_,?_,fun k y u=>?_,rfl,rfl,rfl,?_,fun k u E=>?_⟩;·unfold Qh at B⊢;rw[I g Xg,if_pos rfl,B];rfl
 ·unfold Sort.putCells;simpa using hs
 ·have z:k<d.length:=(Z1.1 u).1;unfold Sort.putCells;rw[Array.getElem?_mapIdx,Array.getElem?_eq_getElem (by omega)];simp only[Zn];rw[if_pos ⟨by omega,by simpa using z⟩];simp only[Nat.sub_zero];have:d.toArray[k]! =y:=by rw[getElem!_pos _ k (by simpa using z)];have:=(Z1.1 u).2;simpa using this
  rw[this]
 ·show w.heap.size≤(w.heap.modify g _++os).size;simp
 ·rw[I k u,if_neg (fun e=>E e.symm)]
theorem N7{v:Value}{l:List Int}(u:Q6 w v l)(hl:l.length<4611686018427387904):
  Cl 36 #[v] w fun e w'=>e=.returned (.tuple #[])∧Q6 w' v (l.mergeSort fun x y=>decide (x≤y))∧Qc (fun k=>v.ownBlock=some k) w w':=by
 by_cases h0:l=[]
 ·subst h0;obtain⟨a,cap,rfl,_⟩:=u.row intT.hc;refine Zz (Tryz.slices_Sort_int_none a cap w) ?_;rintro w' rfl;refine⟨rfl,?_,Zg _ _⟩;have:([]:List Int).mergeSort (fun x y=>decide (x≤y))=[]:=by simp
  rw[this];exact u
 ·obtain⟨g,cap,K,rfl,q,hs,hc,hn,U⟩:=u.opn h0;have R:Sort.Holds (Value.int .i64) w g 0 l.toArray:=fun j E=>by
   have z:j<l.length:=by simpa using E
   refine⟨?_,q.frozen _⟩;rw[Nat.zero_add,q.cell,hc j _ (List.getElem?_eq_getElem z)];congr 2;rw[getElem!_pos _ j E];simp
  refine Zz (Tryz.slices_Sort_int g 0 cap l w R q.lt hl) ?_;rintro w'⟨n,os,rfl⟩;have c:(l.mergeSort fun x y=>decide (x≤y)).length=l.length:=List.length_mergeSort _;obtain⟨B,b1,b2,I,J⟩:=Qt6 (d:=l.mergeSort fun x y=>decide (x≤y)) q hs (by omega) n os;refine⟨rfl,?_,J.mono fun k e=>.inl (by rw[e];rfl)⟩;have:=Q6.mk b1 b2 (by omega) U I;rw[c]at this;exact this
end
section
variable{h:Qm}
theorem Db(h:Qm)(i:Int):(h.aI i).length≤h.length:=by unfold Qm.aI;rw[List.length_map];exact List.length_filter_le _ _
theorem Qm7(h:Qm)(l:List Int):(l.flatMap h.aI).length≤l.length*h.length:=by
 induction l with
 |nil=>simp
 |cons x l c=> rw[List.flatMap_cons,List.length_append,Zm,Nat.add_mul];have:=Db h x;omega
theorem Ec(h:Qm){i:Int}{c:Vm}(hc:h.at i=some c):h.get i=c:=by unfold Qm.get;rw[hc];rfl
theorem Ot(ok:J8 h):∀(n:Nat){w}{F:Fp}{b:Nat}(hh:Q9 w F b h)(id:Int),9≤Xk h id+n→
  Cl 14 #[ptr b,.int .i64 id] w fun e w'=>∃v,e=.returned v∧Q6 w' v (h.aI id)∧(∀k,v.ownBlock=some k→w.heap.size≤k)∧Qc Qb w w'
 |0,w,F,b,hh,id,hd=>by
  exfalso;cases hc:h.at id with
  |none=>rw[Kr hc]at hd;omega
  |some c=>have:=Nl ok hc;omega
 |n+1,w,F,b,hh,id,hd=>by
  have IH:=O (fun(w)(F:Fp)(b:Nat)(hh:Q9 w F b h)(id:Int)(hd:9≤Xk h id+n)=>Ot ok n hh id hd);have J:=O (fun w'(c:Qc Qb w w')=>Q9.obj.aB hh c (Jl.none F));have HG:=O (Ob hh id);have K:=ok.many;have V:=O (show∀i,(h.aM i).length≤64 from fun i=>by
   have:(h.aM i).length≤h.length:=by unfold Qm.aM;rw[List.length_map];exact List.length_filter_le _ _
   omega)
  have ST:Hi (∀w1,Qc Qb w w1→∃d,Qc Qb w d∧w1.heap.size<d.heap.size∧d.cell? ⟨w1.heap.size,2,none⟩=some (.bool (h.get id).sp.leaf)∧
    (storeCells ⟨w1.heap.size,0,none⟩ (Es (h.get id).sp).toList 0).run prog (w1.alloc (.cells Z5 40))=.ok () d):=O (by
   intro w1 c1;obtain⟨d,s2,ak,C2⟩:=Q0 (P:=prog) (vs:=Es (h.get id).sp) (Qh.new w1 Z5 40) rfl (Hl _);have s1:=c1.size;refine⟨d,c1.aA (((Zg Qb w1).alloc _).trans C2 fun k e=>.inr (by omega)),ak.lt,?_,?_⟩;·rw[ak.cell];rfl
   ·exact s2)
  by_cases B:∃c,h.at id=some c∧c.sp.leaf=true
  ·obtain⟨c,hc,Z⟩:=B;have a0:(h.get id).sp.leaf=true:=by rw[Ec h hc];exact Z
   have R:(h.at id).isSome=true:=by rw[hc];rfl
   have LV:=O (Rf ok hc Z);have E:Hi (∀d,Qc Qb w d→Q6 (d.alloc (.cells #[.int .i64 id] 3)) (.slice (some ⟨d.heap.size,0,none⟩) 1 1) (h.aI id)∧(∀k,(Value.slice (some ⟨d.heap.size,0,none⟩) 1 1).ownBlock=some k→w.heap.size≤k)∧Qc Qb w (d.alloc (.cells #[.int .i64 id] 3))):=O (by
    intro d c2;rw[LV.o];refine⟨Q6.mk (l:=[id]) (Qh.new d #[.int .i64 id] 3) rfl (Zv _) (by decide) (fun k y hk=>?_),fun k hk=>?_,c2.alloc _⟩
    ·cases k with
     |zero=>obtain rfl:=Zs hk;rfl
     |succ k=>cases hk
    ·have e:d.heap.size=k:=Zs hk;have:=c2.size;omega)
   rw[R]at HG;unfold ptr at*;clear IH J hc Z hd R hh;go_enter func14,ntmps14;go_wp2_with fail;refine Zy HG ?_;intro w1 c1;obtain⟨d,C2,Xg,z,ba⟩:=ST.o w1 c1;rw[a0]at z;have FF:=O (E.o d C2);clear c1 C2 Xg ST E;go_wp2_with fail;go_ret;exact⟨_,rfl,FF.o⟩
  ·have hl:∀c,h.at id=some c→c.sp.leaf=false:=fun c hc=>by
    cases e:c.sp.leaf with
    |false=>rfl
    |true=>exact absurd ⟨c,hc,e⟩ B
   have LS:=O (Qhp ok hl);have u:((h.at id).isSome&&(h.get id).sp.leaf)=false:=by
    cases hc:h.at id with
    |none=>rfl
    |some c=>rw[Ec h hc,hl c hc];rfl
   have CH:Hi (∀x∈h.aM id,9≤Xk h x+n):=O (fun x hx=>by
    obtain⟨c,hc,rfl,hp⟩:=Dv.1 hx;rcases Oq ok (Da ok.sorted hc)with⟨e1,e2⟩|⟨q,hq,_,e2⟩;·have:Xk h id=0:=Kr (ok.zero (by omega));omega
    ·rw[hp]at e2;omega)
   have HU:=O (fun w'(c:Qc Qb w w')=>P8 (J.o w' c) id (by have:=V.o id;omega));have I:=O K;generalize a7:(h.at id).isSome=ah at HG u;unfold ptr at*;clear hd B hl hh K a7;go_enter func14,ntmps14;go_wp2_with fail;refine Zy HG ?_;intro w1 c1;obtain⟨d,C2,Xg,z,ba⟩:=ST.o w1 c1;have ai:=O C2;generalize a1:(h.get id).sp.leaf=lf at z u;clear c1 C2 Xg ST;have a8:ah=false∨(ah=true∧lf=false):=by
    cases ah with
    |false=>exact .inl rfl
    |true=>exact .inr ⟨rfl,by simpa using u⟩
   clear u a1;rcases a8 with rfl|⟨rfl,rfl⟩;all_goals
    go_wp2_with fail;refine(HU.o d ai.o).mono ?_;rintro e w3⟨uv,rfl,hI,ao,c3⟩;obtain⟨a,cap,rfl,am,_,_⟩:=hI.row intT.hc;have HI:=O hI;have C3:=O (ai.o.aA c3);obtain⟨n0,ag⟩:=Zx ((h.aM id).length);have af:=O ag;rw[←ag]at am⊢;clear hI ao c3 ag;go_wp2_with fail;go_loopw [7,9,27] (fun tv _ ti wr=>∃(k:Nat),ti=.int .i64 k∧k≤n0∧Q6 wr tv (((h.aM id).take k).flatMap h.aI)∧(∀j,tv.ownBlock=some j→w3.heap.size≤j)∧Qc Qb w3 wr) (fun _ _ ti _=>n0-(intOf ti).toNat);case atStart=>exact⟨0,rfl,Nat.zero_le _,Q6.nil _,nofun,Zg _ _⟩
    case round=>
     obtain⟨k,rfl,hk,hA,hO,hc⟩:=hrel;have HA:=O hA;have HO:=O hO;have HC:=O hc;clear hA hO hc;by_cases bg:k<n0
     ·have hd:decide ((k:Int)<(n0:Int))=true:=by simp;omega
      have aa:k<(h.aM id).length:=by have:=af.o;omega
      have an:h.aM id≠[]:=fun e=>by rw[e]at aa;simp at aa
      obtain⟨g,bd,be,a9,hB,bb,ab,_,_⟩:=HI.o.opn an;injection a9 with h1 h2 h3;subst h1;obtain⟨x,hx⟩:∃x,(h.aM id)[k]? =some x:=⟨_,List.getElem?_eq_getElem aa⟩;have Z:wr.cell? ⟨g,k,none⟩=some (.int .i64 x):=by rw[(HC.o.blk hB (fun h=>h)).cell];exact ab k x hx
      have av:x∈h.aM id:=List.mem_of_getElem? hx;have HL:=O (IH.o wr F b (J.o wr (C3.o.aA HC.o)) x (CH.o x av));have bf:IntKind.i64.wrap ((k:Int)+1)=(k:Int)+1:=by have h4:=V.o id;have h5:=af.o;rw[IntWalk.i64_in _ (by omega)]
      have TK:=O (show(h.aM id).take (k+1)=(h.aM id).take k++[x] by rw[List.take_add_one,hx];rfl);have LN:=O (show(((h.aM id).take k).flatMap h.aI).length+(h.aI x).length≤4096+64 from by
       have h1:=Qm7 h ((h.aM id).take k);have h2:=Db h x;have h3:=I.o;have h4:=V.o id;have h5:((h.aM id).take k).length≤64:=by rw[List.length_take];omega
       have h6:((h.aM id).take k).length*h.length≤64*64:=Nat.mul_le_mul h5 h3;omega)
      unfold ptr at*;clear aa an hB bb ab hx av h2 h3;go_wp2_with fail;refine Zo HL ?_;rintro e w4⟨vx,rfl,au,bc,c4⟩;obtain⟨ax,cx,rfl,_,aj,ap⟩:=au.row intT.hc;have ay:=O ap;have C4:=O c4;have aw:=O aj;clear au bc c4 ap aj HL;go_wp2_with (at_builtin;refine Jj intT rfl (.tmp 31) (.tmp 34) rfl _ (((h.aM id).take k).flatMap h.aI) rfl (Q6.aB HA.o C4.o (fun _ _ h=>h)) _ _ (h.aI x) rfl ?a2 ?a3 ?a4 ?a5 ?a6);case a2=>exact aw.o
      case a3=>exact ay.o
      case a4=>have:=LN.o;simp only[maxLen];omega
      case a5=>have:=LN.o;omega
      case a6=>
       intro v' w5 ae al ar;have C5:Hi (Qc Qb w3 w5):=O ((HC.o.aA C4.o).trans al (fun j U=>.inr (HO.o j U)));have O5:Hi (∀j,v'.ownBlock=some j→w3.heap.size≤j):=O (fun j U=>by
        rcases ar with e|e;·rw[e]at U;exact HO.o j U
        ·rw[e]at U;have e2:w4.heap.size=j:=Zs U;have:=HC.o.size;have:=C4.o.size;omega)
       have az:=O ae;clear ae al ar;go_wp2;go_roundw;case measure=>simp only[intOf];omega
       case rel=> refine⟨k+1,by rw[←Int.natCast_one,←Int.natCast_add],by omega,?_,O5.o,C5.o⟩;have:=az.o;rw[TK.o,List.flatMap_append];simpa using this
     ·have hd:decide ((k:Int)<(n0:Int))=false:=by simp;omega
      have ac:k=(h.aM id).length:=by have:=af.o;omega
      have HS:=O (N7 HA.o (by
       have h1:=Qm7 h ((h.aM id).take k);have h3:=I.o;have h4:=V.o id;have h5:((h.aM id).take k).length≤64:=by rw[List.length_take];omega
       have h6:((h.aM id).take k).length*h.length≤64*64:=Nat.mul_le_mul h5 h3;omega))
      have TK:=O (show(h.aM id).take k=h.aM id by rw[ac,List.take_length]);clear ac;go_wp2_with fail;refine Zy HS ?_;rintro w4⟨aq,c4⟩;have E:=O (Zt aq c4);clear aq c4 HS;go_wp2;go_ret;refine⟨_,rfl,?_,?_,?_⟩;·have:=E.o.1;rw[TK.o,LS.o]at this;exact this
      ·intro j U;have:=HO.o j U;have:=C3.o.size;omega
      ·exact C3.o.aA (HC.o.trans E.o.2 fun j U=>.inr (HO.o j U))
end
theorem Qjd{f:Int→Int}{l:List Int}{k:Nat}{x:Int}(c:l[k]? =some x):((l.take (k+1)).map f).sum=((l.take k).map f).sum+f x:=by rw[List.take_add_one,c];simp
theorem Qmn{f:Int→Int}{B:Int}:∀{l:List Int},(∀x∈l,0≤f x∧f x≤B)→0≤(l.map f).sum∧(l.map f).sum≤l.length*B
 |[],_=>by simp
 |x::l,h=>by
  have h1:=h x (by simp);have d:=Qmn (l:=l) (fun y c=>h y (by simp[c]));rw[List.map_cons,List.sum_cons,Zm];have:((l.length+1:Nat):Int)*B=(l.length:Int)*B+B:=by rw[Int.natCast_add,Int.add_mul];simp
  omega
section
variable{A:Tb}{w:World}{F:Fp}{b:Nat}{s:Qf}{N:Nat}
theorem Qi.leafQ(h:Qi A w F b s){i:Int}{l:Qw}(hl:s.leaf i=some l):∃qb dv,Qh w (A.ad i) #[ptr qb,dv] 85∧(∃r,Jz w qb r l.pk l.bt l.q)∧∃G,Kv w G dv l.debt:=by obtain⟨G,h1,_⟩:=h.leafOf hl;exact h1.cells
theorem Qi.bounds(h:Qi A w F b s)(i:Int):(0≤((s.qOf i).length:Int)∧((s.qOf i).length:Int)≤4096)∧0≤Jn (s.qOf i)∧Jn (s.qOf i)≤16777216:=by
 cases hl:s.leaf i with
 |none=>rw[Qbc hl];exact⟨⟨by simp,by simp⟩,by simp[Jn],by simp[Jn]⟩
 |some l=> rw[Ov hl];obtain⟨qb,dv,_,⟨r,c⟩,_⟩:=h.leafQ hl;have h1:=c.many;have k:=c.pk2;have q:=c.held;have u:=c.bt2;have d:=Hd _ c.good;exact⟨⟨by omega,by omega⟩,d,by omega⟩
theorem Dn(h:Qi A w F b s)(ok:Xp N s)(id:Int):Cl 11 #[ptr b,.int .i64 id] w fun e w'=>e=.returned (.tuple #[.int .i64 (s.many id),.int .i64 (s.bytes id)])∧Qc Qb w w':=by
 have J:=O (fun w'(c:Qc Qb w w')=>(Qi.obj A).aB h c (Jl.none F));have HN:=O (Ku h ok.most.1);obtain⟨a0,a1,a2,a3,a4⟩:=Ym h.blk;obtain⟨Gt,ht,_⟩:=h.treeOf;have af:=O (Ot ok.tree 9 ht id (by omega));have BD:=O h.bounds;have K:=O (show(s.tree.aI id).length≤64 from Zp (Db _ _) ok.tree.many);have LF:Hi (∀x∈s.tree.aI id,∃l,s.leaf x=some l):=O (fun x I=>by
  obtain⟨c,hc,rfl,aa,_⟩:=Y8.1 I;exact ok.lv _ c (Da ok.tree.sorted hc) aa)
 unfold Qf.many Qf.bytes;unfold ptr at*;clear h ok ht;go_enter func11,ntmps11;go_wp2_with fail;refine Zy HN ?_;rintro w1 rfl;go_wp2_with fail;refine Zo af ?_;rintro e w2⟨uv,rfl,hI,_,c2⟩;obtain⟨a,cap,rfl,Z,_,_⟩:=hI.row intT.hc;have HI:=O hI;have C2:=O c2;obtain⟨n0,E⟩:=Zx ((s.tree.aI id).length);have z:=O E;rw[←E]at Z⊢;clear hI c2 E a0 a1 a2 a3 a4;go_wp2_with fail;go_loopw [4,5,7,17] (fun t4 t5 _ ti wr=>∃(k:Nat),ti=.int .i64 k∧k≤n0∧t4=.int .i64 ((((s.tree.aI id).take k).map fun x=>((s.qOf x).length:Int)).sum)∧t5=.int .i64 ((((s.tree.aI id).take k).map fun x=>Jn (s.qOf x)).sum)∧Qc Qb w2 wr) (fun _ _ _ ti _=>n0-(intOf ti).toNat);case atStart=>exact⟨0,rfl,Nat.zero_le _,rfl,rfl,Zg _ _⟩
 case round=>
  obtain⟨k,rfl,hk,rfl,rfl,hc⟩:=hrel;have HC:=O hc;clear hc;by_cases aq:k<n0
  ·have hd:decide ((k:Int)<(n0:Int))=true:=by simp;omega
   have d:k<(s.tree.aI id).length:=by have:=z.o;omega
   have ab:s.tree.aI id≠[]:=fun e=>by rw[e]at d;simp at d
   obtain⟨g,al,am,aj,hB,ak,q,_,_⟩:=HI.o.opn ab;injection aj with h1 h2 h3;subst h1;obtain⟨x,I⟩:∃x,(s.tree.aI id)[k]? =some x:=⟨_,List.getElem?_eq_getElem d⟩;have aa:wr.cell? ⟨g,k,none⟩=some (.int .i64 x):=by rw[(HC.o.blk hB (fun h=>h)).cell];exact q k x I
   have ac:x∈s.tree.aI id:=List.mem_of_getElem? I;obtain⟨l,hl⟩:=LF.o x ac;have hS:=J.o wr (C2.o.aA HC.o);obtain⟨b0,b1,b2,b3,b4⟩:=Ym hS.blk;have ai:=hS.look1 x;rw[G7 hl]at ai;obtain⟨qb,dv,V,⟨r,hq⟩,_⟩:=hS.leafQ hl;obtain⟨l0,l1⟩:=Q4 V;have QL:=O (Qin hq);have QB:=O (Qls hq);have ap:IntKind.i64.wrap ((k:Int)+1)=(k:Int)+1:=by have h4:=K.o;have h5:=z.o;rw[IntWalk.i64_in _ (by omega)]
   have T1:=O (Qjd (f:=fun x=>((s.qOf x).length:Int)) I);have T2:=O (Qjd (f:=fun x=>Jn (s.qOf x)) I);have QO:=O (Ov hl);have R:=Qmn (f:=fun x=>((s.qOf x).length:Int)) (B:=4096) (l:=(s.tree.aI id).take k) (fun x _=>(BD.o x).1);have U:=Qmn (f:=fun x=>Jn (s.qOf x)) (B:=16777216) (l:=(s.tree.aI id).take k) (fun x _=>(BD.o x).2);have tl:((s.tree.aI id).take k).length≤64:=by have:=K.o;rw[List.length_take];omega
   have bx:=BD.o x;rw[QO.o]at bx;generalize ag:(((s.tree.aI id).take k).map fun x=>((s.qOf x).length:Int)).sum=P1 at*;generalize ah:(((s.tree.aI id).take k).map fun x=>Jn (s.qOf x)).sum=P2 at*;have an:IntKind.i64.wrap (P1+(l.q.length:Int))=P1+(l.q.length:Int):=by rw[IntWalk.i64_in _ (by omega)]
   have ao:IntKind.i64.wrap (P2+Jn l.q)=P2+Jn l.q:=by rw[IntWalk.i64_in _ (by omega)]
   unfold ptr at*;clear d ab hB ak q I ac h2 h3 hl hS V hq R U tl bx ag ah;go_wp2_with fail;refine Zy QL ?_;rintro w4 rfl;go_wp2_with fail;refine Zy QB ?_;rintro w4 rfl;go_wp2_with fail;go_roundw;case measure=>simp only[intOf];omega
   case rel=>
    refine⟨k+1,by rw[←Int.natCast_one,←Int.natCast_add],by omega,?_,?_,HC.o⟩;·have:=T1.o;rw[QO.o]at this;rw[this]
    ·have:=T2.o;rw[QO.o]at this;rw[this]
  ·have hd:decide ((k:Int)<(n0:Int))=false:=by simp;omega
   have u:k=(s.tree.aI id).length:=by have:=z.o;omega
   have TK:=O (show(s.tree.aI id).take k=s.tree.aI id by rw[u,List.take_length]);have ae:=O (C2.o.aA HC.o);rw[TK.o];clear u;go_wp2;go_ret2;exact⟨rfl,ae.o⟩
end
end
end Go.Proofs.YtnnhmpehkbihnaaGreat
