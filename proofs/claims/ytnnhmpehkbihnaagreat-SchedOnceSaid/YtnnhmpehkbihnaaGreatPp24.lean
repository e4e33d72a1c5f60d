/- A part of the proof: no condition. -/
import Derived.Test.YtnnhmpehkbihnaaGreatPp23
import Derived.Lib.AppendZerosOnto
import Derived.Lib.Overlaps
import Derived.Shelf.Sort.Plain
import Derived.Shelf.Slices.In.SortNone
import Derived.Test.YtnnhmpehkbihnaaGreatProg
namespace Go.Proofs.YtnnhmpehkbihnaaGreat
set_option linter.unusedVariables false
set_option maxRecDepth 100000
set_option maxHeartbeats 4000000
open Go.RowKit
open Go.Proofs.Tryz
theorem Qll{L:List Z4}{f:Nat}{l:List Z4}(h:Ud L f l)(p:Z4)(hl:l.length<L.length):Ud (L.set ((f+l.length)%L.length) p) f (l++[p]):=by
 intro i hi;have q:0<L.length:=by omega
 rw[List.length_set];by_cases k:i=l.length;·subst k;rw[List.getElem?_set_self (Nat.mod_lt _ q)];simp
 ·have c:i<l.length:=by simp at hi;omega
  rw[List.getElem?_append_left c,List.getElem?_set_ne,h i c];intro u;have h1:=Nat.div_add_mod (f+l.length) L.length;have B:=Nat.div_add_mod (f+i) L.length;rw[u]at h1;have E:L.length*((f+l.length)/L.length)=L.length*((f+i)/L.length)+(l.length-i):=by omega
  have z:L.length*((f+l.length)/L.length-(f+i)/L.length)=l.length-i:=by rw[Nat.mul_sub];omega
  rcases Nat.eq_zero_or_pos ((f+l.length)/L.length-(f+i)/L.length)with d|d;·rw[d]at z;omega
  ·have:L.length*1≤L.length*((f+l.length)/L.length-(f+i)/L.length):=Nat.mul_le_mul_left _ d;omega
theorem Qjz{w:World}{r:Nat}{L:List Z4}{t:TypeId}(h:RowBlk Z4.cells w r L t)(i:Nat)(hi:i<L.length)(p:Z4):
  RowBlk Z4.cells ((((w.setCell ⟨r,i*4,none⟩ (.int .u64 p.id)).setCell ⟨r,i*4+1,none⟩ (.int .i64 p.cls)).setCell ⟨r,i*4+2,none⟩ (.int .i64 p.len)).setCell ⟨r,i*4+3,none⟩ (.int .u64 p.at_)) r (L.set i p) t:=
 RowBlk.store Z4.cells_length h i hi p
theorem Qok{W:World}{b r pk bt:Nat}{l:List Z4}{L:List Z4}{f:Nat}{p:Z4}(ne:b≠r)(p1:1≤pk)(I:pk≤4096)(b1:1≤bt)(b2:bt≤16777216)(E:∀q∈l,Uc q)
  (hf:f<L.length)(hl:l.length<L.length)(k:L.length≤8192)(hr:Ud L f l)(K:l.length<pk)(J:1≤p.len)(d:p.len≤65535)(hs:p.len≤bt-Q0 l)
  (cs:Array Value)(c:cs=#[.int .i64 (pk:Int),.int .i64 (bt:Int),.slice (some ⟨r,0,none⟩) L.length L.length,.int .i64 (f:Int),.int .i64 ((l.length:Int)+1),.int .i64 (Q0 l+p.len)])
  (B:Qh W b cs 123) (R:RowBlk Z4.cells W r (L.set ((f+l.length)%L.length) p) 34):Jg W b r pk bt (l++[p]):=by
 have e1:Q0 (l++[p])=Q0 l+p.len:=by rw[Do];simp[Q0]
 have u:(((l++[p]).length:Nat):Int)=(l.length:Int)+1:=by simp
 subst c;refine⟨ne,p1,I,b1,b2,by simp;omega,by rw[e1];omega,?_,_,f,?_,R,by simpa using hf,by simp;omega,by simpa using k,Qll hr p hl⟩
 ·intro q z;rcases List.mem_append.1 z with h|h;·exact E q h
  ·have:q=p:=by simpa using h
   subst this;exact⟨J,d⟩
 ·rw[e1,u,List.length_set];exact B
theorem Qrd{w:World}{b r pk bt:Nat}{l:List Z4}{L:List Z4}{f:Nat}(p:Z4)(ne:b≠r)(p1:1≤pk)(p2:pk≤4096)(b1:1≤bt)(b2:bt≤16777216)(hg:∀q∈l,Uc q)
  (hf:f<L.length)(hl:l.length<L.length)(hL:L.length≤8192)(hr:Ud L f l)(hm:l.length<pk)(hp:1≤p.len)(ae:p.len≤65535)(hs:p.len≤bt-Q0 l)
  (q1:Qh w b #[.int .i64 (pk:Int),.int .i64 (bt:Int),.slice (some ⟨r,0,none⟩) L.length L.length,.int .i64 (f:Int),.int .i64 (l.length:Int),.int .i64 (Q0 l)] 123)
  (q2:RowBlk Z4.cells w r L 34):
  Cl 73 #[.pointer (some ⟨b,0,none⟩),.agg #[.int .u64 p.id,.int .i64 p.cls,.int .i64 p.len,.int .u64 p.at_]] w fun e w'=>e=.returned (.int .i64 0)∧Jg w' b r pk bt (l++[p])∧Qc (fun k=>k=b∨k=r) w w':=by
 have U:Qdt p 65535=0:=by unfold Qdt;rw[if_neg (by omega),if_neg (by omega)]
 have ab:=O (fun W cs aa B R=>Qok (W:=W) (p:=p) ne p1 p2 b1 b2 hg hf hl hL hr hm hp ae hs cs aa B R);have s0:=Ku l hg;have hb:=q1.lt;have ag:=q2.lt;have c0:=q1.cell 0;simp at c0;have N:=O (fun o=>Vg b pk (w.alloc o) (by rw[World.cell?_alloc_past _ _ _ hb];exact c0) (by omega));have M:=O (fun w=>Et p 65535 w);rw[U]at M;have HH:=O (And.intro (Qh.new w #[.int .u64 p.id,.int .i64 p.cls,.int .i64 p.len,.int .u64 p.at_] 34) (And.intro (q1.alloc (.cells #[.int .u64 p.id,.int .i64 p.cls,.int .i64 p.len,.int .u64 p.at_] 34)) (q2.alloc (.cells #[.int .u64 p.id,.int .i64 p.cls,.int .i64 p.len,.int .u64 p.at_] 34))));clear q1 q2 U hg hr c0;go_enter func73,ntmps73;go_wp2_with fail;refine(N.out _).mono ?_;rintro e w1⟨rfl,rfl⟩;go_wp2_with fail;refine(M.out _).mono ?_;rintro e w2⟨rfl,hc⟩;have K:=hc.blk HH.out.1 (fun h=>h);have E:=hc.blk HH.out.2.1 (fun h=>h);have Z:RowBlk Z4.cells w2 r L 34:=hc.blk HH.out.2.2 (fun h=>h);have af:w.heap.size<w2.heap.size:=by have:=hc.size;simp at this;omega
 have z0:=K.cell 0;have z1:=K.cell 1;have z2:=K.cell 2;have z3:=K.cell 3;have k0:=E.cell 0;have k1:=E.cell 1;have k2:=E.cell 2;have k3:=E.cell 3;have k4:=E.cell 4;have k5:=E.cell 5;have kz:=E.frozen;have rz:=Qh.frozen Z;simp at z0 z1 z2 z3 k0 k1 k2 k3 k4 k5;have PL:=O (fun n=>Qba b f (l.length:Int) (some ⟨r,0,none⟩) L.length L.length (w2.drewN n) k2 k3 (by omega) (by omega) (by omega) (by omega) (by omega) (by omega));obtain⟨pos,d⟩:=Zx ((f+l.length)%L.length);have I:((f:Int)+(l.length:Int))%(L.length:Int)=(pos:Int):=by rw[d];simp
 rw[I]at PL;have c:pos<L.length:=by rw[d];exact Nat.mod_lt _ (by omega)
 have g1:((l.length:Int)==(pk:Int))=false:=by simp;omega
 have g2:decide ((bt:Int)-Q0 l<p.len)=false:=by simp;omega
 have g3:((l.length:Int)==(L.length:Int))=false:=by simp;omega
 have n0:(0:Int)≤(pos:Int):=by omega
 have n1:(pos:Int)<(L.length:Int):=by omega
 have nb:¬r=b:=fun h=>ne h.symm;have HC:=O (And.intro hc (And.intro E Z));have V:=O (fun i(h:i<L.length)j u hu=>Z.cellAt Z4.cells_length i h j u hu);have ac:=V.out pos c 0 _ rfl;have aj:=V.out pos c 1 _ rfl;have ah:=V.out pos c 2 _ rfl;have ai:=V.out pos c 3 _ rfl;simp only[Nat.add_zero]at ac;have HP:=O d;clear hc K E Z d I;go_wp2;go_quiet (fail);go_wp2;go_quiet (fail);go_wp2;refine Xq 0 12 (by kernel_rfl) (by kernel_rfl) ?_ ?_;·exact fun _ _ _ _ _ h=>h
 simp only[List.take_succ_cons,List.take_zero,List.drop_succ_cons,List.drop_zero];repeat(quiet_step ((go_at_call 131;exact Qst (PL.out _))))
 refine wpQuiet_nil ?_;intro _ J;obtain⟨nq,z⟩:=J;subst z;go_wp2;refine Xq 0 9 (by kernel_rfl) (by kernel_rfl) ?_ ?_;·exact fun _ _ _ _ _ h=>h
 simp only[List.take_succ_cons,List.take_zero,List.drop_succ_cons,List.drop_zero];repeat(quiet_step ((fail)))
 refine wpQuiet_nil ?_;intro _ J;obtain⟨nq,z⟩:=J;subst z;go_wp2;go_ret;refine⟨rfl,?_,?_⟩
 ·have e:=HP.out;rw[e]at c;subst e;exact ab.out _ _ (by simp) (Qh.set (Qh.drewN (Qh.set (Qh.other (Qh.other (Qh.other (Qh.other (Qh.drewN HC.out.2.1 _) _ nb) _ nb) _ nb) _ nb) 4 _) _) 5 _)
   (Qh.other (Qh.drewN (Qh.other (Qjz (Qh.drewN HC.out.2.2 _) _ c p) _ ne) _) _ ne)
 ·have h1:=HC.out.1;have h2:Qc (fun k=>k=b∨k=r) w w2:=(((Qc.refl _ w).alloc (.cells #[.int .u64 p.id,.int .i64 p.cls,.int .i64 p.len,.int .u64 p.at_] 34)).trans h1 fun k h=>h.elim);(repeat' (first|(with_reducible first|exact Zg _ _|assumption|refine Zh ?_ _|refine Zi ?_ _|refine Zj ?_ |refine Zk ?_ _ ?_ |(apply Or.inl;rfl))|(apply Or.inl;simp;done)|(apply Or.inr;simp;first|done|omega)))
theorem Qlm{L:List Z4}{f:Nat}{l:List Z4}(h:Ud L f l)(hf:f<L.length)(hl:l.length=L.length)(z:Z4):
  Ud (L.drop f++L.take f++List.replicate L.length z) 0 l:=by
 intro i hi;have c:(L.drop f++L.take f++List.replicate L.length z).length=2*L.length:=by simp;omega
 have d:i<L.length:=by omega
 rw[c,Nat.zero_add,Nat.mod_eq_of_lt (by omega),List.getElem?_append_left (by simp;omega),←h i hi];by_cases hc:i<L.length-f;·rw[List.getElem?_append_left (by simp;omega),List.getElem?_drop,Nat.mod_eq_of_lt (by omega)]
 ·rw[List.getElem?_append_right (by simp;omega),List.getElem?_take,if_pos (by simp;omega)];congr 1;rw[show f+i=(f+i-L.length)+L.length by omega,Nat.add_mod_right,Nat.mod_eq_of_lt (by omega)];simp;omega
theorem Qol{w:World}{b r pk bt:Nat}{l:List Z4}{L:List Z4}{f:Nat}(p:Z4)(ne:b≠r)(p1:1≤pk)(p2:pk≤4096)(b1:1≤bt)(b2:bt≤16777216)(hg:∀q∈l,Uc q)
  (hf:f<L.length)(hl:l.length=L.length)(hL:L.length≤8192)(hr:Ud L f l)(hm:l.length<pk)(hp:1≤p.len)(aj:p.len≤65535)(hs:p.len≤bt-Q0 l)
  (q1:Qh w b #[.int .i64 (pk:Int),.int .i64 (bt:Int),.slice (some ⟨r,0,none⟩) L.length L.length,.int .i64 (f:Int),.int .i64 (l.length:Int),.int .i64 (Q0 l)] 123)
  (q2:RowBlk Z4.cells w r L 34):
  Cl 73 #[.pointer (some ⟨b,0,none⟩),.agg #[.int .u64 p.id,.int .i64 p.cls,.int .i64 p.len,.int .u64 p.at_]] w fun e w'=>e=.returned (.int .i64 0)∧∃r',w.heap.size≤r'∧Jg w' b r' pk bt (l++[p])∧Qc (fun k=>k=b∨k=r) w w':=by
 have ac:Qdt p 65535=0:=by unfold Qdt;rw[if_neg (by omega),if_neg (by omega)]
 obtain⟨J,E⟩:=Zx (L.drop f++L.take f++List.replicate L.length Z4.zero);have d:J.length=2*L.length:=by rw[E];simp;omega
 have ae:Ud J 0 l:=by rw[E];exact Qlm hr hf hl _
 have ah:=O (fun W r'(ag:b≠r')cs af B R=>Qok (W:=W) (r:=r') (L:=J) (f:=0) (p:=p) ag p1 p2 b1 b2 hg (by omega) (by omega) (by omega) ae hm hp aj hs cs af B R);have s0:=Ku l hg;have hb:=q1.lt;have al:=q2.lt;have c0:=q1.cell 0;simp at c0;have N:=O (fun o=>Vg b pk (w.alloc o) (by rw[World.cell?_alloc_past _ _ _ hb];exact c0) (by omega));have M:=O (fun w=>Et p 65535 w);rw[ac]at M;have HH:=O (And.intro (Qh.new w #[.int .u64 p.id,.int .i64 p.cls,.int .i64 p.len,.int .u64 p.at_] 34) (And.intro (q1.alloc (.cells #[.int .u64 p.id,.int .i64 p.cls,.int .i64 p.len,.int .u64 p.at_] 34)) (q2.alloc (.cells #[.int .u64 p.id,.int .i64 p.cls,.int .i64 p.len,.int .u64 p.at_] 34))));have G:=O (fun(W:World)(q1:Qh W b #[.int .i64 (pk:Int),.int .i64 (bt:Int),.slice (some ⟨r,0,none⟩) L.length L.length,.int .i64 (f:Int),.int .i64 (l.length:Int),.int .i64 (Q0 l)] 123)
  (q2:RowBlk Z4.cells W r L 34)=>Qu2 _ _ _ _ L f hf (by omega) ne q1 q2)
 rw[←E]at G;have g1:((l.length:Int)==(pk:Int))=false:=by simp;omega
 have g2:decide ((bt:Int)-Q0 l<p.len)=false:=by simp;omega
 have g3:((l.length:Int)==(L.length:Int))=true:=by simp;omega
 have i1:l.length≤L.length:=by omega
 have i2:L.length≤l.length:=by omega
 have HL:=O (And.intro hl (And.intro d E));clear q1 q2 ac hg hr c0 hl d E ae;go_enter func73,ntmps73;go_wp2_with fail;refine(N.out _).mono ?_;rintro e w1⟨rfl,rfl⟩;go_wp2_with fail;refine(M.out _).mono ?_;rintro e w2⟨rfl,hc⟩;have Z2:=hc.blk HH.out.1 (fun h=>h);have Q2:=hc.blk HH.out.2.1 (fun h=>h);have R2:RowBlk Z4.cells w2 r L 34:=hc.blk HH.out.2.2 (fun h=>h);have ak:w.heap.size<w2.heap.size:=by have:=hc.size;simp at this;omega
 have z2:=Z2.cell 2;have k0:=Q2.cell 0;have k1:=Q2.cell 1;have k2:=Q2.cell 2;have k4:=Q2.cell 4;have k5:=Q2.cell 5;simp at z2 k0 k1 k2 k4 k5;have HC:=O (And.intro hc (And.intro Q2 (And.intro R2 Z2)));clear hc Z2 Q2 R2;go_wp2;go_quiet (fail);go_wp2;go_quiet (fail);go_wp2_with fail;refine(G.out _ (HC.out.2.1.drewN _) (Qh.drewN HC.out.2.2.1 _)).mono ?_;rintro e w3⟨rfl,V,R3,C3⟩;simp only[World.heap_drewN]at V R3;have am:w2.heap.size<w3.heap.size:=Qh.lt R3;clear z2 k0 k1 k2 k4 k5;have ab:Qc (fun k=>k=b∨k=r) w w3:=((((Qc.refl _ w).alloc (.cells #[.int .u64 p.id,.int .i64 p.cls,.int .i64 p.len,.int .u64 p.at_] 34)).trans HC.out.1 (fun k h=>h.elim)).drewN _).trans C3 (fun k h=>.inl (.inl h));have Z3:Qh w3 w.heap.size #[.int .u64 p.id,.int .i64 p.cls,.int .i64 p.len,.int .u64 p.at_] 34:=C3.blk (HC.out.2.2.2.drewN _) (by omega);have z0:=Z3.cell 0;have z1:=Z3.cell 1;have z2:=Z3.cell 2;have z3:=Z3.cell 3;have k2:=V.cell 2;have k3:=V.cell 3;have k4:=V.cell 4;have k5:=V.cell 5;have kz:=V.frozen;have rz:=Qh.frozen R3;simp at z0 z1 z2 z3 k2 k3 k4 k5;have d:=HL.out.2.1;rw[←d]at k2;have PL:=O (fun n=>Qba b 0 (l.length:Int) (some ⟨w2.heap.size,0,none⟩) J.length J.length (w3.drewN n) k2 k3 (by omega) (by omega) (by omega) (by omega) (by omega) (by omega));obtain⟨pos,z⟩:=Zx ((0+l.length)%J.length);have U:((0:Int)+(l.length:Int))%(J.length:Int)=(pos:Int):=by rw[z];simp
 rw[U]at PL;have c:pos<J.length:=by rw[z];exact Nat.mod_lt _ (by omega)
 have n0:(0:Int)≤(pos:Int):=by omega
 have n1:(pos:Int)<(J.length:Int):=by omega
 have K:b≠w2.heap.size:=by omega
 have nb:¬w2.heap.size=b:=fun h=>K h.symm;have RC:=O (fun i(h:i<J.length)j u hu=>R3.cellAt Z4.cells_length i h j u hu);have ai:=RC.out pos c 0 _ rfl;have ap:=RC.out pos c 1 _ rfl;have an:=RC.out pos c 2 _ rfl;have ao:=RC.out pos c 3 _ rfl;simp only[Nat.add_zero]at ai;have HP:=O z;have Z:=O (And.intro ab (And.intro V R3));have H2:=O d;clear V R3 C3 ab Z3 z U d;go_wp2;refine Xq 0 12 (by kernel_rfl) (by kernel_rfl) ?_ ?_;·exact fun _ _ _ _ _ h=>h
 simp only[List.take_succ_cons,List.take_zero,List.drop_succ_cons,List.drop_zero];repeat(quiet_step ((go_at_call 131;exact Calls.quiet_of (PL.out _))))
 refine wpQuiet_nil ?_;intro _ aa;obtain⟨nq,I⟩:=aa;subst I;go_wp2;refine Xq 0 9 (by kernel_rfl) (by kernel_rfl) ?_ ?_;·exact fun _ _ _ _ _ h=>h
 simp only[List.take_succ_cons,List.take_zero,List.drop_succ_cons,List.drop_zero];repeat(quiet_step ((fail)))
 refine wpQuiet_nil ?_;intro _ aa;obtain⟨nq,I⟩:=aa;subst I;go_wp2;go_ret;refine⟨rfl,w2.heap.size,by omega,?_,?_⟩
 ·have e:=HP.out;rw[e]at c;subst e;exact ah.out _ _ K _ (by simp[H2.out]) (Qh.set (Qh.drewN (Qh.set (Qh.other (Qh.other (Qh.other (Qh.other (Qh.drewN Z.out.2.1 _) _ nb) _ nb) _ nb) _ nb) 4 _) _) 5 _)
   (Qh.other (Qh.drewN (Qh.other (Qjz (Qh.drewN Z.out.2.2 _) _ c p) _ K) _) _ K)
 ·have h1:=Z.out.1;(repeat' (first|(with_reducible first|exact Zg _ _|assumption|refine Zh ?_ _|refine Zi ?_ _|refine Zj ?_ |refine Zk ?_ _ ?_ |(apply Or.inl;rfl))|(apply Or.inl;simp;done)|(apply Or.inr;simp;first|done|omega)))
theorem Qxe{w:World}{b r pk bt:Nat}{l:List Z4}(h:Jg w b r pk bt l)(p:Z4)(z:Oa pk bt l p=0):
  Cl 73 #[.pointer (some ⟨b,0,none⟩),.agg #[.int .u64 p.id,.int .i64 p.cls,.int .i64 p.len,.int .u64 p.at_]] w fun e w'=>e=.returned (.int .i64 0)∧∃c,(c=r∨w.heap.size≤c)∧Jg w' b c pk bt (l++[p])∧Qc (fun k=>k=b∨k=r) w w':=by
 unfold Oa at z;split at z;·omega
 ·split at z;·omega
  ·rename_i h1 R;obtain⟨ne,p1,I,b1,b2,K,s1,E,L,f,q1,q2,hf,hl,B,hr⟩:=h;by_cases J:l.length=L.length;·refine(Qol p ne p1 I b1 b2 E hf J B hr (by omega) (by omega) (by omega) (by omega) q1 q2).mono ?_;rintro e w'⟨u,c,q,d,hc⟩;exact⟨u,c,.inr q,d,hc⟩
   ·refine(Qrd p ne p1 I b1 b2 E hf (by omega) B hr (by omega) (by omega) (by omega) (by omega) q1 q2).mono ?_;rintro e w'⟨u,d,hc⟩;exact⟨u,r,.inl rfl,d,hc⟩
theorem Qxf{w:World}{b r pk bt:Nat}{l:List Z4}(h:Jg w b r pk bt l)(p:Z4)(c:Oa pk bt l p≠0):
  Cl 73 #[.pointer (some ⟨b,0,none⟩),.agg #[.int .u64 p.id,.int .i64 p.cls,.int .i64 p.len,.int .u64 p.at_]] w fun e w'=>e=.returned (.int .i64 (Oa pk bt l p))∧Qc Qb w w':=by
 unfold Oa at*;split at c;·rename_i h1;rw[if_pos h1];exact Qrb h p h1
 ·rename_i h1;rw[if_neg h1];split at c;·rename_i d;rw[if_pos d];exact Qrc h p (by omega) (by omega) d
  ·exact absurd rfl c
section
attribute [local go_sem] Qq
def quS(b pk bt:Nat)(q:List Z4):J7:=fun w F=>∃r,Jg w b r pk bt q∧F b∧F r∧Bd F w
theorem Dk(b pk bt:Nat)(q:List Z4):Hi (quS b pk bt q) where
 bd:=fun⟨r,_,_,_,h⟩=>h
 keep:=fun⟨r,h,h1,c,d⟩hc k=>⟨r,h.keep hc (k _ h1) (k _ c),h1,c,d.later hc⟩
 more:=fun⟨r,h,h1,c,d⟩hs u=>⟨r,h,hs _ h1,hs _ c,u⟩
def Qxg(b d:Nat)(c:Value)(l:Qy):List J7:=[Qa8 b #[ptr d,c] 85,quS d l.pk l.bt l.q,fun w F=>Kn w F c l.debt]
theorem Hm(b d:Nat)(k:Value)(l:Qy):∀P∈Qxg b d k l,Hi P:=by
 intro P c;simp only[Qxg,List.mem_cons,List.not_mem_nil,or_false]at c;rcases c with rfl|rfl|rfl;·exact Yu _ _ _
 ·exact Dk _ _ _ _
 ·exact Kn.good _ _
def Xl(w:World)(F:Fp)(b:Nat)(l:Qy):Prop:=∃d c,Hu (Qxg b d c l) w F
theorem Xl.obj:Ky Xl where
 bd:=fun⟨d,c,h⟩=>(Zm (Hm _ _ _ _)).bd h
 own:=fun⟨d,c,h⟩=>by obtain⟨G,h1,k⟩:=Z7 (Hm _ _ _ _) 0 rfl h;exact k _ h1.2.1
 keep:=fun⟨d,c,h⟩hc u=>⟨d,c,(Zm (Hm _ _ _ _)).keep h hc u⟩
 more:=fun⟨d,c,h⟩hs q=>⟨d,c,(Zm (Hm _ _ _ _)).more h hs q⟩
structure SAd where
 tb:Nat
 m:Nat
 rb:Nat
 pb:Nat
 ad:Int→Nat
def Qre(A:SAd)(s:Qg):Array Value:=#[.int .i64 s.most,ptr A.tb,.map (some A.m),ptr A.rb,ptr A.pb]
def Qbo(A:SAd)(b:Nat)(L:List Qy)(s:Qg):List J7:=
 [Qa8 b (Qre A s) 79,fun w F=>Zt w F A.tb s.tree,fun w F=>Xy Qy.id Xl w F A.m A.ad L,fun w F=>Kh w F A.rb s.row,fun w F=>Vb w F A.pb s.pick]
theorem Vk(A:SAd)(b:Nat)(L:List Qy)(s:Qg):∀P∈Qbo A b L s,Hi P:=by
 intro P c;simp only[Qbo,List.mem_cons,List.not_mem_nil,or_false]at c;rcases c with rfl|rfl|rfl|rfl|rfl;·exact Yu _ _ _
 ·exact Zt.obj.good _ _
 ·exact E8 Xl.obj _ _ _
 ·exact Kh.obj.good _ _
 ·exact Vb.obj.good _ _
def Qj(A:SAd)(w:World)(F:Fp)(b:Nat)(s:Qg):Prop:=∃L:List Qy,L.Perm s.leaves∧Hu (Qbo A b L s) w F
theorem Qj.obj(A:SAd):Ky (Qj A) where
 bd:=fun⟨L,_,h⟩=>(Zm (Vk A _ L _)).bd h
 own:=fun⟨L,_,h⟩=>by obtain⟨G,h1,q⟩:=Z7 (Vk A _ L _) 0 rfl h;exact q _ h1.2.1
 keep:=fun⟨L,c,h⟩hc k=>⟨L,c,(Zm (Vk A _ L _)).keep h hc k⟩
 more:=fun⟨L,c,h⟩hs d=>⟨L,c,(Zm (Vk A _ L _)).more h hs d⟩
def Qs(w:World)(F:Fp)(b:Nat)(s:Qg):Prop:=∃A,Qj A w F b s
theorem Qs.obj:Ky Qs where
 bd:=fun⟨A,h⟩=>(Qj.obj A).bd h
 own:=fun⟨A,h⟩=>(Qj.obj A).own h
 keep:=fun⟨A,h⟩hc d=>⟨A,(Qj.obj A).keep h hc d⟩
 more:=fun⟨A,h⟩hs c=>⟨A,(Qj.obj A).more h hs c⟩
section
variable{A:SAd}{w:World}{F:Fp}{b:Nat}{s:Qg}
theorem Qj.is(h:Qj A w F b s):Qs w F b s:=⟨A,h⟩
theorem Qj.drew(h:Qj A w F b s):Qj A w.drew F b s:=(Qj.obj A).keep h (Qc.refl Qb w).drew (Je.none F)
theorem Qj.blk(h:Qj A w F b s):Qh w b (Qre A s) 79:=by obtain⟨L,c,h⟩:=h;obtain⟨G,h1,_⟩:=Z7 (Vk A b L s) 0 rfl h;exact h1.1
theorem Qj.part(h:Qj A w F b s)(i:Nat){R:List Qy→J7}(hi:∀L,(Qbo A b L s)[i]? =some (R L)):
  ∃L,L.Perm s.leaves∧∃G:Fp,R L w G∧(∀k,G k→F k)∧∀w' L' s' Q,L'.Perm s'.leaves→Qbo A b L' s'=(Qbo A b L s).set i Q→Q w' (Qn G w w')→Qc G w w'→Qj A w' (Qn F w w') b s'∧Qc F w w':=by
 obtain⟨L,E,h⟩:=h;obtain⟨G,B,q,_,z⟩:=Ju i (Vk A b L s) (hi L) h;refine⟨L,E,G,B,q,fun w' L' s' Q d hs u c=>⟨⟨L',d,?_⟩,c.sub q⟩⟩;rw[hs];exact z w' Q c u
theorem Qj.treeOf(h:Qj A w F b s):∃G:Fp,Zt w G A.tb s.tree∧(∀k,G k→F k)∧∀w' t,Zt w' (Qn G w w') A.tb t→Qc G w w'→Qj A w' (Qn F w w') b {s with tree:=t}∧Qc F w w':=by obtain⟨L,d,G,h1,u,q⟩:=h.part 1 (R:=fun _ w F=>Zt w F A.tb s.tree) (fun _=>rfl);exact⟨G,h1,u,fun w' t ht c=>q w' L {s with tree:=t} _ d rfl ht c⟩
theorem Qj.rowOf(h:Qj A w F b s):∃G:Fp,Kh w G A.rb s.row∧(∀k,G k→F k)∧∀w' t,Kh w' (Qn G w w') A.rb t→Qc G w w'→Qj A w' (Qn F w w') b {s with row:=t}∧Qc F w w':=by obtain⟨L,d,G,h1,u,q⟩:=h.part 3 (R:=fun _ w F=>Kh w F A.rb s.row) (fun _=>rfl);exact⟨G,h1,u,fun w' t ht c=>q w' L {s with row:=t} _ d rfl ht c⟩
theorem Qj.pickOf(h:Qj A w F b s):∃G:Fp,Vb w G A.pb s.pick∧(∀k,G k→F k)∧∀w' t,Vb w' (Qn G w w') A.pb t→Qc G w w'→Qj A w' (Qn F w w') b {s with pick:=t}∧Qc F w w':=by obtain⟨L,d,G,h1,u,q⟩:=h.part 4 (R:=fun _ w F=>Vb w F A.pb s.pick) (fun _=>rfl);exact⟨G,h1,u,fun w' t ht c=>q w' L {s with pick:=t} _ d rfl ht c⟩
theorem Qj.collOf(h:Qj A w F b s):∃L,L.Perm s.leaves∧∃G:Fp,Xy Qy.id Xl w G A.m A.ad L∧(∀k,G k→F k)∧
  ∀w' L' s',L'.Perm s'.leaves→s'.most=s.most→s'.tree=s.tree→s'.row=s.row→s'.pick=s.pick→Xy Qy.id Xl w' (Qn G w w') A.m A.ad L'→Qc G w w'→Qj A w' (Qn F w w') b s'∧Qc F w w':=by
 obtain⟨L,J,G,h1,B,E⟩:=h.part 2 (R:=fun L w F=>Xy Qy.id Xl w F A.m A.ad L) (fun _=>rfl);refine⟨L,J,G,h1,B,fun w' L' s' d I e1 z q u c=>E w' L' s' (fun w F=>Xy Qy.id Xl w F A.m A.ad L') d ?_ u c⟩;unfold Qbo Qre;rw[I,e1,z,q];rfl
theorem Qdu{L:List Qy}(c:L.Perm s.leaves)(hn:(L.map Qy.id).Nodup)(i:Int):s.leaf i=Vp Qy.id i L:=(Qb9 c hn i).symm
theorem Qj.leafOf(h:Qj A w F b s){i:Int}{l:Qy}(hl:s.leaf i=some l):
  ∃G:Fp,Xl w G (A.ad i) l∧(∀k,G k→F k)∧∀w' l',l'.id=i→Xl w' (Qn G w w') (A.ad i) l'→Qc G w w'→Qj A w' (Qn F w w') b (s.setLeaf l')∧Qc F w w':=by
 obtain⟨L,E,G,B,R,q⟩:=h.collOf;rw[Qdu E B.nodup]at hl;obtain⟨I,c⟩:=Yh hl;subst c;obtain⟨K,k1,k2,J⟩:=B.focus Xl.obj I;refine⟨K,k1,fun k z=>R k (k2 k z).1,fun w' l' c u d=>?_⟩;have:=J w' l' c u d;exact q w' _ (s.setLeaf l') (E.map _) rfl rfl rfl rfl this (d.sub fun k z=>(k2 k z).1)
def Qhp(A:SAd)(s:Qg)(i:Int):Value:=match s.leaf i with
 |none=>.pointer none
 |some _=>ptr (A.ad i)
theorem Qln(w:World):(zeroValue 80).run prog w=.ok (.pointer none) w:=by go_simp
theorem Qj.look1(h:Qj A w F b s)(i:Int):(Instr.lookup 75 (.map (some A.m)) (.int .i64 i) false).run prog w=.ok (Qhp A s i) w:=by
 obtain⟨L,k,G,d,_,_⟩:=h.collOf;have c:=U3 (P:=prog) d.map underlying75 underlying3 (Qln w) i;rw[d.look i,←Qdu k d.nodup]at c;have q:((s.leaf i).map fun _=>ptr (A.ad i)).getD (.pointer none)=Qhp A s i:=by unfold Qhp;cases s.leaf i<;>rfl
 rw[q]at c;exact c
theorem Li{i:Int}{l:Qy}(hl:s.leaf i=some l):Qhp A s i=ptr (A.ad i):=by unfold Qhp;rw[hl]
theorem Qrf{i:Int}(hl:s.leaf i=none):Qhp A s i=.pointer none:=by unfold Qhp;rw[hl]
theorem Qj.nodup(h:Qj A w F b s):(s.leaves.map Qy.id).Nodup:=by obtain⟨L,d,G,c,_⟩:=h.collOf;exact((d.map _).nodup_iff).1 c.nodup
theorem Qj.once(h:Qj A w F b s):∃p G,Qh w A.rb #[ptr p] 135∧Zo w G p s.row:=by obtain⟨G,h1,_⟩:=h.rowOf;obtain⟨p,k,c,d,_⟩:=h1.ex;exact⟨p,k,c,d⟩
variable{l:Qy}{a:Nat}
theorem Xl.cells(h:Xl w F a l):∃d c,Qh w a #[ptr d,c] 85∧(∃r,Jg w d r l.pk l.bt l.q)∧∃G,Kn w G c l.debt:=by obtain⟨d,c,h⟩:=h;obtain⟨u,h0,_⟩:=Z7 (Hm a d c l) 0 rfl h;obtain⟨z,⟨r,h1,_⟩,_⟩:=Z7 (Hm a d c l) 1 rfl h;obtain⟨k,q,_⟩:=Z7 (Hm a d c l) 2 rfl h;exact⟨d,c,h0.1,⟨r,h1⟩,k,q⟩
theorem Xl.opn(h:Xl w F a l):∃B E,Qh w a #[ptr B,E] 85∧
  (∃G:Fp,quS B l.pk l.bt l.q w G∧(∀k,G k→F k)∧¬G a∧∀w' q',quS B l.pk l.bt q' w' (Qn G w w')→Qc G w w'→Xl w' (Qn F w w') a {l with q:=q'}∧Qc F w w')∧
  (∃G:Fp,Kn w G E l.debt∧(∀k,G k→F k)∧¬G a∧∀w' d',Kn w' (Qn G w w') E d'→Qc G w w'→Xl w' (Qn F w w') a {l with debt:=d'}∧Qc F w w'):=by
 obtain⟨B,E,h⟩:=h;have hh:=h;obtain⟨u,G0,R0,U,⟨ab,K,R1,g1,⟨ac,I,R2,g2,_,_,s4,_⟩,d1,s2,s3⟩,d0,s0,s1⟩:=hh;have n1:¬K a:=fun c=>d0 a U.2.1 (s2 _ c);have n2:¬I a:=fun c=>d0 a U.2.1 (s3 _ (s4 _ c));have f1:∀k,K k→F k:=fun k c=>s1 _ (s2 _ c);have Z:∀k,I k→F k:=fun k c=>s1 _ (s3 _ (s4 _ c));have J:Je K I:=fun k c aa=>d1 k c (s4 _ aa);have ga:F a:=s0 _ U.2.1;have R:Bd K w:=u.sub f1;have z:Bd I w:=u.sub Z;refine⟨B,E,U.1,⟨K,g1,f1,n1,fun w' q' hq d=>?_⟩,⟨I,g2,Z,n2,fun w' d' hd d=>?_⟩⟩
 ·have cF:=d.sub f1;refine⟨⟨B,E,?_⟩,cF⟩;have V:Qh w' a #[ptr B,E] 85:=d.blk U.1 n1;refine Zl (G:=fun k=>k=a) (H:=fun k=>Qn K w w' k∨I k) ⟨V,rfl,fun k e=>e▸V.lt⟩ ?_ ?_ (fun k e=>.inl (e▸ga)) ?_ (u.ext cF);·refine Zl (G:=Qn K w w') (H:=I) hq (Yv ((Kn.good E l.debt).keep g2 d J.symm) (z.later d)) (Je.extL J z) (fun k c=>.inl c) (fun k c=>.inr c) ?_;exact fun k c=>c.elim (R.ext d k) (z.later d k)
  ·rintro k rfl(c|c);·exact c.elim n1 fun c=>by have:=u _ ga;omega
   ·exact n2 c
  ·exact fun k c=>c.elim (Qn.mono f1 k) fun c=>.inl (Z k c)
 ·have cF:=d.sub Z;refine⟨⟨B,E,?_⟩,cF⟩;have V:Qh w' a #[ptr B,E] 85:=d.blk U.1 n2;refine Zl (G:=fun k=>k=a) (H:=fun k=>K k∨Qn I w w' k) ⟨V,rfl,fun k e=>e▸V.lt⟩ ?_ ?_ (fun k e=>.inl (e▸ga)) ?_ (u.ext cF);·refine Zl (G:=K) (H:=Qn I w w') ((Dk B l.pk l.bt l.q).keep g1 d J) (Yv hd (z.ext d)) (Je.extR J R) (fun k c=>.inl c) (fun k c=>.inr c) ?_;exact fun k c=>c.elim (R.later d k) (z.ext d k)
  ·rintro k rfl(c|c);·exact n1 c
   ·exact c.elim n2 fun c=>by have:=u _ ga;omega
  ·exact fun k c=>c.elim (fun c=>.inl (f1 k c)) (Qn.mono Z k)
end
end
section
attribute [local go_sem] Qq
attribute [local irreducible] Y4 Jm Jw
section
variable{A:SAd}{w:World}{F:Fp}{b:Nat}{s:Qg}
theorem Vl(h:Qj A w F b s)(q:1≤s.most):Cl 30 #[ptr b] w fun e w'=>e=.returned (.bool false)∧w=w':=by
 obtain⟨k,_⟩:=Ys h.blk;have d:(s.most==0)=false:=by
  have:s.most≠0:=by omega
  simpa using this
 have c:decide (s.most=0)=false:=by
  have:s.most≠0:=by omega
  simpa using this
 unfold ptr;clear h;go_enter func30,ntmps30;go_wp2;go_ret;exact⟨rfl,rfl⟩
theorem Qom(most:Int)(w:World)(h:most<1∨65536≤most):Cl 26 #[.int .i64 most] w fun e w'=>e=.returned (.tuple #[.pointer none,.int .i64 2])∧Qc Qb w w':=by
 have C:=O (Qc.refl Qb w).drew;by_cases h1:most<1
 ·have c:decide (most<1)=true:=by simpa using h1
  go_enter func26,ntmps26;go_wp2;go_ret2;refine⟨rfl,?_⟩;(repeat' (first|(with_reducible first|exact Zg _ _|assumption|refine Zh ?_ _|refine Zi ?_ _|refine Zj ?_ |refine Zk ?_ _ ?_ |(apply Or.inl;rfl))|(apply Or.inl;simp;done)|(apply Or.inr;simp;first|done|omega)))
 ·have d:65536≤most:=h.resolve_left h1;have c:decide (most<1)=false:=by simp;omega
  have k:decide (65536≤most)=true:=by simpa using d
  go_enter func26,ntmps26;go_wp2;go_ret2;refine⟨rfl,?_⟩;(repeat' (first|(with_reducible first|exact Zg _ _|assumption|refine Zh ?_ _|refine Zi ?_ _|refine Zj ?_ |refine Zk ?_ _ ?_ |(apply Or.inl;rfl))|(apply Or.inl;simp;done)|(apply Or.inr;simp;first|done|omega)))
theorem Qj0(most:Int)(h1:1≤most)(h2:most<65536)(w:World):Cl 26 #[.int .i64 most] w fun e w'=>∃b,e=.returned (.tuple #[ptr b,.int .i64 0])∧Qs w' (Qn Qb w w') b (Qg.new most)∧Qc Qb w w':=by
 have HN:=O Quf;have EN:=O Qtq;have PN:=O Qud;have ab:=@run_makeMap prog;have d1:decide (most<1)=false:=by simp;omega
 have d2:decide (65536≤most)=false:=by simp;omega
 have z:Hid (∀w1 w3 c tb rb pb,Qc Qb w w1→Zt w1 (Qn Qb w w1) tb []→Qc Qb (w1.alloc (.map #[] 0)) w3→Kh w3 (Qn Qb (w1.alloc (.map #[] 0)) w3) rb []→Qc Qb w3 c→Vb c (Qn Qb w3 c) pb Qe.new→
   Qs (c.alloc (.cells #[.int .i64 most,ptr tb,.map (some w1.heap.size),ptr rb,ptr pb] 79)) (Qn Qb w (c.alloc (.cells #[.int .i64 most,ptr tb,.map (some w1.heap.size),ptr rb,ptr pb] 79))) c.heap.size (Qg.new most)∧Qc Qb w (c.alloc (.cells #[.int .i64 most,ptr tb,.map (some w1.heap.size),ptr rb,ptr pb] 79))):=O (by
  intro w1 w3 c tb rb pb E K u I d J;have c2:Qc Qb w1 (w1.alloc (.map #[] 0)):=(Qc.refl _ _).alloc _;have aa:Xs (w1.alloc (.map #[] 0)) w1.heap.size []:=Xs.new w1;have hz:(w1.alloc (.map #[] 0)).heap.size=w1.heap.size+1:=by simp
  generalize w1.alloc (.map #[] 0)=w2 at*;have B:Qc Qb c (c.alloc (.cells #[.int .i64 most,ptr tb,.map (some w1.heap.size),ptr rb,ptr pb] 79)):=(Qc.refl _ _).alloc _;have hB:Qh (c.alloc (.cells #[.int .i64 most,ptr tb,.map (some w1.heap.size),ptr rb,ptr pb] 79)) c.heap.size #[.int .i64 most,ptr tb,.map (some w1.heap.size),ptr rb,ptr pb] 79:=Qh.new _ _ _;generalize c.alloc (.cells #[.int .i64 most,ptr tb,.map (some w1.heap.size),ptr rb,ptr pb] 79)=q at*;have s1:=E.size;have s3:=u.size;have s4:=d.size;have s5:=hB.lt;refine⟨⟨⟨tb,w1.heap.size,rb,pb,fun _=>0⟩,[],List.Perm.refl _,?_⟩,(((E.trans' c2).trans' u).trans' d).trans' B⟩;have t5:Zt q (Qn Qb w w1) tb []:=Zt.obj.keep K (((c2.trans' u).trans' d).trans' B) (Je.none _);have m5:Xs q w1.heap.size []:=aa.keep ((u.trans' d).trans' B) (fun h=>h);have e5:Kh q (Qn Qb w2 w3) rb []:=Kh.obj.keep I (d.trans' B) (Je.none _);have p5:Vb q (Qn Qb w3 c) pb Qe.new:=Vb.obj.keep J B (Je.none _);have Z:Bd (Qn Qb w q) q:=fun k V=>((Qt k).1 V).2;have bd:∀{U:Fp},(∀k,U k→w.heap.size≤k∧k<q.heap.size)→Bd U q:=fun h k V=>(h k V).2;refine Zl (G:=fun k=>k=c.heap.size) (H:=fun k=>w.heap.size≤k∧k<c.heap.size) ⟨hB,rfl,fun k e=>e▸s5⟩ ?_ (fun k e h=>by omega) (fun k e=>(Qt k).2 (by omega)) (fun k h=>(Qt k).2 (by omega)) Z;refine Zl (G:=Qn Qb w w1) (H:=fun k=>w1.heap.size≤k∧k<c.heap.size) t5 ?_ (fun k e h=>by have:=(Qt k).1 e;omega) (fun k e=>by have:=(Qt k).1 e;omega) (fun k h=>by omega) (bd fun k h=>by omega);refine Zl (G:=fun k=>k=w1.heap.size) (H:=fun k=>w2.heap.size≤k∧k<c.heap.size) (Xy.new m5 (fun k e=>by rw[e];exact m5.lt) rfl) ?_ (fun k e h=>by omega) (fun k e=>by omega) (fun k h=>by omega) (bd fun k h=>by omega);refine Zl (G:=Qn Qb w2 w3) (H:=Qn Qb w3 c) e5 (Yv p5 (Vb.obj.bd p5)) (fun k e h=>by have:=(Qt k).1 e;have:=(Qt k).1 h;omega) (fun k e=>by have:=(Qt k).1 e;omega) (fun k h=>by have:=(Qt k).1 h;omega) (bd fun k h=>by omega))
 unfold ptr at*;go_enter func26,ntmps26;go_wp2_with fail;refine(HN.out _).mono ?_;rintro e w1⟨tb,rfl,K,E⟩;have R:=O (And.intro E K);clear E K;go_wp2_with fail;refine(EN.out _).mono ?_;rintro e w3⟨rb,rfl,I,u⟩;have T3:=O (And.intro u I);clear u I;go_wp2_with fail;refine(PN.out _).mono ?_;rintro e c⟨pb,rfl,J,d⟩;have FF:=O (z.out w1 w3 c tb rb pb R.out.1 R.out.2 T3.out.1 T3.out.2 d J);clear d J z R T3;unfold ptr at*;go_wp2;go_ret2;exact⟨_,rfl,FF.out⟩
end
section
variable{w:World}{g:Nat}
theorem Y5{t:TypeId}:∀(vs:List Value)(o:Nat)(w:World)(cs:Array Value),Qh w g cs t→o+vs.length≤cs.size→
  ∃cs',Qh (w.setCells g o vs) g cs' t∧cs'.size=cs.size∧(∀k,cs'[k]? =if o≤k∧k<o+vs.length then vs[k-o]? else cs[k]?)∧Qc (fun k=>k=g) w (w.setCells g o vs)
 |[],o,w,cs,h,_=>⟨cs,h,rfl,fun k=>by rw[if_neg (by simp)],Qc.refl _ _⟩
 |v::vs,o,w,cs,h,hb=>by
  simp only[List.length_cons]at hb;obtain⟨cs',h1,q,u,z⟩:=Y5 vs (o+1) (w.setCell ⟨g,o,none⟩ v) _ (h.set o v) (by simp;omega);refine⟨cs',h1,by rw[q];simp,fun k=>?_,?_⟩
  ·rw[u k];by_cases e:k=o
   ·subst e;rw[if_neg (by omega),if_pos (by simp),Nat.sub_self];have:k<cs.size:=by omega
    simp[this]
   ·by_cases c:o+1≤k∧k<o+1+vs.length;·rw[if_pos c,if_pos (by simp only[List.length_cons];omega),show k-o=(k-(o+1))+1 by omega,Zd]
    ·rw[if_neg c,if_neg (by simp only[List.length_cons];omega),Array.getElem?_setIfInBounds_ne (fun d=>e d.symm)]
  ·have hc:Qc (fun k=>k=g) w (w.setCell ⟨g,o,none⟩ v):=(Qc.refl _ _).setCell _ (.inl rfl);exact hc.trans' z
theorem Zw.mk{cap:Nat}{l:List Int}{c:Array Value}(u:Qh w g c 3)(hs:c.size=cap)(hn:l.length≤cap)(q:cap≤maxLen)(hc:∀(k:Nat)(y:Int),l[k]? =some y→c[k]? =some (.int .i64 y)):Zw w (.slice (some ⟨g,0,none⟩) l.length cap) l:=by
 refine⟨by rw[Qg7];simp,.inr ⟨g,cap,c,rfl,Nat.zero_le _,u,hn,q,by omega,?_⟩⟩;rw[Qg7];apply List.ext_getElem?;intro k;rw[List.getElem?_take,List.getElem?_map];by_cases d:k<l.length;·rw[if_pos (by omega),List.getElem?_eq_getElem d];have:=hc k _ (List.getElem?_eq_getElem d);simpa using this
 ·rw[if_neg (by omega),List.getElem?_eq_none (by omega)];rfl
theorem Qsp(l:List Int)(x:Int){i:Nat}(hi:i≤l.length)(k:Nat):(l.take i++x::l.drop i)[k]? =if k<i then l[k]? else if k=i then some x else l[k-1]? :=by
 have hl:(l.take i).length=i:=by rw[List.length_take];omega
 by_cases h1:k<i;·rw[if_pos h1,List.getElem?_append_left (by omega),List.getElem?_take,if_pos h1]
 ·rw[if_neg h1,List.getElem?_append_right (by omega),hl];by_cases c:k=i;·rw[if_pos c,c,Nat.sub_self];rfl
  ·rw[if_neg c,show k-i=(k-i-1)+1 by omega,Zd,List.getElem?_drop,show i+(k-i-1)=k-1 by omega]
theorem Qu3{cap i:Nat}{l:List Int}{c:Array Value}(x:Int)(hi:i<l.length)(J:Qh w g c 3)(hs:c.size=cap)(hn:l.length+1≤cap)(B:cap≤maxLen)(hc:∀(k:Nat)(y:Int),l[k]? =some y→c[k]? =some (.int .i64 y)):
  Zw ((w.setCells g (i+1) ((l.drop i).map fun y=>.int .i64 y)).setCells g i [.int .i64 x]) (.slice (some ⟨g,0,none⟩) (l.length+1) cap) (l.take i++x::l.drop i)∧Qc (fun k=>k=g) w ((w.setCells g (i+1) ((l.drop i).map fun y=>.int .i64 y)).setCells g i [.int .i64 x]):=by
 obtain⟨E,b1,s1,k1,h1⟩:=Y5 ((l.drop i).map fun y=>Value.int .i64 y) (i+1) w c J (by simp;omega);obtain⟨K,b2,s2,k2,I⟩:=Y5 [Value.int .i64 x] i _ E b1 (by simp;omega);have q:(l.take i++x::l.drop i).length=l.length+1:=by simp;omega
 have:=Zw.mk (l:=l.take i++x::l.drop i) b2 (cap:=cap) (by omega) (by omega) B (fun k y d=>by
  rw[Qsp l x (by omega)]at d;rw[k2];simp only[List.length_cons,List.length_nil,List.length_map,List.length_drop]at k1⊢;by_cases u:k=i;·rw[if_neg (by omega),if_pos u]at d;obtain rfl:=Option.some.inj d;rw[if_pos (by omega),u,Nat.sub_self];rfl
  ·rw[if_neg (by omega),k1];by_cases z:k<i;·rw[if_pos z]at d;rw[if_neg (by omega)];exact hc k y d
   ·rw[if_neg z,if_neg u]at d;have:=(List.getElem?_eq_some_iff.1 d).1;rw[if_pos (by omega),List.getElem?_map,List.getElem?_drop,show i+(k-(i+1))=k-1 by omega,d];rfl)
 rw[q]at this;exact⟨this,h1.trans' I⟩
theorem Qys{cap i r:Nat}{l:List Int}{c:Array Value}(x:Int)(hi:i<l.length)(J:Qh w r c 3)(hs:c.size=cap)(hn:l.length+1≤cap)(B:cap≤maxLen)(hc:∀(k:Nat)(y:Int),k<i→l[k]? =some y→c[k]? =some (.int .i64 y)):
  Zw ((w.setCells r i [.int .i64 x]).setCells r (i+1) ((l.drop i).map fun y=>.int .i64 y)) (.slice (some ⟨r,0,none⟩) (l.length+1) cap) (l.take i++x::l.drop i)∧Qc (fun k=>k=r) w ((w.setCells r i [.int .i64 x]).setCells r (i+1) ((l.drop i).map fun y=>.int .i64 y)):=by
 obtain⟨E,b1,s1,k1,h1⟩:=Y5 [Value.int .i64 x] i w c J (by simp;omega);obtain⟨K,b2,s2,k2,I⟩:=Y5 ((l.drop i).map fun y=>Value.int .i64 y) (i+1) _ E b1 (by simp;omega);have q:(l.take i++x::l.drop i).length=l.length+1:=by simp;omega
 have:=Zw.mk (l:=l.take i++x::l.drop i) b2 (cap:=cap) (by omega) (by omega) B (fun k y d=>by
  rw[Qsp l x (by omega)]at d;rw[k2];simp only[List.length_cons,List.length_nil,List.length_map,List.length_drop]at k1⊢;by_cases z:k<i;·rw[if_pos z]at d;rw[if_neg (by omega),k1,if_neg (by omega)];exact hc k y z d
  ·rw[if_neg z]at d;by_cases u:k=i;·rw[if_pos u]at d;obtain rfl:=Option.some.inj d;rw[if_neg (by omega),k1,if_pos (by omega),u,Nat.sub_self];rfl
   ·rw[if_neg u]at d;have:=(List.getElem?_eq_some_iff.1 d).1;rw[if_pos (by omega),List.getElem?_map,List.getElem?_drop,show i+(k-(i+1))=k-1 by omega,d];rfl)
 rw[q]at this;exact⟨this,h1.trans' I⟩
end
end
open Go.Shelf
def Tryz.lays189_ren:Go.Shelf.Ren:=⟨fun|189=>36|125=>83|257=>82|128=>152|129=>153|294=>143|295=>144|296=>145|297=>146|298=>147|299=>148|216=>149|300=>150|301=>151|328=>202|329=>203|330=>204|331=>205|332=>206|215=>207|343=>226|n=>n,fun|28=>46|3=>3|46=>129|0=>0|51=>193|53=>29|4=>4|183=>186|182=>185|131=>98|5=>5|9=>9|218=>247|222=>250|228=>283|229=>35|n=>n,fun|n=>n⟩
theorem Tryz.lays189:Go.Proofs.Lays.n189 prog Tryz.lays189_ren:={
 mixed:=by kernel_rfl
 f125:=func83.trans (congrArg some (by kernel_rfl))
 f128:=func152.trans (congrArg some (by kernel_rfl))
 f129:=func153.trans (congrArg some (by kernel_rfl))
 f189:=func36.trans (congrArg some (by kernel_rfl))
 f215:=func207.trans (congrArg some (by kernel_rfl))
 f216:=func149.trans (congrArg some (by kernel_rfl))
 f257:=func82.trans (congrArg some (by kernel_rfl))
 f294:=func143.trans (congrArg some (by kernel_rfl))
 f295:=func144.trans (congrArg some (by kernel_rfl))
 f296:=func145.trans (congrArg some (by kernel_rfl))
 f297:=func146.trans (congrArg some (by kernel_rfl))
 f298:=func147.trans (congrArg some (by kernel_rfl))
 f299:=func148.trans (congrArg some (by kernel_rfl))
 f300:=func150.trans (congrArg some (by kernel_rfl))
 f301:=func151.trans (congrArg some (by kernel_rfl))
 f328:=func202.trans (congrArg some (by kernel_rfl))
 f329:=func203.trans (congrArg some (by kernel_rfl))
 f330:=func204.trans (congrArg some (by kernel_rfl))
 f331:=func205.trans (congrArg some (by kernel_rfl))
 f332:=func206.trans (congrArg some (by kernel_rfl))
 f343:=func226.trans (congrArg some (by kernel_rfl))
 t0:=underlying0
 a0:=Tryz.isAgg0
 z0:=Tryz.sizeOf0
 v0:=Tryz.zeroValue0
 t3:=underlying3
 a3:=Tryz.isAgg3
 z3:=Tryz.sizeOf3
 v3:=Tryz.zeroValue3
 t4:=underlying4
 a4:=Tryz.isAgg4
 z4:=Tryz.sizeOf4
 v4:=Tryz.zeroValue4
 t5:=underlying5
 a5:=Tryz.isAgg5
 z5:=Tryz.sizeOf5
 v5:=Tryz.zeroValue5
 t9:=underlying9
 a9:=Tryz.isAgg9
 z9:=Tryz.sizeOf9
 v9:=Tryz.zeroValue9
 t28:=underlying46
 a28:=Tryz.isAgg46
 z28:=Tryz.sizeOf46
 v28:=Tryz.zeroValue46
 t46:=underlying129
 a46:=Tryz.isAgg129
 z46:=Tryz.sizeOf129
 v46:=Tryz.zeroValue129
 t51:=underlying193
 a51:=Tryz.isAgg193
 z51:=Tryz.sizeOf193
 v51:=Tryz.zeroValue193
 t53:=underlying29
 a53:=Tryz.isAgg29
 z53:=Tryz.sizeOf29
 v53:=Tryz.zeroValue29
 t131:=underlying98
 a131:=Tryz.isAgg98
 z131:=Tryz.sizeOf98
 v131:=Tryz.zeroValue98
 t182:=underlying185
 a182:=Tryz.isAgg185
 z182:=Tryz.sizeOf185
 v182:=Tryz.zeroValue185
 t183:=underlying186
 a183:=Tryz.isAgg186
 z183:=Tryz.sizeOf186
 v183:=Tryz.zeroValue186
 t218:=underlying247
 a218:=Tryz.isAgg247
 z218:=Tryz.sizeOf247
 v218:=Tryz.zeroValue247
 t222:=underlying250
 a222:=Tryz.isAgg250
 z222:=Tryz.sizeOf250
 v222:=Tryz.zeroValue250
 t228:=underlying283
 a228:=Tryz.isAgg283
 z228:=Tryz.sizeOf283
 v228:=Tryz.zeroValue283
 t229:=underlying35
 a229:=Tryz.isAgg35
 z229:=Tryz.sizeOf35
 v229:=Tryz.zeroValue35}
open Go.Sort Go.RowKit in
theorem Tryz.slices_Sort_int(blk off cap:Nat)(zs:List Int)(w:World)(hH:Holds (Value.int .i64) w blk off zs.toArray)(hblk:blk<w.heap.size)(hsz:zs.length<4611686018427387904):
  Cl 36 #[.slice (some ⟨blk,off,none⟩) zs.length cap] w fun e w'=>
   e=.returned (.tuple #[])∧∃n os,w'=grow (putRow (Value.int .i64) (Sort.ahead w n) blk off (zs.mergeSort fun x y=>decide (x≤y)).toArray) os:=Any.slices_Sort_int Tryz.lays189 blk off cap zs w hH hblk hsz
open Go.RowKit Go.Sort in
theorem Tryz.slices_Sort_int_none(p:Option Addr)(cap:Nat)(w:World):
  Cl 36 #[.slice p 0 cap] w fun e w'=>e=.returned (.tuple #[])∧w'=w:=Any.slices_Sort_int_none Tryz.lays189 p cap w
section
attribute [local go_sem] Qq
attribute [local irreducible] Y4 Jm Jw
section
variable{w:World}{g:Nat}
theorem Qyt{cap:Nat}{d:List Int}{q:Array Value}{t:TypeId}(E:Qh w g q t)(hs:q.size=cap)(J:d.length≤cap)(n:Nat)(os:Array Obj):
  ∃c,Qh (Sort.grow (Sort.putRow (Value.int .i64) (Sort.ahead w n) g 0 d.toArray) os) g c t∧c.size=cap∧(∀(k:Nat)(y:Int),d[k]? =some y→c[k]? =some (.int .i64 y))∧Qc (fun k=>k=g) w (Sort.grow (Sort.putRow (Value.int .i64) (Sort.ahead w n) g 0 d.toArray) os):=by
 have Jl:=E.lt;have I:∀k,k<w.heap.size→(Sort.grow (Sort.putRow (Value.int .i64) (Sort.ahead w n) g 0 d.toArray) os).heap[k]? =if g=k then(w.heap[k]?).map (Sort.onCells (Sort.putCells (Value.int .i64) 0 d.toArray))else w.heap[k]? :=fun k u=>by show(w.heap.modify g _++os)[k]? =_;rw[Array.getElem?_append_left (by simpa using u),Array.getElem?_modify]
 refine⟨Sort.putCells (Value.int .i64) 0 d.toArray q,?_,?_,fun k y u=>?_,rfl,rfl,rfl,?_,fun k u B=>?_⟩;·unfold Qh at E⊢;rw[I g Jl,if_pos rfl,E];rfl
 ·unfold Sort.putCells;simpa using hs
 ·have z:k<d.length:=(List.getElem?_eq_some_iff.1 u).1;unfold Sort.putCells;rw[Array.getElem?_mapIdx,Array.getElem?_eq_getElem (by omega)];simp only[Option.map_some];rw[if_pos ⟨by omega,by simpa using z⟩];simp only[Nat.sub_zero];have:d.toArray[k]! =y:=by rw[getElem!_pos _ k (by simpa using z)];have:=(List.getElem?_eq_some_iff.1 u).2;simpa using this
  rw[this]
 ·show w.heap.size≤(w.heap.modify g _++os).size;simp
 ·rw[I k u,if_neg (fun e=>B e.symm)]
theorem Qlo{v:Value}{l:List Int}(u:Zw w v l)(hl:l.length<4611686018427387904):
  Cl 36 #[v] w fun e w'=>e=.returned (.tuple #[])∧Zw w' v (l.mergeSort fun x y=>decide (x≤y))∧Qc (fun k=>v.ownBlock=some k) w w':=by
 by_cases h0:l=[]
 ·subst h0;obtain⟨a,cap,rfl,_⟩:=u.row intT.hc;refine(Tryz.slices_Sort_int_none a cap w).mono ?_;rintro e w'⟨rfl,rfl⟩;refine⟨rfl,?_,Qc.refl _ _⟩;have:([]:List Int).mergeSort (fun x y=>decide (x≤y))=[]:=by simp
  rw[this];exact u
 ·obtain⟨g,cap,I,rfl,q,hs,hc,hn,J⟩:=u.opn h0;have U:Sort.Holds (Value.int .i64) w g 0 l.toArray:=fun j E=>by
   have z:j<l.length:=by simpa using E
   refine⟨?_,q.frozen _⟩;rw[Nat.zero_add,q.cell,hc j _ (List.getElem?_eq_getElem z)];congr 2;rw[getElem!_pos _ j E];simp
  refine(Tryz.slices_Sort_int g 0 cap l w U q.lt hl).mono ?_;rintro e w'⟨rfl,n,os,rfl⟩;have c:(l.mergeSort fun x y=>decide (x≤y)).length=l.length:=List.length_mergeSort _;obtain⟨B,b1,b2,K,R⟩:=Qyt (d:=l.mergeSort fun x y=>decide (x≤y)) q hs (by omega) n os;refine⟨rfl,?_,R.mono fun k e=>.inl (by rw[e];rfl)⟩;have:=Zw.mk b1 b2 (by omega) J K;rw[c]at this;exact this
end
section
variable{h:Qm}
theorem Qdv(h:Qm)(i:Int):(h.leaves i).length≤h.length:=by unfold Qm.leaves;rw[List.length_map];exact List.length_filter_le _ _
theorem Qsq(h:Qm)(l:List Int):(l.flatMap h.leaves).length≤l.length*h.length:=by
 induction l with
 |nil=>simp
 |cons x l c=> rw[List.flatMap_cons,List.length_append,List.length_cons,Nat.add_mul];have:=Qdv h x;omega
theorem Qhq(h:Qm){i:Int}{c:Kk}(hc:h.at i=some c):h.get i=c:=by unfold Qm.get;rw[hc];rfl
theorem Qcq(ok:Jd h):∀(n:Nat){w:World}{F:Fp}{b:Nat}(hh:Zt w F b h)(id:Int),9≤J5 h id+n→
  Cl 14 #[ptr b,.int .i64 id] w fun e w'=>∃v,e=.returned v∧Zw w' v (h.leaves id)∧(∀k,v.ownBlock=some k→w.heap.size≤k)∧Qc Qb w w'
 |0,w,F,b,hh,id,hd=>by
  exfalso;cases hc:h.at id with
  |none=>rw[Hl hc]at hd;omega
  |some c=>have:=Qlf ok hc;omega
 |n+1,w,F,b,hh,id,hd=>by
  have IH:=O (fun(w:World)(F:Fp)(b:Nat)(hh:Zt w F b h)(id:Int)(hd:9≤J5 h id+n)=>Qcq ok n hh id hd);have K:=O (fun w'(c:Qc Qb w w')=>Zt.obj.keep hh c (Je.none F));have HG:=O (Gh hh id);have E:=ok.many;have Z:=O (show∀i,(h.under i).length≤64 from fun i=>by
   have:(h.under i).length≤h.length:=by unfold Qm.under;rw[List.length_map];exact List.length_filter_le _ _
   omega)
  have ST:Hid (∀w1,Qc Qb w w1→∃u,Qc Qb w u∧w1.heap.size<u.heap.size∧u.cell? ⟨w1.heap.size,2,none⟩=some (.bool (h.get id).sp.leaf)∧
    (storeCells ⟨w1.heap.size,0,none⟩ (spA (h.get id).sp).toList 0).run prog (w1.alloc (.cells #[.int .i64 0,.int .i64 0,.bool false,.int .u64 0,.int .u64 0,.int .u64 0,.int .u64 0,.int .u64 0,.int .u64 0,.int .u64 0,.int .u64 0,.int .u64 0,.int .i64 0,.int .i64 0] 40))=.ok () u):=O (by
   intro w1 c1;obtain⟨u,s2,aq,C2⟩:=Z1 (P:=prog) (vs:=spA (h.get id).sp) (Qh.new w1 #[.int .i64 0,.int .i64 0,.bool false,.int .u64 0,.int .u64 0,.int .u64 0,.int .u64 0,.int .u64 0,.int .u64 0,.int .u64 0,.int .u64 0,.int .u64 0,.int .i64 0,.int .i64 0] 40) rfl (Lc _);have s1:=c1.size;refine⟨u,c1.trans' (((Qc.refl Qb w1).alloc _).trans C2 fun k e=>.inr (by omega)),aq.lt,?_,?_⟩;·rw[aq.cell];rfl
   ·exact s2)
  by_cases z:∃c,h.at id=some c∧c.sp.leaf=true
  ·obtain⟨c,hc,V⟩:=z;have a7:(h.get id).sp.leaf=true:=by rw[Qhq h hc];exact V
   have R:(h.at id).isSome=true:=by rw[hc];rfl
   have LV:=O (Qen ok hc V);have I:Hid (∀u,Qc Qb w u→Zw (u.alloc (.cells #[.int .i64 id] 3)) (.slice (some ⟨u.heap.size,0,none⟩) 1 1) (h.leaves id)∧(∀k,(Value.slice (some ⟨u.heap.size,0,none⟩) 1 1).ownBlock=some k→w.heap.size≤k)∧Qc Qb w (u.alloc (.cells #[.int .i64 id] 3))):=O (by
    intro u c2;rw[LV.out];refine⟨Zw.mk (l:=[id]) (Qh.new u #[.int .i64 id] 3) rfl (Nat.le_refl _) (by decide) (fun k y hk=>?_),fun k hk=>?_,c2.alloc _⟩
    ·cases k with
     |zero=>obtain rfl:=Option.some.inj hk;rfl
     |succ k=>cases hk
    ·have e:u.heap.size=k:=Option.some.inj hk;have:=c2.size;omega)
   rw[R]at HG;unfold ptr at*;clear IH K hc V hd R hh;go_enter func14,ntmps14;go_wp2_with fail;refine HG.out.mono ?_;rintro e w1⟨rfl,c1⟩;obtain⟨u,C2,Jl,B,bc⟩:=ST.out w1 c1;rw[a7]at B;have FF:=O (I.out u C2);clear c1 C2 Jl ST I;go_wp2_with fail;go_ret;exact⟨_,rfl,FF.out⟩
  ·have hl:∀c,h.at id=some c→c.sp.leaf=false:=fun c hc=>by
    cases e:c.sp.leaf with
    |false=>rfl
    |true=>exact absurd ⟨c,hc,e⟩ z
   have LS:=O (Qoh ok hl);have d:((h.at id).isSome&&(h.get id).sp.leaf)=false:=by
    cases hc:h.at id with
    |none=>rfl
    |some c=>rw[Qhq h hc,hl c hc];rfl
   have CH:Hid (∀x∈h.under id,9≤J5 h x+n):=O (fun x hx=>by
    obtain⟨c,hc,rfl,hp⟩:=Ep.1 hx;rcases O6 ok (Dq ok.sorted hc)with⟨e1,e2⟩|⟨q,hq,_,e2⟩;·have:J5 h id=0:=Hl (ok.zero (by omega));omega
    ·rw[hp]at e2;omega)
   have HU:=O (fun w'(c:Qc Qb w w')=>Qeh (K.out w' c) id (by have:=Z.out id;omega));have J:=O E;generalize ay:(h.at id).isSome=ah at HG d;unfold ptr at*;clear hd z hl hh E ay;go_enter func14,ntmps14;go_wp2_with fail;refine HG.out.mono ?_;rintro e w1⟨rfl,c1⟩;obtain⟨u,C2,Jl,B,bc⟩:=ST.out w1 c1;have an:=O C2;generalize az:(h.get id).sp.leaf=lf at B d;clear c1 C2 Jl ST;have a0:ah=false∨(ah=true∧lf=false):=by
    cases ah with
    |false=>exact .inl rfl
    |true=>exact .inr ⟨rfl,by simpa using d⟩
   clear d az;rcases a0 with rfl|⟨rfl,rfl⟩;all_goals
    go_wp2_with fail;refine(HU.out u an.out).mono ?_;rintro e w3⟨uv,rfl,hI,ak,c3⟩;obtain⟨a,cap,rfl,ar,_,_⟩:=hI.row intT.hc;have HI:=O hI;have C3:=O (an.out.trans' c3);obtain⟨n0,af⟩:=Zx ((h.under id).length);have ag:=O af;rw[←af]at ar⊢;clear hI ak c3 af;go_wp2_with fail;go_loopw [7,9,27] (fun tv _ ti wr=>∃(k:Nat),ti=.int .i64 (k:Int)∧k≤n0∧Zw wr tv (((h.under id).take k).flatMap h.leaves)∧(∀j,tv.ownBlock=some j→w3.heap.size≤j)∧Qc Qb w3 wr) (fun _ _ ti _=>n0-(intOf ti).toNat);case atStart=>exact⟨0,rfl,Nat.zero_le _,Zw.nil _,nofun,Qc.refl _ _⟩
    case round=>
     obtain⟨k,rfl,hk,hA,hO,hc⟩:=hrel;have HA:=O hA;have HO:=O hO;have HC:=O hc;clear hA hO hc;by_cases be:k<n0
     ·have hd:decide ((k:Int)<(n0:Int))=true:=by simp;omega
      have aa:k<(h.under id).length:=by have:=ag.out;omega
      have ap:h.under id≠[]:=fun e=>by rw[e]at aa;simp at aa
      obtain⟨g,bd,bf,a9,hB,a8,ae,_,_⟩:=HI.out.opn ap;injection a9 with h1 h2 h3;subst h1;obtain⟨x,hx⟩:∃x,(h.under id)[k]? =some x:=⟨_,List.getElem?_eq_getElem aa⟩;have V:wr.cell? ⟨g,k,none⟩=some (.int .i64 x):=by rw[(HC.out.blk hB (fun h=>h)).cell];exact ae k x hx
      have am:x∈h.under id:=List.mem_of_getElem? hx;have HL:=O (IH.out wr F b (K.out wr (C3.out.trans' HC.out)) x (CH.out x am));have bg:IntKind.i64.wrap ((k:Int)+1)=(k:Int)+1:=by have h4:=Z.out id;have h5:=ag.out;rw[IntWalk.i64_in _ (by omega)]
      have TK:=O (show(h.under id).take (k+1)=(h.under id).take k++[x] by rw[List.take_add_one,hx];rfl);have LN:=O (show(((h.under id).take k).flatMap h.leaves).length+(h.leaves x).length≤4096+64 from by
       have h1:=Qsq h ((h.under id).take k);have h2:=Qdv h x;have h3:=J.out;have h4:=Z.out id;have h5:((h.under id).take k).length≤64:=by rw[List.length_take];omega
       have h6:((h.under id).take k).length*h.length≤64*64:=Nat.mul_le_mul h5 h3;omega)
      unfold ptr at*;clear aa ap hB a8 ae hx am h2 h3;go_wp2_with fail;refine HL.out.mono ?_;rintro e w4⟨vx,rfl,aj,aw,c4⟩;obtain⟨ax,cx,rfl,_,av,ai⟩:=aj.row intT.hc;have a1:=O ai;have C4:=O c4;have ba:=O av;clear aj aw c4 ai av HL;go_wp2_with (at_builtin;refine Jf intT rfl (.tmp 31) (.tmp 34) rfl _ (((h.under id).take k).flatMap h.leaves) rfl (Zw.keep HA.out C4.out (fun _ _ h=>h)) _ _ (h.leaves x) rfl ?a2 ?a3 ?a4 ?a5 ?a6);case a2=>exact ba.out
      case a3=>exact a1.out
      case a4=>have:=LN.out;simp only[maxLen];omega
      case a5=>have:=LN.out;omega
      case a6=>
       intro v' w5 ab au al;have C5:Hid (Qc Qb w3 w5):=O ((HC.out.trans' C4.out).trans au (fun j U=>.inr (HO.out j U)));have O5:Hid (∀j,v'.ownBlock=some j→w3.heap.size≤j):=O (fun j U=>by
        rcases al with e|e;·rw[e]at U;exact HO.out j U
        ·rw[e]at U;have e2:w4.heap.size=j:=Option.some.inj U;have:=HC.out.size;have:=C4.out.size;omega)
       have bb:=O ab;clear ab au al;go_wp2;go_roundw;case measure=>simp only[intOf];omega
       case rel=> refine⟨k+1,by rw[←Int.natCast_one,←Int.natCast_add],by omega,?_,O5.out,C5.out⟩;have:=bb.out;rw[TK.out,List.flatMap_append];simpa using this
     ·have hd:decide ((k:Int)<(n0:Int))=false:=by simp;omega
      have ac:k=(h.under id).length:=by have:=ag.out;omega
      have HS:=O (Qlo HA.out (by
       have h1:=Qsq h ((h.under id).take k);have h3:=J.out;have h4:=Z.out id;have h5:((h.under id).take k).length≤64:=by rw[List.length_take];omega
       have h6:((h.under id).take k).length*h.length≤64*64:=Nat.mul_le_mul h5 h3;omega))
      have TK:=O (show(h.under id).take k=h.under id by rw[ac,List.take_length]);clear ac;go_wp2_with fail;refine HS.out.mono ?_;rintro e w4⟨rfl,ao,c4⟩;have I:=O (And.intro ao c4);clear ao c4 HS;go_wp2;go_ret;refine⟨_,rfl,?_,?_,?_⟩;·have:=I.out.1;rw[TK.out,LS.out]at this;exact this
      ·intro j U;have:=HO.out j U;have:=C3.out.size;omega
      ·exact C3.out.trans' (HC.out.trans I.out.2 fun j U=>.inr (HO.out j U))
end
end
end Go.Proofs.YtnnhmpehkbihnaaGreat
