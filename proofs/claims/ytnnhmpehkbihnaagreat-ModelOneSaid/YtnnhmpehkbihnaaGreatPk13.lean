/- A part of the proof: no condition. -/
import Derived.Test.YtnnhmpehkbihnaaGreatPk12
import Derived.Test.YtnnhmpehkbihnaaGreatPk11
namespace Go.Proofs.YtnnhmpehkbihnaaGreat
set_option linter.unusedVariables false
set_option maxRecDepth 100000
set_option maxHeartbeats 4000000
open Go.RowKit
open Go.Proofs.Tryz
section
attribute [local go_sem] Qp
attribute [local go_sem ↓] X8 Yd
def Pq(c:Jy)(n:Int)(x:Nat)(v:Value):Array Value:=#[.int .u64 c.f,.int .u64 c.l,.int .u64 c.r,.bool true,.int .i64 n,.int .u64 x,v]
theorem Tu{w}{b:Nat}{t:TypeId}{v0 v1 v2 v3 v4 v5 v6:Value}(h:Qh w b #[v0,v1,v2,v3,v4,v5,v6] t):w.cell? ⟨b,0,none⟩=some v0∧w.cell? ⟨b,1,none⟩=some v1∧w.cell? ⟨b,2,none⟩=some v2∧w.cell? ⟨b,3,none⟩=some v3∧w.cell? ⟨b,4,none⟩=some v4∧w.cell? ⟨b,5,none⟩=some v5∧w.cell? ⟨b,6,none⟩=some v6:=by simp only[h.cell];exact⟨rfl,rfl,rfl,rfl,rfl,rfl,rfl⟩
def kV(k:Nat×Nat):Value:=.agg #[.int .u64 k.1,.int .u64 k.2]
theorem Qej(m n:Nat)(hn:n<18446744073709551616)(w)(h:m+n<340282366920938463463374607431768211456):
  Cl 256 #[.agg #[.int .u64 ((m/18446744073709551616:Nat):Int),.int .u64 ((m%18446744073709551616:Nat):Int)],.agg #[.int .u64 0,.int .u64 n]] w
   fun e w'=>e=.returned (.tuple #[Qek (m+n),.int .i64 0])∧Qc Qb w w':=by
 have:=Fg m n w h;rw[Nat.div_eq_of_lt hn,Nat.mod_eq_of_lt hn]at this;exact this
theorem Qbv{w}{b:Nat}{c:Jy}{n:Int}{x:Nat}{v:Value}(hc:c.May)(hB:Qh w b (Pq c n x v) 300)(k:Nat×Nat)(t:Nat)(hk:k.1≤t)(ht:t<18446744073709551616)(hy:k.2≤Xw):
  Cl 334 #[ptr b,kV k,.int .u64 t] w fun e w'=>e=.returned (Qek (Ug c t k))∧Qc Qb w w':=by
 obtain⟨q,u⟩:=k;have I:=Yz;dsimp only at hk hy;have hm:c.r*(t-q)≤1048576*18446744073709551616:=Nat.mul_le_mul hc.hr (by omega);have V:=O (fun w=>Dw c.r (t-q) w (by have:=hc.hr;omega) (by omega));have B:=O (fun w=>Qej (c.r*(t-q)) u (by omega) w (by omega));have e:Ug c t (q,u)=c.r*(t-q)+u:=by unfold Ug;rw[Nat.add_comm]
 rw[e];have hs:IntKind.u64.wrap ((t:Int)-(q:Int))=((t-q:Nat):Int):=by rw[IntWalk.u64_in _ (by omega)];omega
 clear hk ht hy I hm e;generalize c.r*(t-q)=p at*;generalize t-q=d at*;unfold Qek kV ptr at*;dsimp only;generalize(((p+u)/18446744073709551616:Nat):Int)=q1 at B⊢;generalize(((p+u)%18446744073709551616:Nat):Int)=q0 at B⊢;generalize((p/18446744073709551616:Nat):Int)=p1 at V B;generalize((p%18446744073709551616:Nat):Int)=p0 at V B;have B0:=O hB;have aa:=hB.lt;obtain⟨s,z⟩:=Zx (w.heap.size);have J:=O ((Qh.new w #[.int .u64 q,.int .u64 u] 369).alloc (.cells #[.int .u64 0,.int .u64 0] 291));have K:=O (Qh.new (w.alloc (.cells #[.int .u64 q,.int .u64 u] 369)) #[.int .u64 0,.int .u64 0] 291);have S0:=O ((B0.o.alloc (.cells #[.int .u64 q,.int .u64 u] 369)).alloc (.cells #[.int .u64 0,.int .u64 0] 291));have U:=O (((Zg Qb w).alloc (.cells #[.int .u64 q,.int .u64 u] 369)).alloc (.cells #[.int .u64 0,.int .u64 0] 291));simp only[World.size_alloc,←z]at J K;go_enter func334,ntmps334;go_wp2;rw[←z];obtain⟨W,hW⟩:=Zx ((w.alloc (.cells #[.int .u64 q,.int .u64 u] 369)).alloc (.cells #[.int .u64 0,.int .u64 0] 291));rw[←hW]at J K S0 U⊢;have HS:=O z;clear hW z aa;have E:=O (fun(w')(h:Qc Qb W w')=>(⟨(Tu (h.blk S0.o (fun h=>h))).2.2.1,(Q4 (h.blk J.o (fun h=>h))).1,(Q4 (h.blk J.o (fun h=>h))).2⟩:w'.cell? ⟨b,2,none⟩=some (.int .u64 c.r)∧w'.cell? ⟨s,0,none⟩=some (.int .u64 q)∧w'.cell? ⟨s,1,none⟩=some (.int .u64 u)));go_region_held3 (fun w':World=>w'.cell? ⟨b,2,none⟩=some (.int .u64 c.r)∧w'.cell? ⟨s,0,none⟩=some (.int .u64 q)∧w'.cell? ⟨s,1,none⟩=some (.int .u64 u)) (exact E.o _ (by(repeat' (first|(with_reducible first|exact Zg _ _|assumption|refine Zh ?_ _|refine Zi ?_ _|refine Zj ?_|refine Zk ?_ _ ?_|(apply Or.inl;rfl))|(apply Or.inl;simp;done)|(apply Or.inr;simp;first|done|omega))))) (first|(go_at_call 243;with_reducible refine(V.o _).mono ?_;rintro e w2⟨rfl,d2⟩;have c2:Qc Qb W w2:=Qc.aA (by(repeat' (first|(with_reducible first|exact Zg _ _|assumption|refine Zh ?_ _|refine Zi ?_ _|refine Zj ?_|refine Zk ?_ _ ?_|(apply Or.inl;rfl))|(apply Or.inl;simp;done)|(apply Or.inr;simp;first|done|omega)))) d2;have z2:=c2.size;(try(have g2:=d2.blk (Qh.new _ #[.int .u64 0,.int .u64 0] 291).drew (fun h=>h);obtain⟨u0,u1⟩:=Q4 g2;have u2:=g2.frozen));clear d2)|(go_at_call 256;with_reducible refine(B.o _).mono ?_;rintro e w3⟨rfl,R⟩;have c3:Qc Qb W w3:=Qc.aA (by(repeat' (first|(with_reducible first|exact Zg _ _|assumption|refine Zh ?_ _|refine Zi ?_ _|refine Zj ?_|refine Zk ?_ _ ?_|(apply Or.inl;rfl))|(apply Or.inl;simp;done)|(apply Or.inr;simp;first|done|omega)))) R;have z3:=c3.size;(try(first|have g3:=R.blk g2 (fun h=>h)|have g3:=R.blk (Qh.new _ #[.int .u64 0,.int .u64 0] 291) (fun h=>h));obtain⟨u3,u4⟩:=Q4 g3;have u5:=g3.frozen);clear R));all_goals have Z:=c3.blk K.o (fun h=>h)
 all_goals obtain⟨r0,r1⟩:=Q4 Z
 all_goals have r2:=Z.frozen
 all_goals have zs:=K.o.lt
 all_goals have ae:=Z.lt
 all_goals have n1:¬s+1=W.heap.size:=by omega
 all_goals have n2:¬W.heap.size=s+1:=by omega
 all_goals have n3:¬s+1=w2.heap.size:=by omega
 all_goals have n4:¬w2.heap.size=s+1:=by omega
 all_goals go_wp2
 all_goals refine bodyPost_ret (v:=.agg #[.int .u64 q1,.int .u64 q0]) ?_ rfl ⟨rfl,?_⟩
 all_goals first|(simp[*,results,Tryz.results334,go_sem];done)|skip
 all_goals have cw:=U.o.aA c3
 all_goals have ab:=HS.o
 all_goals have ac:=U.o.size
 all_goals clear r0 r1 r2 n1 n2 n3 n4
 all_goals(repeat' (first|(with_reducible first|exact Zg _ _|assumption|refine Zh ?_ _|refine Zi ?_ _|refine Zj ?_|refine Zk ?_ _ ?_|(apply Or.inl;rfl))|(apply Or.inl;simp;done)|(apply Or.inr;simp;first|done|omega)))
theorem Qee{w}{b:Nat}{c:Jy}{n:Int}{x:Nat}{v:Value}(hc:c.May)(hB:Qh w b (Pq c n x v) 300)(k:Nat×Nat)(t:Nat)(hk:k.1≤t)(ht:t<18446744073709551616)(hy:k.2≤Xw):
  Cl 333 #[ptr b,kV k,.int .u64 t] w fun e w'=>e=.returned (Qek (Hg c t k))∧Qc Qb w w':=by
 obtain⟨E,I⟩:=k;have ac:=Yz;dsimp only at hk hy;obtain⟨d,hd⟩:=Zx (t-E);obtain⟨m,hm⟩:=Zx (min d c.l);have h1:=hc.hf;have h2:=hc.hr;have h3:=hc.hl;have e:Hg c t (E,I)=c.f*m+c.r*(d-m)+I:=by unfold Hg Jy.at;rw[←hd,←hm];omega
 have hP:c.f*m≤1048576*18446744073709551616:=Nat.mul_le_mul h1 (by omega);have hQ:c.r*(d-m)≤1048576*18446744073709551616:=Nat.mul_le_mul h2 (by omega);have Z:=O (fun w=>Dw c.f m w (by omega) (by omega));have aa:=O (fun w=>Dw c.r (d-m) w (by omega) (by omega));have u:=O (fun w=>Fg (c.f*m) (c.r*(d-m)) w (by omega));have B:=O (fun w=>Qej (c.f*m+c.r*(d-m)) I (by omega) w (by omega));rw[e];have hs:IntKind.u64.wrap ((t:Int)-(E:Int))=(d:Int):=by rw[IntWalk.u64_in _ (by omega)];omega
 have aj:IntKind.u64.wrap ((d:Int)-(m:Int))=((d-m:Nat):Int):=by rw[IntWalk.u64_in _ (by omega)];omega
 have ak:min (d:Int) (c.l:Int)=(m:Int):=by omega
 clear hk ht hy ac e h1 h2 h3 hP hQ;generalize c.f*m=P at*;generalize c.r*(d-m)=Q at*;generalize d-m=d2 at*;clear hd hm;unfold Qek kV ptr at*;dsimp only;generalize(((P+Q+I)/18446744073709551616:Nat):Int)=q1 at B⊢;generalize(((P+Q+I)%18446744073709551616:Nat):Int)=q0 at B⊢;generalize(((P+Q)/18446744073709551616:Nat):Int)=s1 at u B;generalize(((P+Q)%18446744073709551616:Nat):Int)=s0 at u B;generalize((P/18446744073709551616:Nat):Int)=p1 at Z u;generalize((P%18446744073709551616:Nat):Int)=p0 at Z u;generalize((Q/18446744073709551616:Nat):Int)=r1 at aa u;generalize((Q%18446744073709551616:Nat):Int)=r0 at aa u;have B0:=O hB;have ag:=hB.lt;obtain⟨s,U⟩:=Zx (w.heap.size);have K0:=O ((Qh.new w #[.int .u64 E,.int .u64 I] 369).alloc (.cells #[.int .u64 0,.int .u64 0] 291));have R0:=O (Qh.new (w.alloc (.cells #[.int .u64 E,.int .u64 I] 369)) #[.int .u64 0,.int .u64 0] 291);have S0:=O ((B0.o.alloc (.cells #[.int .u64 E,.int .u64 I] 369)).alloc (.cells #[.int .u64 0,.int .u64 0] 291));have C0:=O (((Zg Qb w).alloc (.cells #[.int .u64 E,.int .u64 I] 369)).alloc (.cells #[.int .u64 0,.int .u64 0] 291));simp only[World.size_alloc,←U]at K0 R0;go_enter func333,ntmps333;go_wp2;rw[←U];obtain⟨W,hW⟩:=Zx ((w.alloc (.cells #[.int .u64 E,.int .u64 I] 369)).alloc (.cells #[.int .u64 0,.int .u64 0] 291));rw[←hW]at K0 R0 S0 C0⊢;have HS:=O U;clear hW U ag;have E1:=fun x=>Tu (Qk (S:=Qb) S0.o (fun h=>h) x);have E2:=fun x=>Q4 (Qk (S:=Qb) K0.o (fun h=>h) x);try dsimp only[Pq]at E1
 refine Qu [] [0,1,2,3,4,5,6,7,8,9] [10] [] (Qz (Qb) (W)) Zq (by kernel_rfl) (fun _ _ _ _ _ h=>h) (Qd (by(repeat' (first|(with_reducible first|exact Zg _ _|assumption|refine Zh ?_ _|refine Zi ?_ _|refine Zj ?_|refine Zk ?_ _ ?_|(apply Or.inl;rfl))|(apply Or.inl;simp;done)|(apply Or.inr;simp;first|done|omega))))) ?_;simp only[pick,Zf,Ze,Zd];refine Qg ?_;iterate 10 (refine Ql (fun K hK=>?_);go_simp;refine hK _ ?_;clear hK K)
 refine Qg ?_;intro _ ah;obtain⟨xo,af⟩:=ah;subst af;simp only[Jd];have J:=O (Qv Qb W xo);generalize Qz Qb W xo=W1 at J⊢;clear E1 E2;go_wp2;refine⟨Qd J.o,?_⟩;have K1:=O (J.o.blk K0.o (fun h=>h));have R1:=O (J.o.blk R0.o (fun h=>h));have S1:=O (J.o.blk S0.o (fun h=>h));have C1:=O (C0.o.aA J.o);clear K0 R0 S0 C0 J;have V:=O (fun(w')(h:Qc Qb W1 w')=>(⟨(Tu (h.blk S1.o (fun h=>h))).1,(Tu (h.blk S1.o (fun h=>h))).2.2.1,(Q4 (h.blk K1.o (fun h=>h))).1⟩:w'.cell? ⟨b,0,none⟩=some (.int .u64 c.f)∧w'.cell? ⟨b,2,none⟩=some (.int .u64 c.r)∧w'.cell? ⟨s,0,none⟩=some (.int .u64 E)));go_wp2;go_cut [8] (fun s8 wz=>∃q,s8=.pointer (some ⟨q,0,none⟩)∧W1.heap.size≤q∧Qh wz q #[.int .u64 s1,.int .u64 s0] 291∧Qc Qb W1 wz)
 case first=>
  go_region_held3 (fun w':World=>w'.cell? ⟨b,0,none⟩=some (.int .u64 c.f)∧w'.cell? ⟨b,2,none⟩=some (.int .u64 c.r)∧w'.cell? ⟨s,0,none⟩=some (.int .u64 E)) (exact V.o _ (by(repeat' (first|(with_reducible first|exact Zg _ _|assumption|refine Zh ?_ _|refine Zi ?_ _|refine Zj ?_|refine Zk ?_ _ ?_|(apply Or.inl;rfl))|(apply Or.inl;simp;done)|(apply Or.inr;simp;first|done|omega))))) (first|(go_at_call 243;with_reducible refine(Z.o _).mono ?_;rintro e w2⟨rfl,d2⟩;have c2:Qc Qb W1 w2:=Qc.aA (by(repeat' (first|(with_reducible first|exact Zg _ _|assumption|refine Zh ?_ _|refine Zi ?_ _|refine Zj ?_|refine Zk ?_ _ ?_|(apply Or.inl;rfl))|(apply Or.inl;simp;done)|(apply Or.inr;simp;first|done|omega)))) d2;have z2:=c2.size;(try(first|have g2:=d2.blk (Qh.new _ #[.int .u64 0,.int .u64 0] 291) (fun h=>h)|have g2:=d2.blk (Qh.new _ #[.int .u64 0,.int .u64 0] 291).drew (fun h=>h));obtain⟨u2,v2⟩:=Q4 g2;have f2:=g2.frozen);clear d2)|(go_at_call 243;with_reducible refine(aa.o _).mono ?_;rintro e w3⟨rfl,d3⟩;have J:Qc Qb W1 w3:=Qc.aA (by(repeat' (first|(with_reducible first|exact Zg _ _|assumption|refine Zh ?_ _|refine Zi ?_ _|refine Zj ?_|refine Zk ?_ _ ?_|(apply Or.inl;rfl))|(apply Or.inl;simp;done)|(apply Or.inr;simp;first|done|omega)))) d3;have z3:=J.size;(try(first|have g3:=d3.blk g2 (fun h=>h)|have g3:=d3.blk (Qh.new _ #[.int .u64 0,.int .u64 0] 291) (fun h=>h)|have g3:=d3.blk (Qh.new _ #[.int .u64 0,.int .u64 0] 291).drew (fun h=>h));obtain⟨u3,v3⟩:=Q4 g3;have f3:=g3.frozen);clear d3)|(go_at_call 256;with_reducible refine(u.o _).mono ?_;rintro e w4⟨rfl,d4⟩;have c4:Qc Qb W1 w4:=Qc.aA (by(repeat' (first|(with_reducible first|exact Zg _ _|assumption|refine Zh ?_ _|refine Zi ?_ _|refine Zj ?_|refine Zk ?_ _ ?_|(apply Or.inl;rfl))|(apply Or.inl;simp;done)|(apply Or.inr;simp;first|done|omega)))) d4;have z4:=c4.size;(try(first|have g4:=d4.blk g3 (fun h=>h)|have g4:=d4.blk (Qh.new _ #[.int .u64 0,.int .u64 0] 291) (fun h=>h)|have g4:=d4.blk (Qh.new _ #[.int .u64 0,.int .u64 0] 291).drew (fun h=>h));obtain⟨u4,v4⟩:=Q4 g4;have f4:=g4.frozen);clear d4));all_goals go_wp2_with fail
  all_goals go_meet
  all_goals refine⟨_,rfl,?_,?_,?_⟩
  all_goals first|exact(g4.set' 0 _ rfl).set' 1 _ rfl|exact Qh.new _ _ _|skip
  all_goals first|omega|skip
  all_goals(repeat' (first|(with_reducible first|exact Zg _ _|assumption|refine Zh ?_ _|refine Zi ?_ _|refine Zj ?_|refine Zk ?_ _ ?_|(apply Or.inl;rfl))|(apply Or.inl;simp;done)|(apply Or.inr;simp;first|done|omega)))
 case rest=>
  obtain⟨q,rfl,hq,R,z⟩:=hcut;obtain⟨W2,hW2⟩:=Zx wc;rw[←hW2]at R z⊢;clear hW2;have S2:=O (z.blk S1.o (fun h=>h));have K2:=O (z.blk K1.o (fun h=>h));have R2:=O (z.blk R1.o (fun h=>h));have C2:=O (C1.o.aA z);have Q2:=O R;have ae:s+1<q:=Nat.lt_of_lt_of_le R1.o.lt hq;have ab:=O ae;obtain⟨y0,y1⟩:=Q4 K2.o;obtain⟨y2,y3⟩:=Q4 R;clear R z V hq ae;go_wp2_with fail;with_reducible refine Zz (B.o _) ?_
  intro w5 d5;have C3:=O (C2.o.aA d5);have Q3:=O (d5.blk Q2.o (fun h=>h));have R3:=O (d5.blk R2.o (fun h=>h));clear d5 y0 y1 y2 y3;obtain⟨y2,y3⟩:=Q4 Q3.o;obtain⟨y4,y5⟩:=Q4 R3.o;have y6:=Q3.o.frozen;have y7:=R3.o.frozen;have n1:¬s+1=q:=by have:=ab.o;omega
  have n2:¬q=s+1:=by have:=ab.o;omega
  go_wp2;refine bodyPost_ret (v:=.agg #[.int .u64 q1,.int .u64 q0]) ?_ rfl ⟨rfl,?_⟩;·simp[*,results,Tryz.results333,go_sem]
  ·have cw:=C3.o;have al:=HS.o;have ai:=ab.o;clear y2 y3 y4 y5 y6 y7 n1 n2;(repeat' (first|(with_reducible first|exact Zg _ _|assumption|refine Zh ?_ _|refine Zi ?_ _|refine Zj ?_|refine Zk ?_ _ ?_|(apply Or.inl;rfl))|(apply Or.inl;simp;done)|(apply Or.inr;simp;first|done|omega)))
end
section
attribute [local go_sem] Qp
attribute [local go_sem ↓] X8 Yd
theorem Own.empty{T:Type}{cells:T→List Value}{sz:Nat}{e:TypeId}{w}{g:Nat}(h:Qh w g #[] e):Own cells sz e w (.slice (some ⟨g,0,none⟩) 0 0) ([]:List T):=
 ⟨by simp[Jm],.inr ⟨g,0,#[],rfl,Nat.zero_le _,h,Zv _,by simp[maxLen],by simp,by simp[Jm]⟩⟩
def V9(k:Nat×Nat):List Value:=[.int .u64 k.1,.int .u64 k.2]
theorem J5(k:Nat×Nat):(V9 k).length=2:=rfl
theorem startT:Qce prog V9 2 298 369 16 (0,0) where
 ht:=underlying298
 hi:=Ee (by kernel_rfl)
 pos:=by decide
 hc:=J5
 one:=by intro x u c;simp only[V9,Zu,List.not_mem_nil,or_false]at c;rcases c with rfl|rfl<;>rfl
structure Hh(w:World)(F:Fp)(b:Nat)(r:Xh):Prop where
 bd:Bd F w
 own:F b
 may:r.c.May
 sag:¬r.c.r<r.c.f
 ok:Uj r.l
 rise:Ew r.l
 ex:∃(v:Value)(K:Uw),Qh w b (Pq r.c r.l.length (Ji r.l) v) 300∧Own V9 2 369 w v K∧Ys r.c (Ji r.l) K r.l∧∀k,v.ownBlock=some k→F k∧k≠b
theorem sagP:Hf Hh where
 bd h:=h.bd
 own h:=h.own
 aB h hc hd:=⟨h.bd.later hc,h.own,h.may,h.sag,h.ok,h.rise,by
  obtain⟨v,K,h1,q,u,c⟩:=h.ex;exact⟨v,K,hc.blk h1 (hd _ h.own),q.aB hc (fun k d=>hd _ (c k d).1),u,c⟩⟩
 more h hs hb:=⟨hb,hs _ h.own,h.may,h.sag,h.ok,h.rise,by
  obtain⟨v,K,h1,q,u,c⟩:=h.ex;exact⟨v,K,h1,q,u,fun k d=>⟨hs _ (c k d).1,(c k d).2⟩⟩⟩
theorem Mq{w}{F:Fp}{b:Nat}{r:Xh}(h:Hh w F b r):Cl 335 #[ptr b] w fun e w'=>e=.returned (.bool (r.l.length==0))∧w=w':=by
 obtain⟨v,K,h1,_⟩:=h.ex;unfold ptr;obtain⟨c,a1,d,q,u,z,B⟩:=Tu h1;have e:((r.l.length:Int)==0)=(r.l.length==0):=by
  cases r.l with
  |nil=>rfl
  |cons k l=>simp;omega
 rw[←e];clear h h1 e;generalize(r.l.length:Int)=n at*;go_enter func335,ntmps335;go_wp2;go_ret;exact⟨rfl,rfl⟩
theorem Qqb(c:Jy)(hc:c.May)(z:¬c.r<c.f)(w):Cl 221 #[cV c] w fun e w'=>∃b,e=.returned (.tuple #[ptr b,.int .i64 0])∧Hh w' (Qn Qb w w') b ⟨c,[]⟩∧Qc Qb w w':=by
 have K:=O (K8 c);have J:=O (L7 c);rw[decide_eq_true hc]at K;rw[decide_eq_false z]at J;have d:∀(W w'),Qc Qb w W→w'=W.alloc (.cells (Pq c 0 0 (.slice none 0 0)) 300)→Hh w' (Qn Qb w w') W.heap.size ⟨c,[]⟩∧Qc Qb w w':=by rintro W w' hW rfl;have h1:=hW.size;refine⟨⟨fun k E=>E.elim (fun h=>h.elim) (fun h=>h.2),.inr ⟨h1,by simp⟩,hc,z,Uj.nil,.nil,_,[],Qh.new _ _ _,Own.nil _ _ _ _,⟨List.Sublist.refl _,nofun⟩,fun k E=>by simp[Value.ownBlock]at E⟩,hW.alloc _⟩
 have HF:=O d;obtain⟨f,l,r⟩:=c;unfold cV at*;dsimp only[Pq]at*;have B:=O (Qh.new w #[.int .u64 f,.int .u64 l,.int .u64 r] 38);have C:=O ((Zg Qb w).alloc (.cells #[.int .u64 f,.int .u64 l,.int .u64 r] 38));clear hc z d;go_enter func221,ntmps221;go_wp2_with fail;refine Zz (K.o _) ?_;intro w1 q;have Z:=O (C.o.aA q);have I:=O (q.blk B.o (fun h=>h));clear q;obtain⟨R,a1,U⟩:=L6 I.o;go_wp2_with fail;refine Zz (J.o _) ?_;intro w2 u;have C2:=O (Z.o.aA u);have V:=O (u.blk I.o (fun h=>h));clear u R a1 U;obtain⟨R,a1,U⟩:=L6 V.o;go_wp2;go_ret2;exact⟨_,rfl,HF.o _ _ C2.o rfl⟩
theorem Ta:prog.eqGuardType prog.depth 298=false:=by kernel_rfl
theorem Ba:prog.stoodInHeld 298=false:=by kernel_rfl
attribute [local go_sem] Ta Ba
theorem Ig(v:Value)(K:Uw)(w)(R:Own V9 2 369 w v K)(hl:K.length<1099511627776):
  Cl 332 #[v] w fun e w'=>∃v',e=.returned v'∧Own V9 2 369 w' v' K∧Qc Qb w w'∧(∀k,v'.ownBlock=some k→w.heap.size≤k)∧(v=.slice none 0 0→v'=.slice none 0 0):=by
 obtain⟨a,cap,rfl,z,h0,d⟩:=R.row startT.hc;have HR:=O d;have HK:=O R;clear d R;have E:=fun(W)=>Lib.run_eql_slice_nil (P:=prog) W 298 369 a K.length cap 0 0 underlying298;cases a with
 |none=>
  obtain rfl:=h0 rfl;have B:K.length=0:=by omega
  obtain rfl:=List.eq_nil_of_length_eq_zero B;have Z:=O (Zg Qb w);simp only[List.length_nil,Option.isNone_none]at E;clear z h0 hl B;go_enter func332,ntmps332;go_wp2;go_ret;exact⟨_,rfl,Own.nil _ _ _ _,Z.o,nofun,fun _=>rfl⟩
 |some ad=>
  clear h0;go_enter func332,ntmps332;go_wp2_with (at_builtin;refine Jj startT rfl (.tmp 5) (.tmp 6) rfl _ ([]:Uw) rfl (Own.empty (Qh.new' _ _ (by simp))) _ _ K rfl ?a2 ?a3 ?a4 ?a5 ?a6);case a2=>intro h;cases h
  case a3=>exact HR.o.aB ((Zg Qb w).alloc _) (fun _ _ h=>h)
  case a4=>simp[maxLen];omega
  case a5=>simp;omega
  case a6=>
   intro v' w1 c u I;have U:Qc Qb w w1:=((Zg Qb w).alloc (.cells #[] 369)).trans u fun j hj=>.inr (by simp[Value.ownBlock]at hj;omega);have V:∀k,v'.ownBlock=some k→w.heap.size≤k:=by
    intro k J;rcases I with h|h;·rw[h]at J;simp[Value.ownBlock]at J;omega
    ·rw[h]at J;have:=Zs J;have hz:(w.alloc (.cells #[] 369)).heap.size=w.heap.size+1:=by simp
     omega
   have q:=O (Zt c (Zt U V));clear c U V u I;go_wp2;go_ret;exact⟨_,rfl,q.o.1,q.o.2.1,q.o.2.2,nofun⟩
theorem Ys.len{c:Jy}{x:Nat}{a b:Uw}(h:Ys c x a b):a.length≤b.length:=h.1.length_le
end
section
attribute [local go_sem] Qp
attribute [local go_sem ↓] X8 Yd
theorem Qp3(c:Jy)(hc:c.May)(y:Nat):U7 c y≤Qq:=by
 have h0:=Yz;have q:=Yf;unfold U7;split;·exact Zv _
 ·cases h:c.reach y with
  |none=>exact Zv _
  |some n=>
   show n≤Qq;unfold Jy.reach at h;have d:∀a b,0<b→Tw a b≤a:=fun a b k=>(D9 k).2 (Nat.le_mul_of_pos_left a k);split at h;·cases h;omega
   ·split at h;·cases h;have:=d y c.f (Nat.pos_of_ne_zero fun h0=>by rename_i h1;rw[h0,Nat.zero_mul]at h1;omega);omega
    ·split at h;·cases h
     ·cases h;have:=d (y-c.f*c.l) c.r (by omega);have:=hc.hl;omega
theorem Qri{f:Nat×Nat→Nat}{l:Uw}{a:Nat}{k:Nat×Nat}(c:k∈l):f k≤l.foldl (fun n k=>max n (f k)) a:=((Uf l a).1 (Zv _)).2 k c
theorem Qg4{f g:Nat×Nat→Nat}(h:∀k,min Qq (f k)=min Qq (g k)):∀(l:Uw)(a b:Nat),min Qq a=min Qq b→min Qq (l.foldl (fun n k=>max n (f k)) a)=min Qq (l.foldl (fun n k=>max n (g k)) b)
 |[],a,b,e=>e
 |k::l,a,b,e=>by
  have:=h k;have c:min Qq (max a (f k))=min Qq (max b (g k)):=by omega
  exact Qg4 h l _ _ c
def atN(c:Jy)(y:Nat)(k:Nat×Nat):Nat:=k.1+U7 c (y-k.2)
theorem Qq0{c:Jy}{y:Nat}(d:y≤Xw)(k:Nat×Nat):min Qq (atN c y k)=min Qq (Rr c y k):=by
 unfold atN Rr U7;rw[if_neg (by omega)];cases c.reach (y-k.2)with
 |none=>show min Qq (k.1+Qq)=min Qq Qq;omega
 |some n=>rfl
theorem Qi4{w}{F:Fp}{b:Nat}{r:Xh}(h:Hh w F b r)(hl:r.l≠[])(hn:r.l.length<1099511627776)(y:Nat)(hy:y≤Xw)(c:Jy)(hc:c.May)
  (he:∀K,Ys r.c (Ji r.l) K r.l→∀t,Ji r.l≤t→Xb (Hg c t) K=Xb (Hg c t) r.l)(g q:Nat)(eg:∀Z w,(callFunc g Z).run prog w=.ok (.enter g Z) w)
  (hN:∀m,m≤Xw→∀w',Qc Qb w w'→Cl g #[.int .u64 m,.pointer (some ⟨q,0,none⟩)] w' fun e w2=>e=.returned (.int .u64 (U7 c m:Nat))∧Qc Qb w' w2):
  Cl 329 #[ptr b,.int .u64 y,.func (.func g) #[] #[.pointer (some ⟨q,0,none⟩)]] w fun e w'=>e=.returned (.int .u64 (Kn c r.l y:Nat))∧Qc Qb w w':=by
 have h0:=Yz;have au:=Yf;have H1:=O (Mq h);have ab:(r.l.length==0)=false:=by simpa using hl
 rw[ab]at H1;obtain⟨v,K,hB,hO,hS,_⟩:=h.ex;have aq:K≠[]:=(La (f:=Hg r.c (Ji r.l)) hS.1 hl fun k J=>by obtain⟨j,hj,d⟩:=hS.2 k J;exact⟨j,hj,(d _ (Zv _)).1⟩).1;have ac:Kn c r.l y=min Qq (K.foldl (fun n k=>max n (atN c y k)) (Ji r.l)):=by rw[←Qkr (c:=r.c) h.ok hl hS.1 (he K hS) aq];unfold Eg;rw[if_neg (by omega)];exact(Qg4 (f:=atN c y) (g:=Rr c y) (Qq0 hy) K _ _ rfl).symm
 have bb:K.length<1099511627776:=Nat.lt_of_le_of_lt hS.len hn;have ar:∀k∈K,k.1≤Qq∧k.2≤Xw:=fun k J=>⟨Zp (h.ok.rise k (hS.1.subset J)) h.ok.last,h.ok.cap k (hS.1.subset J)⟩;have B:=h.ok.last;obtain⟨ka,kc,rfl,bd,ba,ae⟩:=hO.row J5;have HR:=O ae;have a7:=O ar;have V:=O ac;have a8:=O hN;have a9:=O (Qp3 c hc);have B0:=O hB;obtain⟨U,ay⟩:=Zx (Ji r.l);rw[←ay]at B B0 V;rw[V.o];have bg:¬(4611686018427387904:Int)<(y:Int):=by omega
 have be:decide (4611686018427387904<y)=false:=by simp;omega
 obtain⟨a0,a1,a2,a3,a4,a5,a6⟩:=Tu B0.o;unfold ptr at*;clear ac ar hN ae hB hO hS h hl he ba ay ab;go_enter func329,ntmps329;go_wp2_with fail;refine Zy H1 ?_;rintro w1 rfl;go_wp2_with fail;refine Zy H1 ?_;rintro w1 rfl;go_wp2;go_loopw [7,34] (fun a i wr=>∃j:Nat,j≤K.length∧i=.int .i64 j∧a=.int .u64 ((K.take j).foldl (fun n k=>max n (atN c y k)) U:Nat)∧(K.take j).foldl (fun n k=>max n (atN c y k)) U≤Qq∧Qc Qb w wr) (fun _ i _=>K.length-(intOf i).toNat);case atStart=>exact⟨0,Nat.zero_le _,rfl,rfl,B,Zg _ _⟩
 case round=>
  obtain⟨j,hj,rfl,rfl,ha,z⟩:=hrel;have au:=Yf;by_cases Xg:j<K.length
  ·have RW:Kb V9 2 wr ka K:=HR.o.aB z (fun _ _ h=>h);obtain⟨gb,go,rfl,u⟩:=RW j Xg;have c0:=u 0 _ rfl;have c1:=u 1 _ rfl;obtain⟨k,J⟩:=Zx (K[j]);rw[←J]at c0 c1;have am:k∈K:=J▸List.getElem_mem Xg;obtain⟨aw,bh⟩:=a7.o k am;have E:(K.take (j+1)).foldl (fun n k=>max n (atN c y k)) U=max ((K.take j).foldl (fun n k=>max n (atN c y k)) U) (atN c y k):=by rw[List.take_succ_eq_append_getElem Xg,List.foldl_append,←J];rfl
   have aa:Qq≤atN c y k→min Qq (K.foldl (fun n k=>max n (atN c y k)) U)=Qq:=fun h=>by have:=Qri (f:=atN c y) (a:=U) am;omega
   have I:=O E;have ah:=O aa;have HM:=O (fun w=>Qiq y k.2 hy w);have HC:=O (a8.o (y-k.2) (by omega));have an:=a9.o (y-k.2);have av:atN c y k=k.1+U7 c (y-k.2):=rfl;rw[av]at I ah;generalize U7 c (y-k.2)=n at I ah HC an;generalize y-k.2=m at HM HC;generalize(K.take j).foldl (fun n k=>max n (atN c y k)) U=A at*;have ax:IntKind.u64.wrap ((9223372036854775808:Int)-(k.1:Int))=((9223372036854775808-k.1:Nat):Int):=by rw[IntWalk.u64_in _ (by omega)];omega
   have ak:((j+1:Nat):Int)=(j:Int)+1:=by omega
   have bf:K.length≤9223372036854775807:=by omega
   have ag:=O z;clear E aa z RW u J am av;simp only[Nat.add_zero]at c0;have BK:=O (Qh.new wr #[.int .u64 k.1,.int .u64 k.2] 369);have CK:=O (ag.o.alloc (.cells #[.int .u64 k.1,.int .u64 k.2] 369));go_wp2_with fail;with_reducible refine Zz (HM.o _) ?_
   intro w2 c2;have ao:=O (c2.blk BK.o (fun h=>h));have af:=O (CK.o.aA c2);clear c2 c0 c1 BK CK;go_wp2_with fail;refine Zz (HC.o _ af.o) ?_;intro w3 c3;have az:=O (c3.blk ao.o (fun h=>h));have ap:=O (af.o.aA c3);clear c3 ao af;obtain⟨c0,c1⟩:=Q4 az.o;have aj:=Yf;by_cases R:9223372036854775808-k.1≤n
   ·have al:decide (9223372036854775808-k.1≤n)=true:=by simpa using R
    have hr:=ah.o (by omega);rw[aj]at hr;have ai:=O hr;generalize 9223372036854775808-k.1=dd at ax al;clear hr R an ha aw aj;go_wp2;go_ret;exact⟨by rw[ai.o];rfl,ap.o⟩
   ·have al:decide (9223372036854775808-k.1≤n)=false:=by simpa using R
    have bi:IntKind.u64.wrap ((k.1:Int)+(n:Int))=((k.1+n:Nat):Int):=by rw[IntWalk.u64_in _ (by omega)];omega
    have bj:max (A:Int) ((k.1+n:Nat):Int)=((max A (k.1+n):Nat):Int):=by omega
    have hA:max A (k.1+n)≤Qq:=by omega
    have HA:=O hA;generalize 9223372036854775808-k.1=dd at ax al;generalize k.1+n=kn at*;generalize max A kn=A2 at*;clear R an ha aw aj hA;go_wp2;go_roundw;case rel=>exact⟨j+1,by omega,by rw[ak],by rw[I.o],by rw[I.o];exact HA.o,ap.o⟩
    case measure=>simp[intOf];omega
  ·have bc:j=K.length:=by omega
   subst bc;rw[List.take_length]at*;have hr:min Qq (K.foldl (fun n k=>max n (atN c y k)) U)=K.foldl (fun n k=>max n (atN c y k)) U:=by omega
   have ag:=O z;have ai:=O hr;clear hr ha au z;go_wp2;go_ret;exact⟨by rw[ai.o];rfl,ag.o⟩
theorem Qi2{w}{F:Fp}{b:Nat}{r:Xh}(h:Hh w F b r)(hl:r.l=[])(y:Nat)(c:Jy)(g q:Nat):
  Cl 329 #[ptr b,.int .u64 y,.func (.func g) #[] #[.pointer (some ⟨q,0,none⟩)]] w fun e w'=>e=.returned (.int .u64 (Kn c r.l y:Nat))∧Qc Qb w w':=by
 have d:=O (Mq h);rw[hl]at d;have e:Kn c r.l y=if y=0 then 0 else 9223372036854775808:=by unfold Kn;rw[if_pos hl]
 unfold ptr at*;dsimp only[List.length_nil]at d;rw[e];by_cases k:y=0;·subst k;clear e hl h;go_enter func329,ntmps329;go_wp2_with fail;refine Zy d ?_;rintro w1 rfl;go_wp2;go_ret;exact⟨rfl,Zg _ _⟩
 ·rw[if_neg k];have u:((y:Int)==0)=false:=by simp;omega
  clear k e hl h;go_enter func329,ntmps329;go_wp2_with fail;refine Zy d ?_;rintro w1 rfl;go_wp2_with fail;refine Zy d ?_;rintro w1 rfl;go_wp2;go_ret;exact⟨rfl,Zg _ _⟩
theorem Qi3{w}{F:Fp}{b:Nat}{r:Xh}(h:Hh w F b r)(hl:r.l≠[])(y:Nat)(k:Xw<y)(c:Jy)(g q:Nat):
  Cl 329 #[ptr b,.int .u64 y,.func (.func g) #[] #[.pointer (some ⟨q,0,none⟩)]] w fun e w'=>e=.returned (.int .u64 (Kn c r.l y:Nat))∧Qc Qb w w':=by
 have u:=O (Mq h);have d:(r.l.length==0)=false:=by simpa using hl
 rw[d]at u;have e:Kn c r.l y=9223372036854775808:=by unfold Kn;rw[if_neg hl,if_pos k]
 have B:(4611686018427387904:Int)<(y:Int):=by rw[Yz]at k;omega
 have z:decide (4611686018427387904<y)=true:=by rw[Yz]at k;simpa using k
 unfold ptr at*;rw[e];clear e hl h k d;go_enter func329,ntmps329;go_wp2_with fail;refine Zy u ?_;rintro w1 rfl;go_wp2_with fail;refine Zy u ?_;rintro w1 rfl;go_wp2;go_ret;exact⟨rfl,Zg _ _⟩
end
theorem Qft{w}{q b:Nat}{c:Jy}{n:Int}{x:Nat}{v:Value}(hc:c.May)(z:Qh w q #[.pointer (some ⟨b,0,none⟩)] 272)(k:Qh w b (Pq c n x v) 300)(m:Nat)(u:m≤Xw):
  Cl 330 #[.int .u64 m,.pointer (some ⟨q,0,none⟩)] w fun e w'=>e=.returned (.int .u64 (U7 c m:Nat))∧Qc Qb w w':=by
 have d:=O (Aw c hc m u);have J:=Jf z;obtain⟨E,a1,I,_⟩:=Tu k;unfold cV at d;clear z k u;go_enter func330,ntmps330;go_wp2_with fail;refine Zz (d.o _) ?_;intro w1 B;go_wp2;go_ret;exact⟨rfl,B⟩
theorem Qfs{w}{q:Nat}{r:Nat}(hr:r≤1048576)(k:Qh w q #[.int .u64 r] 29)(m:Nat)(d:m≤Xw):
  Cl 344 #[.int .u64 m,.pointer (some ⟨q,0,none⟩)] w fun e w'=>e=.returned (.int .u64 (U7 ⟨0,0,r⟩ m:Nat))∧Qc Qb w w':=by
 have c:=O (Aw ⟨0,0,r⟩ ⟨Nat.zero_le _,hr,Nat.zero_le _,fun _=>rfl,fun h=>(h rfl).elim⟩ m d);have z:=Jf k;unfold cV at c;clear k d hr;go_enter func344,ntmps344;go_wp2_with fail;refine Zz (c.o _) ?_;intro w1 u;go_wp2;go_ret;exact⟨rfl,u⟩
theorem Qbu{w}{F:Fp}{b:Nat}{r:Xh}(h:Hh w F b r)(hn:r.l.length<1099511627776)(y:Nat)(c:Jy)(hc:c.May)
  (z:∀K,Ys r.c (Ji r.l) K r.l→∀t,Ji r.l≤t→Xb (Hg c t) K=Xb (Hg c t) r.l)(g q:Nat)(k:∀d w,(callFunc g d).run prog w=.ok (.enter g d) w)
  (u:∀m,m≤Xw→∀w',Qc Qb w w'→Cl g #[.int .u64 m,.pointer (some ⟨q,0,none⟩)] w' fun e w2=>e=.returned (.int .u64 (U7 c m:Nat))∧Qc Qb w' w2):
  Cl 329 #[ptr b,.int .u64 y,.func (.func g) #[] #[.pointer (some ⟨q,0,none⟩)]] w fun e w'=>e=.returned (.int .u64 (Kn c r.l y:Nat))∧Qc Qb w w':=by
 by_cases hl:r.l=[];·exact Qi2 h hl y c g q
 ·by_cases B:Xw<y;·exact Qi3 h hl y B c g q
  ·exact Qi4 h hl hn y (by omega) c hc z g q k u
theorem Qi5{w}{F:Fp}{b:Nat}{r:Xh}(h:Hh w F b r)(hn:r.l.length<1099511627776)(y:Nat):
  Cl 326 #[ptr b,.int .u64 y] w fun e w'=>e=.returned (.int .u64 (r.reach y:Nat))∧Qc Qb w w':=by
 have c:=O ((Zg Qb w).alloc (.cells #[.pointer (some ⟨b,0,none⟩)] 272));have h':=sagP.aB h c.o (Jl.none F);obtain⟨v,K,d,_⟩:=h'.ex;have k:=Qh.new w #[.pointer (some ⟨b,0,none⟩)] 272;have q:=O (Qbu h' hn y r.c h.may (fun K hs t ht=>by
  by_cases hl:r.l=[];·have:K=[]:=List.sublist_nil.1 (hl▸hs.1);rw[this,hl]
  ·exact Qmf hs hl ht) 330 w.heap.size (enters_of func330 (by kernel_rfl) rfl)
  (fun m z w' hc=>Qft h.may (hc.blk k (fun h=>h)) (hc.blk d (fun h=>h)) m z))
 unfold Xh.reach;unfold ptr at*;clear k d h' h;go_enter func326,ntmps326;go_wp2_with fail;refine Zy q ?_;intro w1 u;go_wp2;go_ret;exact⟨rfl,c.o.aA u⟩
theorem Qpv(c:Jy)(t:Nat)(k:Nat×Nat):Hg ⟨0,0,c.r⟩ t k=Ug c t k:=by unfold Hg Ug Jy.at;simp
theorem Qi1{w}{F:Fp}{b:Nat}{r:Xh}(h:Hh w F b r)(hn:r.l.length<1099511627776)(y:Nat):
  Cl 342 #[ptr b,.int .u64 y] w fun e w'=>e=.returned (.int .u64 (r.elig y:Nat))∧Qc Qb w w':=by
 have q:=O ((Zg Qb w).alloc (.cells #[.int .u64 r.c.r] 29));have h':=sagP.aB h q.o (Jl.none F);have u:=Qh.new w #[.int .u64 r.c.r] 29;have c:=h.may.hr;have B:=O (Qbu h' hn y ⟨0,0,r.c.r⟩ ⟨Nat.zero_le _,c,Nat.zero_le _,fun _=>rfl,fun h=>(h rfl).elim⟩ (fun K hs t ht=>by
  by_cases hl:r.l=[];·have:K=[]:=List.sublist_nil.1 (hl▸hs.1);rw[this,hl]
  ·have e:Hg ⟨0,0,r.c.r⟩ t=Ug r.c t:=funext (Qpv r.c t);rw[e];exact Qi0 hs hl ht) 344 w.heap.size (enters_of func344 (by kernel_rfl) rfl)
  (fun m I w' hc=>Qfs c (hc.blk u (fun h=>h)) m I))
 unfold Xh.elig;rw[if_neg h.sag];obtain⟨v,K,d,_⟩:=h.ex;have z:=O d;have k:=d.lt;obtain⟨R,a1,U,_⟩:=Tu (z.o.alloc (.cells #[.int .u64 0] 29));have J:¬b=w.heap.size:=by omega
 unfold ptr at*;clear u d h' h k;go_enter func342,ntmps342;go_wp2_with fail;refine Zy B ?_;intro w1 E;go_wp2;go_ret;exact⟨rfl,q.o.aA E⟩
end Go.Proofs.YtnnhmpehkbihnaaGreat
