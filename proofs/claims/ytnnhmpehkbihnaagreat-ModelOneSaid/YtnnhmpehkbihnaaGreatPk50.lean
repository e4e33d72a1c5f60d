/- A part of the proof: no condition. -/
import Derived.Test.YtnnhmpehkbihnaaGreatPk48
namespace Go.Proofs.YtnnhmpehkbihnaaGreat
set_option linter.unusedVariables false
set_option maxRecDepth 100000
set_option maxHeartbeats 4000000
open Go.RowKit
open Go.Proofs.Tryz
section
attribute [local go_sem] Qp
attribute [local irreducible] Kl J9 Xo
attribute [local go_sem] Uq
theorem Qt.next2{w}{F:Fp}{b N:Nat}{s:Qf}(h:Qt w F b s)(ok:Xp N s)(k:N<549755813000)(t:Nat):Hi (∀w',Qc Qb w w'→Cl 16 #[.pointer (some ⟨b,0,none⟩),.int .u64 t] w' fun e d=>e=.returned (.tuple #[.agg (Bq (s.next t).1),.bool (s.next t).1.isSome])∧Qt d (Qn F w' d) b (s.next t).2∧Qc F w' d):=
 O (fun w' c=>Pg (Qt.obj.aB h c (Jl.none _)) ok k t)
theorem Qw7{l:List Int}{i:Int}{r:Nat}(h:i∈l):G4 (Dx l r) i r=true:=List.any_eq_true.2 ⟨⟨i,r⟩,Z3.2 ⟨i,h,rfl⟩,by simp[Gl.isB]⟩
theorem Qw3{s:Qf}{N t:Nat}(ok:Xp N s)(ht:t<Qq):
  ((s.next t).1=none∧(s.who t).isSome=false∧(Dx (s.opts t).1 (s.opts t).2).length=0)∨
  ∃d i r q,(s.next t).1=some d∧(s.who t).isSome=true∧d.p.cls=i∧d.rule=r∧(r=1∨r=2)∧Dx (s.opts t).1 (s.opts t).2=q∧0<q.length∧G4 q i r=true∧(r=1→q[0]? =some ⟨i,r⟩):=by
 have hs:=Qwl ok ok.sr.pick ht;cases c:s.who t with
 |none=>
  refine .inl ⟨by rw[Cs c],rfl,?_⟩;rw[Qld];have:(s.opts t).1=[]:=by apply Classical.byContradiction;intro h;obtain⟨x,u⟩:=hs.1 h;rw[c]at u;cases u
  rw[this];rfl
 |some x=>
  obtain⟨i,r⟩:=x;obtain⟨h1,k,z⟩:=Qxa ok ok.sr.pick ht c;obtain⟨k1,k2,B⟩:=Ql8 ok ht c;refine .inr ⟨s.takeC i r,i,r,_,by unfold Qf.next;rw[c],rfl,k1,k2,?_,rfl,?_,?_,fun e=>?_⟩
  ·rcases B with⟨e,_⟩|⟨e,_⟩;·exact .inl e
   ·exact .inr e
  ·rw[Qld];exact List.length_pos_of_mem k
  ·rw[h1];exact Qw7 k
  ·rw[h1];unfold Dx;rw[List.getElem?_map,z e];rfl
section
attribute [local go_sem] Qg1 Qqh
theorem Qwv(a b:Int)(w):(binOp .neq 62 (.agg #[.int .i64 a,.int .u8 b]) (.agg #[.int .i64 a,.int .u8 b])).run prog w=.ok (.bool false) w:=by go_simp
end
attribute [local go_sem ↓] Qwv
theorem Qwz(most:Int)(l:List Yy)(a:Option Addr)(cap:Nat)(W)(hl:l.length≤maxLen)(hr:Kb Yy.cells 20 W a l)(hw:∀x∈l,x.wf):
  Cl 6 #[.int .i64 most,.slice a l.length cap] W fun e w'=>e=.returned (.bool true)∧Qc Qb W w':=by
 have AW:=O (P4 W);have LG:=O (fun w=>F3 l.length a cap w);by_cases ah:150<l.length;·rw[decide_eq_true ah]at LG;clear hr hw hl;go_enter func6,ntmps6;go_wp2_with fail;refine Zy AW ?_;intro w1 c1;have C1:=O c1;clear c1;go_wp2_with fail;refine Zz (LG.o w1) ?_;rintro w2 rfl;go_wp2;go_ret;exact⟨rfl,C1.o⟩
 ·have PL:=O (fun w1(c:Qc Qb W w1)=>P5 most l a cap w1 (by omega) (hr.below c.below) hw);rw[decide_eq_false ah]at LG;clear hr hw hl;go_enter func6,ntmps6;go_wp2_with fail;refine Zy AW ?_;intro w1 c1;have C1:=O c1;clear c1;go_wp2_with fail;refine Zz (LG.o w1) ?_;rintro bl rfl;go_wp2_with fail;refine(PL.o w1 C1.o).mono ?_;rintro e w2(⟨rfl,c2⟩|⟨sb,s,now,rfl,hS,ok,a2,c2⟩);·have C2:=O (C1.o.aA c2);clear c2;go_wp2;go_ret;exact⟨rfl,C2.o⟩
  ·have C2:=O (C1.o.aA c2);have ag:=O (show∀k,Qn Qb w1 w2 k→w1.heap.size≤k from fun k d=>((Qr k).1 d).1);have aj:=O (show∀k,Qn Qb w1 w2 k→k<w2.heap.size from fun k d=>((Qr k).1 d).2);generalize Qn Qb w1 w2=J at hS ag aj;have a3:now<Qq:=by have:=Yf;omega
   have aw:=O a3;have HT:=O (show now=min now 9223372036854775807 by omega);have ba:=O hS;have bc:=O ok;have ab:Hi (∀w',Qc J w2 w'→Qc Qb W w'):=O (fun w' c=>C2.o.trans c fun k d=>.inr (by have:=ag.o k d;have:=C1.o.size;omega));clear hS ok a3 a2 c2;unfold ptr at*;go_wp2_with fail;go_loopw [7] (fun t7 wr=>∃(n:Nat)(s':Qf),t7=.int .i64 n∧n≤20∧Qt wr (Qn J w2 wr) sb s'∧Xp (2400+16*n) s'∧Qc J w2 wr) (fun t7 _=>20-(intOf t7).toNat);case atStart=>exact⟨0,s,rfl,by omega,Qt.obj.more ba.o (fun k d=>.inl d) (fun k d=>d.elim (aj.o k) (fun h=>h.2)),bc.o,Zg _ _⟩
   case round=>
    obtain⟨n,s',rfl,hn,hG,u,hc⟩:=hrel;obtain⟨V,hV⟩:=Zx wr;rw[←hV]at hG hc⊢;clear hV;have HC:=O hc;have bk:=O u;by_cases Xg:n<20
    ·have hd:decide ((n:Int)<20)=true:=by simp;omega
     have ar:=O (Qt.obj.bd hG);have ak:=hG.next2 u (by omega) now;obtain⟨A,am⟩:=hG;have HO:=O (P3 am u (by omega) now now HT.o);have HI:=O (fun w'(c:Qc Qb V w')=>P6 ((Qi.obj A).aB am c (Jl.none _)) u (by omega) now now HT.o);obtain⟨aa,E⟩:∃aa:Bool,aa=!(s'.who now).isSome:=⟨_,rfl⟩;rw[←E]at HI;have a6:=O E;clear E;have Z:=O (Qw3 u aw.o);have ax:=O (show(Dx (s'.opts now).1 (s'.opts now).2).length≤64 from by rw[Qld];exact Qwt u aw.o);have ay:=O (show Xp (2400+16*(n+1)) (s'.next now).2 from by rw[Nat.mul_add];exact u.next now);obtain⟨Fn,al⟩:∃F:Fp,F=Qn J w2 V:=⟨_,rfl⟩;rw[←al]at ak ar;have au:=O al;have R:=O Xg;clear am hc u al hn;unfold ptr at*;go_wp2_with fail;refine Zo HO ?_;rintro e w5⟨v1,rfl,hO,a4,c5⟩;have C5:=O c5;have af:=O hO;have bb:=O a4;have av:=O (HI.o w5 c5);obtain⟨a1,az,rfl,_,_,_⟩:=hO.row optT.hc;clear hO a4 c5 HO HI;unfold ptr at*;go_wp2_with fail;refine Zy av ?_;intro w6 c6;have C6:=O (C5.o.aA c6);have B:=O (af.o.aB c6 (fun _ _ h=>h));have ae:=O (ak.o w6 C6.o);clear c6 av af ak;go_wp2_with fail;refine Zy ae ?_;rintro w7⟨h7,c7⟩;obtain⟨o,ho⟩:=Zx ((s'.next now).1);rw[←ho]at Z⊢;obtain⟨W8,s8,a0,c8⟩:=Q0 (P:=prog) (vs:=Bq o) (Qh.new w7 #[.int .u64 0,.int .i64 0,.int .i64 0,.int .u64 0,.int .u8 0,.int .u64 0] 50) (Uq o) (Ga _);have D8:=O (show Qc Qb w7 W8 from((Zg Qb w7).alloc _).trans c8 fun k e=>.inr (by omega));have a5:=O a0;have z:=O ((B.o.aB c7 (fun k d hF=>by
      have h1:=bb.o k d;have h2:=ar.o k hF;omega)).aB D8.o (fun _ _ h=>h))
     have ac:Hi (∀w',Qc Qb W8 w'→Qt w' (Qn J w2 w') sb (s'.next now).2∧Qc J w2 w'):=O (fun w' c=>by
      have z1:=HC.o.size;have z2:=C6.o.size;have z3:=c7.size;have z4:=D8.o.size;have z5:=c.size;have bd:Qc J w2 w7:=(HC.o.trans C6.o (fun k h=>h.elim)).trans c7 (fun k d=>by
       rw[au.o]at d;exact d.elim .inl fun h=>.inr h.1)
      refine⟨Qt.obj.more (Qt.obj.aB (Qt.obj.aB h7 D8.o (Jl.none _)) c (Jl.none _)) (fun k d=>?_) (fun k d=>d.elim (fun h=>by have:=aj.o k h;omega) (fun h=>h.2)),(bd.trans D8.o (fun k h=>h.elim)).trans c (fun k h=>h.elim)⟩;rcases d with d|d;·rw[au.o]at d;exact d.elim .inl fun h=>.inr (by omega)
      ·exact .inr (by omega))
     clear a0 c8 h7 c7 ae B ho;have ap:=Z.o;generalize Dx (s'.opts now).1 (s'.opts now).2=q at ap z ax⊢;have an:=a6.o;generalize(s'.who now).isSome=wi at ap an;have a7:=O ax.o;rcases ap with⟨rfl,rfl,h0⟩|⟨ch,i,r,q',rfl,rfl,h1,h2,h3,rfl,h4,h5,h6⟩;·obtain rfl:aa=true:=an;rw[h0];have K:=O (ab.o _ (ac.o W8 (Zg _ _)).2);clear Z h0;go_wp2_with fail;clear s8;go_ret;exact⟨rfl,K.o⟩
     ·obtain rfl:aa=false:=an;have bj:decide ((0:Int)<(q.length:Int))=true:=by simp;omega
      have be:decide (0<q.length)=true:=by simpa using h4
      obtain⟨a8,bh,bf,_,_,ai⟩:=z.o.row optT.hc;injection bf with e1 e2 e3;subst e1;obtain⟨a9,bi,bg,_,_,I⟩:=(z.o.aB ((Zg Qb W8).drew) (fun _ _ h=>h)).row optT.hc;injection bg with e7 e8 e9;subst e7 e9;have U:=O (Qw8 q i r a1 az W8.drew (by have:=a7.o;omega) I);clear I e8;rw[←e2]at U;obtain⟨x0,ao⟩:∃x0,q[0]? =some x0:=⟨_,List.getElem?_eq_getElem h4⟩;obtain⟨g,o8,rfl,hj⟩:=ai 0 h4;rw[(Z1.1 ao).2]at hj;have g0:=hj 0 _ rfl;have g1:=hj 1 _ rfl;simp only[Nat.zero_mul,Nat.add_zero]at g0 g1;obtain⟨q0,q1,q2,q3,q4,q5⟩:=Lf (show Qh W8 w7.heap.size #[.int .u64 ch.p.id,.int .i64 ch.p.cls,.int .i64 ch.p.len,.int .u64 ch.p.at_,.int .u8 ch.rule,.int .u64 ch.due] _ from a5.o);rw[h1]at q1;rw[h2]at q4;have H5:=O h5;rw[h5]at U;have LQ:=O h4;have HX:=O (show r=1→x0=⟨i,r⟩from fun e=>by have:=h6 e;rw[ao]at this;exact Zs this);generalize q.length=nq at*;clear Z h5 h6 hj ai e2 e3 ao q0 q2 q3 q5 z h1 h2;have aq:Hi (∀w',Below W8.drew.heap.size W8.drew w'→Qt w' (Qn J w2 w') sb (s'.next now).2∧Qc J w2 w'):=O (fun w' b=>ac.o w' (((Zg Qb W8).drew).aA (Qc.ofBelow b)));rcases h3 with rfl|rfl
      ·have hx:=HX.o rfl;subst hx;go_wp2_with fail;clear s8;refine Qj [(0,0),(0,1),(0,2),(0,3),(0,4),(0,5),(0,6),(0,7),(0,8),(0,9),(0,10),(0,11),(0,12),(0,13),(0,14),(0,15),(0,16),(0,17),(0,18),(0,19),(0,20),(0,21),(2,22),(0,23),(0,24)] Zq (by kernel_rfl) (fun _ _ _ _ _ h=>h) ?_;simp only[Jk,Zf,Ze,Zd];iterate 4 (refine Jq (by kernel_rfl) (by go_simp;try rfl) ?_)
       try simp only[Act.put,Za,Zc,Zb]
       iterate 6 (refine Jq (by kernel_rfl) (by go_simp;try rfl) ?_)
       try simp only[Act.put,Za,Zc,Zb]
       iterate 6 (refine Jq (by kernel_rfl) (by go_simp;try rfl) ?_)
       try simp only[Act.put,Za,Zc,Zb]
       iterate 6 (refine Jq (by kernel_rfl) (by go_simp;try rfl) ?_)
       try simp only[Act.put,Za,Zc,Zb]
       refine J7 ?_;go_wp2_with fail;refine Zy U ?_;intro w9 b9;have K:=O (aq.o w9 b9);clear b9 q1 q4 g0 g1;go_wp2_with fail;iterate 2 (refine Jq (by kernel_rfl) (by go_simp;try rfl) ?_)
       refine Jo ?_;go_wp2_with fail;go_roundw;case measure=>simp only[intOf];have:=R.o;omega
       case rel=>exact⟨n+1,_,by rw[←Int.natCast_one,←Int.natCast_add],by have:=R.o;omega,K.o.1,ay.o,K.o.2⟩
      ·go_wp2_with fail;clear s8;refine Qj [(0,0),(0,1),(0,2),(0,3),(0,4),(0,5),(0,6),(0,7),(0,8),(0,9),(0,10),(0,11),(0,12),(0,13),(0,14),(0,15),(0,16),(0,17),(0,18),(0,19),(0,20),(0,21),(2,22),(0,23),(0,24)] Zq (by kernel_rfl) (fun _ _ _ _ _ h=>h) ?_;simp only[Jk,Zf,Ze,Zd];iterate 4 (refine Jq (by kernel_rfl) (by go_simp;try rfl) ?_)
       try simp only[Act.put,Za,Zc,Zb]
       iterate 10 (first|(refine Qs8 (by kernel_rfl) ?_)|(refine Qmz (by kernel_rfl) ?_)|(refine Qs7 (by kernel_rfl) ?_);try simp only[Act.put,Za,Zc,Zb])
       try simp only[Act.put,Za,Zc,Zb]
       iterate 8 (refine Jq (by kernel_rfl) (by go_simp;try rfl) ?_)
       try simp only[Act.put,Za,Zc,Zb]
       refine J7 ?_;go_wp2_with fail;refine Zy U ?_;intro w9 b9;have K:=O (aq.o w9 b9);clear b9 q1 q4 g0 g1;go_wp2_with fail;iterate 2 (refine Jq (by kernel_rfl) (by go_simp;try rfl) ?_)
       refine Jo ?_;go_wp2_with fail;go_roundw;case measure=>simp only[intOf];have:=R.o;omega
       case rel=>exact⟨n+1,_,by rw[←Int.natCast_one,←Int.natCast_add],by have:=R.o;omega,K.o.1,ay.o,K.o.2⟩
    ·have hd:decide ((n:Int)<20)=false:=by simp;omega
     have K:=O (ab.o V hc);clear hG hc u;go_wp2;go_ret;exact⟨rfl,K.o⟩
end
section
open Go.ChangeShapes Go.WideShapes Go.ChangeAt
theorem laidOut:laidOutB prog=true:=by kernel_rfl
theorem named_ok:Tryz.checked.prog.funcNamed Rows.modelOneRow.func=some 6:=by kernel_rfl
theorem closed:joinedFacts prog 6 f6 Rows.modelOneSpec Rows.modelOneRow=true:=by
 unfold joinedFacts;simp only[Zw];repeat' (with_reducible apply Zt)
 all_goals as_aux_lemma=>kernel_rfl
end
end Go.Proofs.YtnnhmpehkbihnaaGreat
