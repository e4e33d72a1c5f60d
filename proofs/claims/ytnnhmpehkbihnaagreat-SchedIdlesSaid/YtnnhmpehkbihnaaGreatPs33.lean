/- A part of the proof: no condition. -/
import Derived.Test.YtnnhmpehkbihnaaGreatPs30
namespace Go.Proofs.YtnnhmpehkbihnaaGreat
set_option linter.unusedVariables false
set_option maxRecDepth 100000
set_option maxHeartbeats 4000000
open Go.RowKit
open Go.Proofs.Tryz
section
attribute [local go_sem] Qp
attribute [local irreducible] Kl J9 Xo
theorem Qfl{w}{vb:Nat}{x:Int}(h:Qh w vb #[.int .i64 x] 3):Kb W7 1 w (some ⟨vb,0,none⟩) [x]:=fun j d=>by
 obtain rfl:j=0:=by simpa using d
 refine⟨vb,0,rfl,fun k u c=>?_⟩;cases k with
 |zero=>obtain rfl:=Zs c;exact Jf h
 |succ k=>cases c
section
variable{w:World}{F:Fp}{b:Nat}{h:Qm}
def Aj(w:World)(h:Qm)(i d:Int)(v:Value)(wr:World):Prop:=∃(c:List Int)(n:Nat),h.path 9 i=c++h.path n d∧Xk h d<n∧c.length+n=9∧Q6 wr v c∧(∀k,v.ownBlock=some k→w.heap.size≤k)∧Qc Qb w wr
theorem Aj.stop{i c:Int}{v:Value}{wr}(u:Aj w h i c v wr)(hn:h.at c=none):Q6 wr v (h.path 9 i)∧(∀k,v.ownBlock=some k→w.heap.size≤k)∧Qc Qb w wr:=by
 obtain⟨z,n,e,_,_,h1,d,q⟩:=u;have:h.path n c=[]:=by
  cases n with
  |zero=>rfl
  |succ n=>rw[Qm.path,hn]
 rw[e,this,List.append_nil];exact⟨h1,d,q⟩
theorem Aj.step{i u:Int}{v:Value}{wr}(ok:J8 h)(J:Aj w h i u v wr){c:Vm}(hc:h.at u=some c):∃(d:List Int),d.length<9∧Q6 wr v d∧(∀k,v.ownBlock=some k→w.heap.size≤k)∧Qc Qb w wr∧Xk h c.sp.par<Xk h u∧
  ∀v' w',Q6 w' v' (d++[u])→(∀k,v'.ownBlock=some k→w.heap.size≤k)→Qc Qb w w'→Aj w h i c.sp.par v' w':=by
 obtain⟨d,n,e,R,hl,h1,E,I⟩:=J;obtain⟨m,rfl⟩:∃m,n=m+1:=⟨n-1,by omega⟩;have z:Xk h c.sp.par<Xk h u:=by
  rcases Oq ok hc with⟨B,e1⟩|⟨q,U,_,e1⟩;·rw[B,Kr (ok.zero (by decide))];omega
  ·omega
 refine⟨d,by omega,h1,E,I,z,fun v' w' k1 k2 K=>⟨d++[u],m,?_,by omega,by simp;omega,k1,k2,K⟩⟩;rw[e,Qm.path,hc];simp
theorem Wx(ok:J8 h)(hh:Q9 w F b h)(i:Int):Cl 19 #[ptr b,.int .i64 i] w fun e w'=>∃v,e=.returned v∧Q6 w' v (h.path 9 i)∧(∀k,v.ownBlock=some k→w.heap.size≤k)∧Qc Qb w w':=by
 have HG:=O (fun w'(c:Qc Qb w w')(i:Int)=>Ob (Q9.obj.aB hh c (Jl.none _)) i);have ah:Hi (Aj w h i i (.slice none 0 0) w):=O ⟨[],9,by simp,by
  cases hc:h.at i with
  |none=>rw[Kr hc];omega
  |some c=>have:=Nl ok hc;omega,rfl,Q6.nil w,nofun,Zg _ _⟩
 have OK:=O ok;clear ok hh;unfold ptr at*;go_enter func19,ntmps19;go_wp2;refine wp_scope_jumps 0 (fun a' wr=>∃i' v u2 u3 u6 u7 u8 u9 u10 u11 u12 u13 u14 u15 u16 u17 u18 u19 u20 u21,a'={tmps:=#[.pointer (some ⟨b,0,none⟩),.int .i64 i',u2,u3,.slice none 0 0,v,u6,u7,u8,u9,u10,u11,u12,u13,u14,u15,u16,u17,u18,u19,u20,u21],defers:=[]}∧Aj w h i i' v wr)
  (fun a' _=>Xk h (intOf (a'.tmps.getD 1 undef))) rfl ?_ ?_
 ·
  have hj:=ah.o;have u:=O (Zg Qb w);have d:=O (HG.o w u.o i);cases q:h.at i with
  |none=> have ST:=O (hj.stop q);rw[q]at d;dsimp only[Option.isSome]at d;generalize(h.get i).sp=sp at d;clear hj q;go_wp2;go_step3;go_wp2_with fail;refine Zy d ?_;intro w5 U;obtain⟨z,s6,B,c6⟩:=Q0 (P:=prog) (vs:=Es sp) (Qh.new w5 Z5 40) rfl (Hl _);have R:=O (show Qc Qb w z from U.aA (((Zg Qb w5).alloc _).trans c6 fun k e=>.inr (by omega)));have FF:=O (show Q6 z (.slice none 0 0) (h.path 9 i)∧(∀k,(Value.slice none 0 0).ownBlock=some k→w.heap.size≤k)∧Qc Qb w z from⟨ST.o.1.aB R.o (fun _ _ h=>h),ST.o.2.1,u.o.aA R.o⟩);have hz:(Es sp).size=14:=rfl;generalize Es sp=al at s6 hz⊢;clear B c6 U ST;go_wp2_with fail;clear s6;simp only[Exit.jump];go_ret;exact⟨_,rfl,FF.o⟩
  |some c=>
   obtain⟨ak,ae,hI,hO,_,E,K⟩:=hj.step OK.o q;rw[q,Ec h q]at d;dsimp only[Option.isSome]at d;have HI:=O hI;have HO:=O hO;have V:=O ae;have ag:=O E;have Z:=O K;clear hj q hI hO ae E K;go_wp2;go_step3;go_wp2_with fail;refine Zy d ?_;intro w5 U;obtain⟨z,s6,B,c6⟩:=Q0 (P:=prog) (vs:=Es c.sp) (Qh.new w5 Z5 40) rfl (Hl _);have C5:=O U;have R:=O (show Qc Qb w z from U.aA (((Zg Qb w5).alloc _).trans c6 fun k e=>.inr (by omega)));have I6:=O (HI.o.aB R.o (fun _ _ h=>h));have HK:Hi (∀w7,Qc (fun k=>(Value.slice none 0 0).ownBlock=some k) (z.alloc (.cells #[.int .i64 i] 3)) w7→Qc Qb w w7∧w7.cell? ⟨w5.heap.size,1,none⟩=some (.int .i64 c.sp.par)):=O (fun w7 c7=>by
    have ai:=B.alloc (.cells #[.int .i64 i] 3);have aj:=c7.blk ai (fun I=>by
     have k1:=HI.o.lt _ I;have k2:=C5.o.size;omega)
    exact⟨((u.o.aA R.o).alloc _).trans c7 fun k I=>.inr (HO.o k I),by rw[aj.cell];rfl⟩)
   have aa:=O (Qfl (Qh.new z #[.int .i64 i] 3));have hz:(Es c.sp).size=14:=rfl;generalize Es c.sp=al at s6 hz⊢;clear B c6 U;go_wp2_with (at_builtin;refine Jj intT rfl (.tmp 15) (.tmp 17) rfl _ ak rfl (I6.o.aB ((Zg Qb z).alloc _) (fun _ _ h=>h)) _ _ [i] rfl ?a2 ?a3 ?a4 ?a5 ?a6);case a2=>exact nofun
   case a3=>exact aa.o
   case a4=>have:=V.o;simp only[maxLen,Zm,List.length_nil];omega
   case a5=>have:=V.o;simp only[Zm,List.length_nil];omega
   case a6=>
    intro v' w7 J ac af;obtain⟨k1,f1⟩:=HK.o w7 ac;have ab:=O (Z.o v' w7 J (fun k I=>by
     rcases af with e|e;·rw[e]at I;exact HO.o k I
     ·rw[e]at I;have e2:=Zs I;have z1:=u.o.size;have z2:=R.o.size;have z3:=((Zg Qb z).alloc (.cells #[.int .i64 i] 3)).size;omega) k1)
    clear J ac af k1 s6;go_wp2;go_step3;exact⟨rfl,⟨_,_,_,_,_,_,_,_,_,_,_,_,_,_,_,_,_,_,_,_,rfl,ab.o⟩⟩
 ·rintro a' wr⟨i',v,u2,u3,u6,u7,u8,u9,u10,u11,u12,u13,u14,u15,u16,u17,u18,u19,u20,u21,rfl,hj⟩;have u:=O (show Qc Qb w wr from by obtain⟨_,_,_,_,_,_,_,c⟩:=hj;exact c);have d:=O (HG.o wr u.o i');cases q:h.at i' with
  |none=> have ST:=O (hj.stop q);rw[q]at d;dsimp only[Option.isSome]at d;generalize(h.get i').sp=sp at d;clear hj q;go_wp2_with fail;refine Zy d ?_;intro w5 U;obtain⟨z,s6,B,c6⟩:=Q0 (P:=prog) (vs:=Es sp) (Qh.new w5 Z5 40) rfl (Hl _);have R:=O (show Qc Qb wr z from U.aA (((Zg Qb w5).alloc _).trans c6 fun k e=>.inr (by omega)));have FF:=O (show Q6 z v (h.path 9 i)∧(∀k,v.ownBlock=some k→w.heap.size≤k)∧Qc Qb w z from⟨ST.o.1.aB R.o (fun _ _ h=>h),ST.o.2.1,u.o.aA R.o⟩);have hz:(Es sp).size=14:=rfl;generalize Es sp=al at s6 hz⊢;clear B c6 U ST;go_wp2_with fail;clear s6;simp only[Exit.jump];go_ret;exact⟨_,rfl,FF.o⟩
  |some c=>
   obtain⟨ak,ae,hI,hO,_,E,K⟩:=hj.step OK.o q;rw[q,Ec h q]at d;dsimp only[Option.isSome]at d;have HI:=O hI;have HO:=O hO;have V:=O ae;have ag:=O E;have Z:=O K;clear hj q hI hO ae E K;go_wp2_with fail;refine Zy d ?_;intro w5 U;obtain⟨z,s6,B,c6⟩:=Q0 (P:=prog) (vs:=Es c.sp) (Qh.new w5 Z5 40) rfl (Hl _);have C5:=O U;have R:=O (show Qc Qb wr z from U.aA (((Zg Qb w5).alloc _).trans c6 fun k e=>.inr (by omega)));have I6:=O (HI.o.aB R.o (fun _ _ h=>h));have HK:Hi (∀w7,Qc (fun k=>v.ownBlock=some k) (z.alloc (.cells #[.int .i64 i'] 3)) w7→Qc Qb w w7∧w7.cell? ⟨w5.heap.size,1,none⟩=some (.int .i64 c.sp.par)):=O (fun w7 c7=>by
    have ai:=B.alloc (.cells #[.int .i64 i'] 3);have aj:=c7.blk ai (fun I=>by
     have k1:=HI.o.lt _ I;have k2:=C5.o.size;omega)
    exact⟨((u.o.aA R.o).alloc _).trans c7 fun k I=>.inr (HO.o k I),by rw[aj.cell];rfl⟩)
   have aa:=O (Qfl (Qh.new z #[.int .i64 i'] 3));have hz:(Es c.sp).size=14:=rfl;generalize Es c.sp=al at s6 hz⊢;clear B c6 U;go_wp2_with (at_builtin;refine Jj intT rfl (.tmp 15) (.tmp 17) rfl _ ak rfl (I6.o.aB ((Zg Qb z).alloc _) (fun _ _ h=>h)) _ _ [i'] rfl ?b2 ?b3 ?b4 ?b5 ?b6);case b2=>exact nofun
   case b3=>exact aa.o
   case b4=>have:=V.o;simp only[maxLen,Zm,List.length_nil];omega
   case b5=>have:=V.o;simp only[Zm,List.length_nil];omega
   case b6=>
    intro v' w7 J ac af;obtain⟨k1,f1⟩:=HK.o w7 ac;have ab:=O (Z.o v' w7 J (fun k I=>by
     rcases af with e|e;·rw[e]at I;exact HO.o k I
     ·rw[e]at I;have e2:=Zs I;have z1:=u.o.size;have z2:=R.o.size;have z3:=((Zg Qb z).alloc (.cells #[.int .i64 i'] 3)).size;omega) k1)
    clear J ac af k1 s6;go_wp2;go_step3;exact⟨rfl,⟨_,_,_,_,_,_,_,_,_,_,_,_,_,_,_,_,_,_,_,_,rfl,ab.o⟩,ag.o⟩
end
end
section
attribute [local go_sem] Qp
attribute [local irreducible] Kl J9 Xo
attribute [local go_sem] Uq
section
attribute [local go_sem] Wi Qja
theorem Rw(c:Jy)(w):(binOp .eql 38 (.agg #[.int .u64 c.f,.int .u64 c.l,.int .u64 c.r]) (.agg #[.int .u64 0,.int .u64 0,.int .u64 0])).run prog w=.ok (.bool c.none) w:=by
 obtain⟨f,l,r⟩:=c;unfold Jy.none;go_simp;by_cases h1:f=0;case neg=>simp[h1]
 by_cases d:l=0;case neg=>simp[h1,d]
 by_cases k:r=0;case neg=>simp[h1,d,k]
 simp[h1,d,k]
end
theorem Qt.nextC{w w1 w2}{b N:Nat}{s:Qf}(h:Qt w1 (Qn Qb w w1) b s)(ok:Xp N s)(u:N<549755813000)(q:Qc Qb w w1)(c:Qc Qb w1 w2)(now:Nat):
  Cl 16 #[.pointer (some ⟨b,0,none⟩),.int .u64 now] w2 fun e w'=>e=.returned (.tuple #[.agg (Bq (s.next now).1),.bool (s.next now).1.isSome])∧Qc Qb w w'∧Qc (Qn Qb w w1) w2 w':=by
 refine Zz (Pg (Qt.obj.aB h c (Jl.none _)) ok u now) ?_;rintro w3⟨_,d⟩;exact⟨rfl,(q.aA c).trans d fun k z=>.inr ((Qr k).1 z).1,d⟩
attribute [local go_sem ↓] Rw
theorem Qqz{f:Int→Bool}{l:List Int}{k:Nat}{x:Int}(c:l[k]? =some x)(b:Bool):(b||(l.take (k+1)).any f)=((b||(l.take k).any f)||f x):=by rw[List.take_add_one,c];simp[Bool.or_assoc]
theorem Q6.row1{w}{v:Value}{l:List Int}(h:Q6 w v l){S:Fp}(K:∀k,v.ownBlock=some k→¬S k):∃a cap,v=.slice a l.length cap∧l.length≤cap∧∀w',Qc S w w'→∀(i:Nat)(x:Int),l[i]? =some x→∃g,a=some ⟨g,0,none⟩∧w'.cell? ⟨g,i,none⟩=some (.int .i64 x):=by
 obtain⟨a,cap,rfl,d,_,_⟩:=h.row intT.hc;refine⟨a,cap,rfl,d,fun w' c i x B=>?_⟩;have u:l≠[]:=fun e=>by rw[e]at B;cases B
 obtain⟨g,E,I,z,J,R,q,_,_⟩:=h.opn u;injection z with h1 U V;exact⟨g,h1,by rw[(c.blk J (K g (by rw[h1];rfl))).cell];exact q i x B⟩
theorem Qe3(most:Int)(l:List Yy)(a:Option Addr)(cap:Nat)(W)(hl:l.length≤maxLen)(hr:Kb Yy.cells 20 W a l)(hw:∀x∈l,x.wf):
  Cl 5 #[.int .i64 most,.slice a l.length cap] W fun e w'=>e=.returned (.bool true)∧Qc Qb W w':=by
 have AW:=O (Rc W);have LG:=O (fun w=>F3 l.length a cap w);by_cases av:150<l.length;·rw[decide_eq_true av]at LG;clear hr hw hl;go_enter func5,ntmps5;go_wp2_with fail;refine Zy AW ?_;intro w1 c1;have C1:=O c1;clear c1;go_wp2_with fail;refine Zz (LG.o w1) ?_;rintro w2 rfl;go_wp2;go_ret;exact⟨rfl,C1.o⟩
 ·have PL:=O (fun w1(c:Qc Qb W w1)=>Te most l a cap w1 (by omega) (hr.below c.below) hw);rw[decide_eq_false av]at LG;clear hr hw hl;go_enter func5,ntmps5;go_wp2_with fail;refine Zy AW ?_;intro w1 c1;have C1:=O c1;clear c1;go_wp2_with fail;refine Zz (LG.o w1) ?_;rintro cz rfl;go_wp2_with fail;refine(PL.o w1 C1.o).mono ?_;rintro e w2⟨b9,c2⟩;have C2:=O (C1.o.aA c2);clear c2;rcases b9 with rfl|⟨gb,s,rfl,hG,ok,b3⟩;·go_wp2;go_ret;exact⟨rfl,C2.o⟩
  ·obtain⟨sb,us,now,ps,hA,b7,cp⟩:=hG;have Z:=O ok;have b8:now<Qq:=by have:=Yf;omega
   have ai:=O b8;have KA:=O (fun w'(c:Qc Qb w2 w')=>hA.aB c (Jl.none _));have ak:=O (fun(w')(c:Qc Qb w2 w')=>(show w'.cell? ⟨gb,0,none⟩=some (.pointer (some ⟨sb,0,none⟩))∧w'.cell? ⟨gb,1,none⟩=some (.int .u64 now)from⟨by rw[(c.blk hA.blk.1 (fun h=>h)).cell];rfl,by rw[(c.blk hA.blk.1 (fun h=>h)).cell];rfl⟩));have bi:=O (show Cl 12 #[.pointer (some ⟨sb,0,none⟩)] w2 fun e z=>∃t,e=.returned (.pointer (some ⟨t,0,none⟩))∧Q9 z (Qn Qb w2 z) t s.tree∧Qc Qb w2 z from by
    obtain⟨G,⟨A,J⟩,_⟩:=hA.sched;exact Uu J ok)
   have bp:Hi (∀w',Qc Qb w2 w'→Cl 18 #[.pointer (some ⟨sb,0,none⟩)] w' fun e z=>e=.returned (.int .u64 ((s.tick:Nat):Int))∧Qc Qb w' z):=O (fun w' c=>by
    obtain⟨G,⟨A,J⟩,_⟩:=(KA.o w' c).sched;exact Qbo J ok)
   have ce:Hi (∀w',Qc Qb w2 w'→Cl 15 #[.pointer (some ⟨sb,0,none⟩)] w' fun e z=>∃b',e=.returned (.pointer (some ⟨b',0,none⟩))∧Qt z (Qn Qb w' z) b' s∧Qc Qb w' z):=O (fun w' c=>(KA.o w' c).copies ok (by omega));have ci:Hi (∀w',Qc Qb w2 w'→∀i:Int,Cl 11 #[.pointer (some ⟨sb,0,none⟩),.int .i64 i] w' fun e z=>e=.returned (.tuple #[.int .i64 (s.many i),.int .i64 (s.bytes i)])∧Qc Qb w' z):=O (fun w' c i=>by
    obtain⟨G,⟨A,J⟩,_⟩:=(KA.o w' c).sched;exact Dn J ok i)
   have bq:Hi (∀w',Qc Qb w2 w'→∀i:Int,Cl 17 #[.pointer (some ⟨sb,0,none⟩),.int .i64 i] w' fun e z=>e=.returned (.tuple #[.int .u64 ((s.elig i:Nat):Int),.int .u64 ((s.due i:Nat):Int),.int .u64 ((s.fit i:Nat):Int)])∧Qc Qb w' z):=O (fun w' c i=>by
    obtain⟨G,⟨A,J⟩,_⟩:=(KA.o w' c).sched;exact Hz J ok (by omega) i)
   obtain⟨f0,_⟩:=ak.o w2 (Zg _ _);clear hA cp b3 b7 b8 ok;unfold ptr at*;go_wp2_with fail;refine Zo bi ?_;rintro e w3⟨tb,rfl,hT,c3⟩;have C3:=O c3;have HT:=O hT;have bo:=O (bp.o w3 c3);obtain⟨f1,_⟩:=ak.o w3 c3;clear hT c3 f0 bi;unfold ptr at*;go_wp2_with fail;refine Zy bo ?_;intro w4 c4;have C4:=O (C3.o.aA c4);have a2:=O (Q9.obj.aB HT.o c4 (Jl.none _));have bk:=O (fun w'(c:Qc Qb w4 w')=>Ot Z.o.tree 9 (Q9.obj.aB a2.o c (Jl.none _)) 0 (by omega));have cf:=O (fun w'(c:Qc Qb w4 w')(i:Int)=>Ob (Q9.obj.aB a2.o c (Jl.none _)) i);have ch:=O (fun w'(c:Qc Qb w4 w')(i:Int)=>Wx Z.o.tree (Q9.obj.aB a2.o c (Jl.none _)) i);have d:=O (fun(w')(c:Qc Qb w4 w')=>ak.o w' (C4.o.aA c));have U:=O (fun w'(c:Qc Qb w4 w')=>ce.o w' (C4.o.aA c));have ag:=O (fun(w' w1 w2)(b':Nat)(h:Qt w1 (Qn Qb w' w1) b' s)c1 c2 t=>h.nextC Z.o (by omega) c1 c2 (w2:=w2) t);have ae:=O (Qdy Z.o ai.o);have af:=O (fun h=>Qdy Z.o (t:=s.tick) h);have al:=O Z.o.tick_le;have ar:=O (fun h i hi=>Qro Z.o ai.o h (i:=i) hi);obtain⟨o,ho⟩:=Zx ((s.next now).1);rw[←ho]at ae ar;have HO:=O ho;generalize s.tick=R at ae af al⊢;clear c4 f1 bo bp HT C3 ho;unfold ptr at*;obtain⟨z0,z1⟩:=d.o w4 (Zg _ _);go_wp2_with fail;go_cut [9] (fun s9 wz=>s9=.bool o.isSome∧Qc Qb w4 wz)
   case first=>
    clear z0 z1;refine Ui (.lookp 0 (.lookp 1 (.lookp 2 (.lookp 3 (.lookp 5 (.lookp 6 (.lookp 7 (.lookp 8 (.fork 4 (.fork 9 (.lookp 10 (.lookp 11 (.lookp 12 (.walk 13 (.walk 14 (.walk 15 .nil)))))) 13 (.walk 9 (.look 10 (.look 11 (.lookp 12 (.walk 14 (.walk 15 .nil))))))) 13 (.walk 4 (.walk 9 (.look 10 (.look 11 (.lookp 12 (.walk 14 (.walk 15 .nil)))))))))))))))) (fun wv=>Qc (Qb) (w4) wv) Zq (by kernel_rfl) (fun _ _ _ _ _ h=>h) (by(repeat' (first|(with_reducible first|exact Zg _ _|assumption|refine Zh ?_ _|refine Zi ?_ _|refine Zj ?_|refine Zk ?_ _ ?_|(apply Or.inl;rfl))|(apply Or.inl;simp;done)|(apply Or.inr;simp;first|done|omega)))) ?_;simp only[O0,Zf,Ze,Zd];iterate 3 (first|(refine Vd (by kernel_rfl) (by go_simp;try rfl) ?_)|(refine Xi (by kernel_rfl) (fun wv hv=>by go_simp;try rfl) ?_);try simp only[Act.put,Za,Zc,Zb])
    iterate 1 (refine Xi (by kernel_rfl) (fun wv hv=>by(obtain⟨z0,z1⟩:=d.o wv hv);go_simp;try rfl) ?_;try simp only[Act.put,Za,Zc,Zb])
    iterate 3 (first|(refine Vd (by kernel_rfl) (by go_simp;try rfl) ?_)|(refine Xi (by kernel_rfl) (fun wv hv=>by go_simp;try rfl) ?_);try simp only[Act.put,Za,Zc,Zb])
    iterate 1 (refine Xi (by kernel_rfl) (fun wv hv=>by(obtain⟨z0,z1⟩:=d.o wv hv);go_simp;try rfl) ?_;try simp only[Act.put,Za,Zc,Zb])
    refine Gn ?_ ?_
    ·go_wp2_with fail;refine(U.o _ (Zg Qb w4).drew).mono ?_;rintro e w5⟨cb,rfl,J,c5⟩;have C5:=O (show Qc Qb w4 w5 from(Zg Qb w4).drew.aA c5);have D5:=O c5;have HS:=O J;clear J c5;unfold ptr at*;go_wp2_with fail;refine⟨C5.o,?_⟩;refine Gn ?_ ?_
     ·go_wp2_with fail;refine Zz (ag.o _ _ w5 _ HS.o D5.o (Zg _ _) now) ?_;rintro w6⟨c6,_⟩;rw[←HO.o];have C6:=O (show Qc Qb w4 w6 from(Zg Qb w4).drew.aA c6);clear c6;go_wp2_with fail;refine⟨C6.o,?_⟩;iterate 3 (first|(refine Vd (by kernel_rfl) (by go_simp;try rfl) ?_)|(refine Xi (by kernel_rfl) (fun wv hv=>by go_simp;try rfl) ?_);try simp only[Act.put,Za,Zc,Zb])
      refine Xt ?_;go_wp2_with fail;refine⟨C6.o.alloc _,?_⟩;obtain⟨W3,s3,I,q⟩:=Q0 (P:=prog) (vs:=Bq o) (Qh.new w6 #[.int .u64 0,.int .i64 0,.int .i64 0,.int .u64 0,.int .u8 0,.int .u64 0] 50) (Uq o) (Ga _);have D3:=O (show Qc Qb w4 W3 from(C6.o.alloc _).trans q (fun k e=>.inr (by have:=C6.o.size;omega)));clear I q;refine Xt ?_;go_wp2_with fail;refine⟨D3.o,?_⟩;refine Xt ?_;go_wp2_with fail;refine⟨D3.o,?_⟩;refine U9 ?_;clear s3;go_wp2_with fail;go_meet;exact⟨rfl,D3.o⟩
     ·go_wp2_with fail;refine⟨C5.o.alloc _,?_⟩;refine Xt ?_;go_wp2_with fail;refine Zz (ag.o _ _ (w5.alloc (.cells #[.int .u64 0,.int .i64 0,.int .i64 0,.int .u64 0,.int .u8 0,.int .u64 0] 50)) _ HS.o D5.o ((Zg _ _).alloc _) now) ?_;rintro w6⟨c6,d6⟩;rw[←HO.o];have C6:=O (show Qc Qb w4 w6 from(Zg Qb w4).drew.aA c6);obtain⟨W3,s3,I,q⟩:=Q0 (P:=prog) (vs:=Bq o) (d6.blk (Qh.new w5 #[.int .u64 0,.int .i64 0,.int .i64 0,.int .u64 0,.int .u8 0,.int .u64 0] 50) (fun hk=>by have:=((Qr _).1 hk).2;omega)) (Uq o) (Ga _);have D3:=O (show Qc Qb w4 W3 from C6.o.trans q (fun k e=>.inr (by have:=C5.o.size;omega)));clear I q c6 d6;go_wp2_with fail;refine⟨C6.o,?_⟩;iterate 3 (first|(refine Vd (by kernel_rfl) (by go_simp;try rfl) ?_)|(refine Xi (by kernel_rfl) (fun wv hv=>by go_simp;try rfl) ?_);try simp only[Act.put,Za,Zc,Zb])
      refine Xt ?_;go_wp2_with fail;refine⟨D3.o,?_⟩;refine Xt ?_;go_wp2_with fail;refine⟨D3.o,?_⟩;refine U9 ?_;clear s3;go_wp2_with fail;go_meet;exact⟨rfl,D3.o⟩
    ·go_wp2_with fail;have CA:=O ((Zg Qb w4).drew.alloc (.cells #[.int .u64 0,.int .i64 0,.int .i64 0,.int .u64 0,.int .u8 0,.int .u64 0] 50));have BA:=O (show Qh (w4.drew.alloc (.cells #[.int .u64 0,.int .i64 0,.int .i64 0,.int .u64 0,.int .u8 0,.int .u64 0] 50)) w4.heap.size #[.int .u64 0,.int .i64 0,.int .i64 0,.int .u64 0,.int .u8 0,.int .u64 0] 50 from Qh.new w4.drew _ _);refine⟨CA.o,?_⟩;refine Xt ?_;go_wp2_with fail;refine(U.o _ CA.o).mono ?_;rintro e w5⟨cb,rfl,J,c5⟩;have C5:=O (show Qc Qb w4 w5 from CA.o.aA c5);have D5:=O c5;have HS:=O J;clear J c5;unfold ptr at*;go_wp2_with fail;refine⟨C5.o,?_⟩;refine Xt ?_;go_wp2_with fail;refine Zz (ag.o _ _ w5 _ HS.o D5.o (Zg _ _) now) ?_;rintro w6⟨c6,d6⟩;rw[←HO.o];have C6:=O (show Qc Qb w4 w6 from CA.o.aA c6);obtain⟨W3,s3,I,q⟩:=Q0 (P:=prog) (vs:=Bq o) (d6.blk (D5.o.blk BA.o (fun h=>h)) (fun hk=>by have:=((Qr _).1 hk).1;have:=BA.o.lt;omega)) (Uq o) (Ga _);have D3:=O (show Qc Qb w4 W3 from C6.o.trans q (fun k e=>.inr (by omega)));clear I q c6 d6;go_wp2_with fail;refine⟨C6.o,?_⟩;iterate 3 (first|(refine Vd (by kernel_rfl) (by go_simp;try rfl) ?_)|(refine Xi (by kernel_rfl) (fun wv hv=>by go_simp;try rfl) ?_);try simp only[Act.put,Za,Zc,Zb])
     refine Xt ?_;go_wp2_with fail;refine⟨D3.o,?_⟩;refine Xt ?_;go_wp2_with fail;refine⟨D3.o,?_⟩;refine U9 ?_;clear s3;go_wp2_with fail;go_meet;exact⟨rfl,D3.o⟩
   case rest=>
    obtain⟨rfl,hc⟩:=hcut;obtain⟨V,hV⟩:=Zx wc;rw[←hV]at hc⊢;clear hV z0 z1;have HC:=O hc;obtain⟨z0,z1⟩:=d.o V hc;clear hc;by_cases ht:R≤now
    ·have e1:o.isSome=true:=by rw[ae.o];simpa using ht
     have d1:decide (R≤now)=true:=by simpa using ht
     have Xg:R<Qq:=Nat.lt_of_le_of_lt ht ai.o;have a3:=O (show(s.next R).1.isSome=true by rw[af.o Xg];simp);have d2:((R:Int)==9223372036854775808)=false:=by have:=Yf;simp;omega
     have d3:decide (R=9223372036854775808)=false:=by have:=Yf;simp;omega
     have ah:=O (fun w'(c:Qc Qb w4 w')=>(C2.o.aA C4.o).aA c);rw[e1];clear ht Xg e1 ae ar ai al af;go_wp2_with fail;refine(U.o V HC.o).mono ?_;rintro e w5⟨cb,rfl,J,c5⟩;have C5:=O c5;have HS:=O J;clear J c5;unfold ptr at*;go_wp2_with fail;refine Zz (ag.o _ _ w5 _ HS.o C5.o (Zg _ _) R) ?_;rintro w6⟨c6,_⟩;rw[a3.o];generalize(s.next R).1=o2;have C6:=O (HC.o.aA c6);obtain⟨W3,s3,I,q⟩:=Q0 (P:=prog) (vs:=Bq o2) (Qh.new w6 #[.int .u64 0,.int .i64 0,.int .i64 0,.int .u64 0,.int .u8 0,.int .u64 0] 50) (Uq o2) (Ga _);have D3:=O (show Qc Qb w4 W3 from(C6.o.alloc _).trans q (fun k e=>.inr (by have:=C6.o.size;omega)));clear I q c6 HS;go_wp2_with fail;clear s3;go_wp2;go_ret;exact⟨rfl,ah.o _ D3.o⟩
    ·have e1:o.isSome=false:=by rw[ae.o];simpa using ht
     have d1:decide (R≤now)=false:=by simpa using ht
     have br:=O (ar.o e1);have ah:=O (fun w'(c:Qc Qb w4 w')=>(C2.o.aA C4.o).aA c);rw[e1];clear ht e1 ae ar ai;go_upto_if 68 with fail;go_cut [] (fun wz=>Qc Qb w4 wz)
     case first=>
      by_cases hn:R=Qq
      ·have d2:((R:Int)==9223372036854775808)=true:=by have:=Yf;simp;omega
       have d3:decide (R=9223372036854775808)=true:=by have:=Yf;simp;omega
       have d4:¬¬R=9223372036854775808:=by have:=Yf;omega
       clear hn;go_wp2_with fail;go_meet;exact HC.o
      ·have a3:=O (show(s.next R).1.isSome=true by rw[af.o (by have:=al.o;omega)];simp);have d2:((R:Int)==9223372036854775808)=false:=by have:=Yf;simp;omega
       have d3:decide (R=9223372036854775808)=false:=by have:=Yf;simp;omega
       have d4:¬R=9223372036854775808:=by have:=Yf;omega
       clear hn af al;go_wp2_with fail;refine(U.o V HC.o).mono ?_;rintro e w5⟨cb,rfl,J,c5⟩;have C5:=O c5;have HS:=O J;clear J c5;unfold ptr at*;go_wp2_with fail;refine Zz (ag.o _ _ w5 _ HS.o C5.o (Zg _ _) R) ?_;rintro w6⟨c6,_⟩;rw[a3.o];generalize(s.next R).1=o2;have C6:=O (HC.o.aA c6);obtain⟨W3,s3,I,q⟩:=Q0 (P:=prog) (vs:=Bq o2) (Qh.new w6 #[.int .u64 0,.int .i64 0,.int .i64 0,.int .u64 0,.int .u8 0,.int .u64 0] 50) (Uq o2) (Ga _);have D3:=O (show Qc Qb w4 W3 from(C6.o.alloc _).trans q (fun k e=>.inr (by have:=C6.o.size;omega)));clear I q c6 HS;go_wp2_with fail;clear s3;go_wp2_with fail;go_meet;exact D3.o
     case rest=>
      obtain⟨V2,bz⟩:=Zx wc;rw[←bz]at hcut⊢;clear bz z0 z1 d1 af al U ag HC;have az:=O hcut;clear hcut;go_wp2_with fail;refine(bk.o V2 az.o).mono ?_;rintro e w7⟨uv,rfl,hI,_,c7⟩;have ac:=hI.cap;obtain⟨a4,cr,rfl,ax,bw⟩:=hI.row1 (S:=Qb) (fun _ _ h=>h);have B:=O (az.o.aA c7);have LV:=O bw;obtain⟨L,hL⟩:=Zx (s.tree.aI 0);have WT:=O (fun(x:Int)(hx:x∈L)(hm:¬s.many x=0)=>(show x∈s.waits from List.mem_filter.2 ⟨hL▸hx,by simpa using hm⟩));have GT:=O (fun(x:Int)(hx:x∈L)=>(show s.shareNone x=(s.tree.get x).sp.share.none from by
       rw[hL]at hx;obtain⟨c,hc,e,_⟩:=Y8.1 hx;have:=Da Z.o.tree.sorted hc;rw[e]at this;unfold Qf.shareNone;rw[this,Ec s.tree this];rfl))
      rw[←hL]at LV ax ac⊢;obtain⟨n0,ba⟩:=Zx (L.length);have cg:=O ba;rw[←ba]at ax ac⊢;have bj:=O ac;clear hI bw c7 ba hL ac bk az;go_wp2_with fail;go_loopw [13] (fun be wr=>∃i:Nat,be=.int .i64 i∧i≤n0∧Qc Qb w7 wr) (fun be _=>n0-(intOf be).toNat);case atStart=>exact⟨0,rfl,Nat.zero_le _,Zg _ _⟩
      case round=>
       obtain⟨i,rfl,hi,hc⟩:=hrel;obtain⟨V3,b0⟩:=Zx wr;rw[←b0]at hc⊢;clear b0;have u:=O hc;clear hc;by_cases b4:i<n0
       ·have ck:decide ((i:Int)<(n0:Int))=true:=by simp;omega
        have cl:decide (i<n0)=true:=by simpa using b4
        obtain⟨x,hx⟩:∃x,L[i]? =some x:=⟨_,List.getElem?_eq_getElem (by have:=cg.o;omega)⟩;have bd:x∈L:=List.mem_of_getElem? hx;obtain⟨g,rfl,an⟩:=LV.o V3 u.o i x hx;have HX:=O hx;have a1:=O (fun w'(c:Qc Qb V3 w')=>(show w'.cell? ⟨g,i,none⟩=some (.int .i64 x)from by
         obtain⟨g',e,h⟩:=LV.o w' (u.o.aA c) i x HX.o;injection e with e;injection e with e1;rw[e1];exact h))
        have HW:=O (ci.o V3.drew (C4.o.aA (B.o.aA u.o.drew)) x);obtain⟨z0,z1⟩:=d.o V3 (B.o.aA u.o);have cv:IntKind.i64.wrap ((i:Int)+1)=(i:Int)+1:=by rw[IntWalk.i64_in _ (by have:=bj.o;unfold maxLen at this;omega)]
        have i0:(0:Int)≤(i:Int):=by omega
        have i1:(i:Int)<(n0:Int):=by omega
        have au:=O (WT.o x bd);have cd:=O (GT.o x bd);generalize s.many x=mx at HW au;generalize s.bytes x=bx at HW;clear hx bd;go_wp2_with fail;refine Qj [(0,0),(0,1),(0,2),(0,3),(0,4),(0,5),(0,6),(0,7),(2,8),(0,9),(0,10),(1,11),(2,12),(2,13)] Zq (by kernel_rfl) (fun _ _ _ _ _ h=>h) ?_;simp only[Jk,Zf,Ze,Zd];iterate 8 (refine Jq (by kernel_rfl) (by go_simp;try rfl) ?_)
        refine J7 ?_;go_wp2_with fail;refine Zy HW ?_;intro w8 c8;have C8:=O (show Qc Qb V3 w8 from(Zg Qb V3).drew.aA c8);clear c8 z0 z1 an;go_wp2_with fail;iterate 2 (refine Jq (by kernel_rfl) (by go_simp;try rfl) ?_)
        (refine Q8 (by kernel_rfl) (fun wv=>by go_simp;try rfl) ?_;try simp only[Act.put,Za,Zc,Zb]);refine J7 ?_;go_wp2_with fail;refine J7 ?_;go_wp2_with fail;refine Jo ?_;by_cases hm:mx=0
        ·have b6:(mx==0)=true:=by simpa using hm
         have FF:=O (u.o.aA C8.o);clear HW au;go_wp2_with fail;go_roundw;case measure=>simp only[intOf];omega
         case rel=>exact⟨i+1,by rw[←Int.natCast_one,←Int.natCast_add],by omega,FF.o⟩
        ·have b6:(mx==0)=false:=by simpa using hm
         obtain⟨he,aa⟩:=br.o x (au.o hm);rw[cd.o]at aa;obtain⟨z0,z1⟩:=d.o w8 (B.o.aA (u.o.aA C8.o));have an:=a1.o w8 C8.o;have HT:=O (bq.o w8.drew (C4.o.aA (B.o.aA (u.o.aA C8.o).drew)) x);have co:decide (s.elig x≤now)=false:=by simpa using he
         generalize s.elig x=ea at HT co;generalize s.due x=da at HT;generalize s.fit x=fa at HT;have E:=O aa;clear HW au hm he aa;go_wp2_with fail;clear b6;refine Qj [(0,0),(0,1),(0,2),(0,3),(0,4),(0,5),(0,6),(0,7),(2,8),(0,9),(0,10),(1,11),(1,12),(2,13),(2,14),(2,15)] Zq (by kernel_rfl) (fun _ _ _ _ _ h=>h) ?_;simp only[Jk,Zf,Ze,Zd];iterate 8 (refine Jq (by kernel_rfl) (by go_simp;try rfl) ?_)
         refine J7 ?_;go_wp2_with fail;refine Zy HT ?_;intro w9 c9;have C9:=O (show Qc Qb V3 w9 from C8.o.drew.aA c9);clear c9 z0 z1 an;go_wp2_with fail;iterate 2 (refine Jq (by kernel_rfl) (by go_simp;try rfl) ?_)
         iterate 2 (refine Q8 (by kernel_rfl) (fun wv=>by go_simp;try rfl) ?_;try simp only[Act.put,Za,Zc,Zb])
         refine J7 ?_;go_wp2_with fail;refine J7 ?_;go_wp2_with fail;refine J7 ?_;go_wp2_with fail;refine Jo ?_;have an:=a1.o w9 C9.o;have HG:=O (cf.o w9 (B.o.aA (u.o.aA C9.o)) x);obtain⟨sp,ca⟩:=Zx ((s.tree.get x).sp);rw[←ca]at E HG;clear ca HT;go_wp2_with fail;refine Zy HG ?_;intro ao bt;obtain⟨W6,s6,bv,c6⟩:=Q0 (P:=prog) (vs:=Es sp) (Qh.new ao Z5 40) rfl (Hl _);have ay:=O (show Qc Qb V3 W6 from C9.o.aA (bt.aA (((Zg Qb ao).alloc _).trans c6 fun k e=>.inr (by omega))));have B6:=O bv;have b2:=a1.o W6 ay.o;have bm:=O (ch.o W6 (B.o.aA (u.o.aA ay.o)) x);have hz:(Es sp).size=14:=rfl;generalize Es sp=cx at s6 hz⊢;generalize(s.tree.at x).isSome=cw;clear bv c6 bt an HG;go_wp2_with fail;clear s6;refine Zo bm ?_;rintro e ap⟨cy,rfl,a8,_,a6⟩;have K:=a8.cap;obtain⟨a5,ct,rfl,am,aw⟩:=a8.row1 (S:=Qb) (fun _ _ h=>h);have bg:=O (ay.o.aA a6);have bs:=O aw;obtain⟨Q,hQ⟩:=Zx (s.tree.path 9 x);rw[←hQ]at bs am K E⊢;obtain⟨n1,bb⟩:=Zx (Q.length);have bl:=O bb;rw[←bb]at am K⊢;have a0:=O K;have ab:=a6.blk B6.o (fun h=>h);have s6:ap.cell? ⟨ao.heap.size,6,none⟩=some (.int .u64 sp.share.f):=ab.at 6 rfl;have s7:ap.cell? ⟨ao.heap.size,7,none⟩=some (.int .u64 sp.share.l):=ab.at 7 rfl;have s8:ap.cell? ⟨ao.heap.size,8,none⟩=some (.int .u64 sp.share.r):=ab.at 8 rfl;have bu:=Rw sp.share;obtain⟨sn,bc⟩:=Zx (sp.share.none);rw[←bc]at E bu;have SN:=O bc;clear bc;clear a8 aw a6 bb hQ K ab bm B6 b2;go_wp2_with fail;clear s6 s7 s8 bu;go_loopw [22,23] (fun cq bf wi=>∃k:Nat,bf=.int .i64 k∧k≤n1∧cq=.bool (sn||(Q.take k).any fun y=>decide (now<s.fit y))∧Qc Qb ap wi) (fun _ bf _=>n1-(intOf bf).toNat);case atStart=>exact⟨0,rfl,Nat.zero_le _,by rw[SN.o];simp,Zg _ _⟩
         case round=>
          obtain⟨k,rfl,hk,rfl,a9⟩:=hrel;obtain⟨V4,b1⟩:=Zx wr;rw[←b1]at a9⊢;clear b1;have aq:=O a9;clear a9;by_cases b5:k<n1
          ·have cm:decide ((k:Int)<(n1:Int))=true:=by simp;omega
           have cn:decide (k<n1)=true:=by simpa using b5
           obtain⟨y,hy⟩:∃y,Q[k]? =some y:=⟨_,List.getElem?_eq_getElem (by have:=bl.o;omega)⟩;obtain⟨g2,rfl,cj⟩:=bs.o V4 aq.o k y hy;have ST:=O (Qqz (f:=fun y=>decide (now<s.fit y)) hy sn);have CC:=O (show Qc Qb w4 V4 from B.o.aA (u.o.aA (bg.o.aA aq.o)));have aj:=O (bq.o V4.drew (C4.o.aA CC.o.drew) y);obtain⟨z0,z1⟩:=d.o V4 CC.o;have NC:=O (fun w'(c:Qc Qb V4 w')=>(d.o w' (CC.o.aA c)).2);have cu:IntKind.i64.wrap ((k:Int)+1)=(k:Int)+1:=by rw[IntWalk.i64_in _ (by have:=a0.o;unfold maxLen at this;omega)]
           have k0:(0:Int)≤(k:Int):=by omega
           have k1:(k:Int)<(n1:Int):=by omega
           generalize(sn||(Q.take k).any fun y=>decide (now<s.fit y))=hb at ST⊢;generalize s.elig y=e1 at aj;generalize s.due y=d1 at aj;generalize s.fit y=fy at aj ST;clear hy;go_wp2_with fail;refine Qj [(0,0),(0,1),(0,2),(0,3),(0,4),(0,5),(0,6),(0,7),(2,8),(0,9),(0,10),(1,11),(1,12),(2,13),(2,14),(2,15)] Zq (by kernel_rfl) (fun _ _ _ _ _ h=>h) ?_;simp only[Jk,Zf,Ze,Zd];iterate 8 (refine Jq (by kernel_rfl) (by go_simp;try rfl) ?_)
           refine J7 ?_;go_wp2_with fail;refine Zy aj ?_;intro cc a7;have bh:=O (show Qc Qb ap cc from aq.o.drew.aA a7);have f1:=NC.o cc ((Zg Qb V4).drew.aA a7);clear a7 z0 z1 cj aj;go_wp2_with fail;iterate 2 (refine Jq (by kernel_rfl) (by go_simp;try rfl) ?_)
           iterate 2 (refine Q8 (by kernel_rfl) (fun wv=>by go_simp;try rfl) ?_;try simp only[Act.put,Za,Zc,Zb])
           refine J7 ?_;go_wp2_with fail;refine J7 ?_;go_wp2_with fail;refine J7 ?_;go_wp2_with fail;refine Jo ?_;cases hb with
           |true=>
            go_wp2_with fail;go_roundw;case measure=>simp only[intOf];omega
            case rel=>exact⟨k+1,by rw[←Int.natCast_one,←Int.natCast_add],by omega,by rw[ST.o];rfl,bh.o⟩
           |false=>
            go_wp2_with fail;go_roundw;case measure=>simp only[intOf];omega
            case rel=>exact⟨k+1,by rw[←Int.natCast_one,←Int.natCast_add],by omega,by rw[ST.o];first|rfl|simp,bh.o⟩
          ·have cm:decide ((k:Int)<(n1:Int))=false:=by simp;omega
           have cn:decide (k<n1)=false:=by simpa using b5
           have TK:=O (show Q.take k=Q by rw[show k=n1 by omega,bl.o,List.take_length]);rw[TK.o,E.o];have CC:=O (show Qc Qb V3 V4 from bg.o.aA aq.o);obtain⟨z0,z1⟩:=d.o V4 (B.o.aA (u.o.aA CC.o));clear TK;go_wp2_with fail;go_roundw;case measure=>simp only[intOf];omega
           case rel=>exact⟨i+1,by rw[←Int.natCast_one,←Int.natCast_add],by omega,u.o.aA CC.o⟩
       ·have ck:decide ((i:Int)<(n0:Int))=false:=by simp;omega
        have cl:decide (i<n0)=false:=by simpa using b4
        have FF:=O (ah.o V3 (B.o.aA u.o));go_wp2;go_ret;exact⟨rfl,FF.o⟩
end
end Go.Proofs.YtnnhmpehkbihnaaGreat
