/- A part of the proof: no condition. -/
import Derived.Test.YtnnhmpehkbihnaaGreatPk43
import Derived.Test.YtnnhmpehkbihnaaGreatPk44
namespace Go.Proofs.YtnnhmpehkbihnaaGreat
set_option linter.unusedVariables false
set_option maxRecDepth 100000
set_option maxHeartbeats 4000000
open Go.RowKit
open Go.Proofs.Tryz
section
attribute [local go_sem] Qp
attribute [local irreducible] Kl J9 Xo
theorem Qfl{w}{vb:Nat}{x:Int}(h:Qh w vb #[.int .i64 x] 3):Kb W7 1 w (some ⟨vb,0,none⟩) [x]:=fun j d=>by
 obtain rfl:j=0:=by simpa using d
 refine⟨vb,0,rfl,fun k u c=>?_⟩;cases k with
 |zero=>obtain rfl:=Zs c;exact Jf h
 |succ k=>cases c
section
variable{w:World}{F:Fp}{b:Nat}{h:Qm}
def Aj(w:World)(h:Qm)(i d:Int)(v:Value)(wr:World):Prop:=∃(c:List Int)(n:Nat),h.path 9 i=c++h.path n d∧Xk h d<n∧c.length+n=9∧Q6 wr v c∧(∀k,v.ownBlock=some k→w.heap.size≤k)∧Qc Qb w wr
theorem Aj.stop{i c:Int}{v:Value}{wr}(u:Aj w h i c v wr)(hn:h.at c=none):Q6 wr v (h.path 9 i)∧(∀k,v.ownBlock=some k→w.heap.size≤k)∧Qc Qb w wr:=by
 obtain⟨z,n,e,_,_,h1,d,q⟩:=u;have:h.path n c=[]:=by
  cases n with
  |zero=>rfl
  |succ n=>rw[Qm.path,hn]
 rw[e,this,List.append_nil];exact⟨h1,d,q⟩
theorem Aj.step{i u:Int}{v:Value}{wr}(ok:J8 h)(J:Aj w h i u v wr){c:Vm}(hc:h.at u=some c):∃(d:List Int),d.length<9∧Q6 wr v d∧(∀k,v.ownBlock=some k→w.heap.size≤k)∧Qc Qb w wr∧Xk h c.sp.par<Xk h u∧
  ∀v' w',Q6 w' v' (d++[u])→(∀k,v'.ownBlock=some k→w.heap.size≤k)→Qc Qb w w'→Aj w h i c.sp.par v' w':=by
 obtain⟨d,n,e,R,hl,h1,E,I⟩:=J;obtain⟨m,rfl⟩:∃m,n=m+1:=⟨n-1,by omega⟩;have z:Xk h c.sp.par<Xk h u:=by
  rcases Oq ok hc with⟨B,e1⟩|⟨q,U,_,e1⟩;·rw[B,Kr (ok.zero (by decide))];omega
  ·omega
 refine⟨d,by omega,h1,E,I,z,fun v' w' k1 k2 K=>⟨d++[u],m,?_,by omega,by simp;omega,k1,k2,K⟩⟩;rw[e,Qm.path,hc];simp
theorem Wx(ok:J8 h)(hh:Q9 w F b h)(i:Int):Cl 19 #[ptr b,.int .i64 i] w fun e w'=>∃v,e=.returned v∧Q6 w' v (h.path 9 i)∧(∀k,v.ownBlock=some k→w.heap.size≤k)∧Qc Qb w w':=by
 have HG:=O (fun w'(c:Qc Qb w w')(i:Int)=>Ob (Q9.obj.aB hh c (Jl.none _)) i);have ah:Hi (Aj w h i i (.slice none 0 0) w):=O ⟨[],9,by simp,by
  cases hc:h.at i with
  |none=>rw[Kr hc];omega
  |some c=>have:=Nl ok hc;omega,rfl,Q6.nil w,nofun,Zg _ _⟩
 have OK:=O ok;clear ok hh;unfold ptr at*;go_enter func19,ntmps19;go_wp2;refine wp_scope_jumps 0 (fun a' wr=>∃i' v u2 u3 u6 u7 u8 u9 u10 u11 u12 u13 u14 u15 u16 u17 u18 u19 u20 u21,a'={tmps:=#[.pointer (some ⟨b,0,none⟩),.int .i64 i',u2,u3,.slice none 0 0,v,u6,u7,u8,u9,u10,u11,u12,u13,u14,u15,u16,u17,u18,u19,u20,u21],defers:=[]}∧Aj w h i i' v wr)
  (fun a' _=>Xk h (intOf (a'.tmps.getD 1 undef))) rfl ?_ ?_
 ·
  have hj:=ah.o;have u:=O (Zg Qb w);have d:=O (HG.o w u.o i);cases q:h.at i with
  |none=> have ST:=O (hj.stop q);rw[q]at d;dsimp only[Option.isSome]at d;generalize(h.get i).sp=sp at d;clear hj q;go_wp2;go_step3;go_wp2_with fail;refine Zy d ?_;intro w5 U;obtain⟨z,s6,B,c6⟩:=Q0 (P:=prog) (vs:=Es sp) (Qh.new w5 Z5 40) rfl (Hl _);have R:=O (show Qc Qb w z from U.aA (((Zg Qb w5).alloc _).trans c6 fun k e=>.inr (by omega)));have FF:=O (show Q6 z (.slice none 0 0) (h.path 9 i)∧(∀k,(Value.slice none 0 0).ownBlock=some k→w.heap.size≤k)∧Qc Qb w z from⟨ST.o.1.aB R.o (fun _ _ h=>h),ST.o.2.1,u.o.aA R.o⟩);have hz:(Es sp).size=14:=rfl;generalize Es sp=al at s6 hz⊢;clear B c6 U ST;go_wp2_with fail;clear s6;simp only[Exit.jump];go_ret;exact⟨_,rfl,FF.o⟩
  |some c=>
   obtain⟨ak,ae,hI,hO,_,E,K⟩:=hj.step OK.o q;rw[q,Ec h q]at d;dsimp only[Option.isSome]at d;have HI:=O hI;have HO:=O hO;have V:=O ae;have ag:=O E;have Z:=O K;clear hj q hI hO ae E K;go_wp2;go_step3;go_wp2_with fail;refine Zy d ?_;intro w5 U;obtain⟨z,s6,B,c6⟩:=Q0 (P:=prog) (vs:=Es c.sp) (Qh.new w5 Z5 40) rfl (Hl _);have C5:=O U;have R:=O (show Qc Qb w z from U.aA (((Zg Qb w5).alloc _).trans c6 fun k e=>.inr (by omega)));have I6:=O (HI.o.aB R.o (fun _ _ h=>h));have HK:Hi (∀w7,Qc (fun k=>(Value.slice none 0 0).ownBlock=some k) (z.alloc (.cells #[.int .i64 i] 3)) w7→Qc Qb w w7∧w7.cell? ⟨w5.heap.size,1,none⟩=some (.int .i64 c.sp.par)):=O (fun w7 c7=>by
    have ai:=B.alloc (.cells #[.int .i64 i] 3);have aj:=c7.blk ai (fun I=>by
     have k1:=HI.o.lt _ I;have k2:=C5.o.size;omega)
    exact⟨((u.o.aA R.o).alloc _).trans c7 fun k I=>.inr (HO.o k I),by rw[aj.cell];rfl⟩)
   have aa:=O (Qfl (Qh.new z #[.int .i64 i] 3));have hz:(Es c.sp).size=14:=rfl;generalize Es c.sp=al at s6 hz⊢;clear B c6 U;go_wp2_with (at_builtin;refine Jj intT rfl (.tmp 15) (.tmp 17) rfl _ ak rfl (I6.o.aB ((Zg Qb z).alloc _) (fun _ _ h=>h)) _ _ [i] rfl ?a2 ?a3 ?a4 ?a5 ?a6);case a2=>exact nofun
   case a3=>exact aa.o
   case a4=>have:=V.o;simp only[maxLen,Zm,List.length_nil];omega
   case a5=>have:=V.o;simp only[Zm,List.length_nil];omega
   case a6=>
    intro v' w7 J ac af;obtain⟨k1,f1⟩:=HK.o w7 ac;have ab:=O (Z.o v' w7 J (fun k I=>by
     rcases af with e|e;·rw[e]at I;exact HO.o k I
     ·rw[e]at I;have e2:=Zs I;have z1:=u.o.size;have z2:=R.o.size;have z3:=((Zg Qb z).alloc (.cells #[.int .i64 i] 3)).size;omega) k1)
    clear J ac af k1 s6;go_wp2;go_step3;exact⟨rfl,⟨_,_,_,_,_,_,_,_,_,_,_,_,_,_,_,_,_,_,_,_,rfl,ab.o⟩⟩
 ·rintro a' wr⟨i',v,u2,u3,u6,u7,u8,u9,u10,u11,u12,u13,u14,u15,u16,u17,u18,u19,u20,u21,rfl,hj⟩;have u:=O (show Qc Qb w wr from by obtain⟨_,_,_,_,_,_,_,c⟩:=hj;exact c);have d:=O (HG.o wr u.o i');cases q:h.at i' with
  |none=> have ST:=O (hj.stop q);rw[q]at d;dsimp only[Option.isSome]at d;generalize(h.get i').sp=sp at d;clear hj q;go_wp2_with fail;refine Zy d ?_;intro w5 U;obtain⟨z,s6,B,c6⟩:=Q0 (P:=prog) (vs:=Es sp) (Qh.new w5 Z5 40) rfl (Hl _);have R:=O (show Qc Qb wr z from U.aA (((Zg Qb w5).alloc _).trans c6 fun k e=>.inr (by omega)));have FF:=O (show Q6 z v (h.path 9 i)∧(∀k,v.ownBlock=some k→w.heap.size≤k)∧Qc Qb w z from⟨ST.o.1.aB R.o (fun _ _ h=>h),ST.o.2.1,u.o.aA R.o⟩);have hz:(Es sp).size=14:=rfl;generalize Es sp=al at s6 hz⊢;clear B c6 U ST;go_wp2_with fail;clear s6;simp only[Exit.jump];go_ret;exact⟨_,rfl,FF.o⟩
  |some c=>
   obtain⟨ak,ae,hI,hO,_,E,K⟩:=hj.step OK.o q;rw[q,Ec h q]at d;dsimp only[Option.isSome]at d;have HI:=O hI;have HO:=O hO;have V:=O ae;have ag:=O E;have Z:=O K;clear hj q hI hO ae E K;go_wp2_with fail;refine Zy d ?_;intro w5 U;obtain⟨z,s6,B,c6⟩:=Q0 (P:=prog) (vs:=Es c.sp) (Qh.new w5 Z5 40) rfl (Hl _);have C5:=O U;have R:=O (show Qc Qb wr z from U.aA (((Zg Qb w5).alloc _).trans c6 fun k e=>.inr (by omega)));have I6:=O (HI.o.aB R.o (fun _ _ h=>h));have HK:Hi (∀w7,Qc (fun k=>v.ownBlock=some k) (z.alloc (.cells #[.int .i64 i'] 3)) w7→Qc Qb w w7∧w7.cell? ⟨w5.heap.size,1,none⟩=some (.int .i64 c.sp.par)):=O (fun w7 c7=>by
    have ai:=B.alloc (.cells #[.int .i64 i'] 3);have aj:=c7.blk ai (fun I=>by
     have k1:=HI.o.lt _ I;have k2:=C5.o.size;omega)
    exact⟨((u.o.aA R.o).alloc _).trans c7 fun k I=>.inr (HO.o k I),by rw[aj.cell];rfl⟩)
   have aa:=O (Qfl (Qh.new z #[.int .i64 i'] 3));have hz:(Es c.sp).size=14:=rfl;generalize Es c.sp=al at s6 hz⊢;clear B c6 U;go_wp2_with (at_builtin;refine Jj intT rfl (.tmp 15) (.tmp 17) rfl _ ak rfl (I6.o.aB ((Zg Qb z).alloc _) (fun _ _ h=>h)) _ _ [i'] rfl ?b2 ?b3 ?b4 ?b5 ?b6);case b2=>exact nofun
   case b3=>exact aa.o
   case b4=>have:=V.o;simp only[maxLen,Zm,List.length_nil];omega
   case b5=>have:=V.o;simp only[Zm,List.length_nil];omega
   case b6=>
    intro v' w7 J ac af;obtain⟨k1,f1⟩:=HK.o w7 ac;have ab:=O (Z.o v' w7 J (fun k I=>by
     rcases af with e|e;·rw[e]at I;exact HO.o k I
     ·rw[e]at I;have e2:=Zs I;have z1:=u.o.size;have z2:=R.o.size;have z3:=((Zg Qb z).alloc (.cells #[.int .i64 i'] 3)).size;omega) k1)
    clear J ac af k1 s6;go_wp2;go_step3;exact⟨rfl,⟨_,_,_,_,_,_,_,_,_,_,_,_,_,_,_,_,_,_,_,_,rfl,ab.o⟩,ag.o⟩
end
section
variable{A:Tb}{w:World}{F:Fp}{b bx:Nat}{s:Qf}{N:Nat}
theorem Qfb(h:Qi A w F b s)(ok:Xp N s)(k:Qh w bx #[ptr b] 28)(y:Int):
  Cl 113 (#[.int .i64 y]++#[ptr bx]) w fun e w'=>e=.returned (.bool (decide (s.many y=0)))∧Qc Qb w w':=by
 show Cl 113 #[.int .i64 y,ptr bx] w _;have c:=O (Dn h ok y);have z:=Jf k;generalize s.many y=m at c⊢;generalize s.bytes y=q at c;unfold ptr at*;clear h ok k;go_enter func113,ntmps113;go_wp2_with fail;refine Zy c ?_;intro w1 d;have u:=O d;clear d z;go_wp2;go_ret;exact⟨rfl,u.o⟩
theorem Qqq(ok:Xp N s):s.waits.length≤64:=Zp (List.length_filter_le _ _) (Zp (Db _ _) ok.tree.many)
theorem Qh2(h:Qi A w F b s)(ok:Xp N s):Cl 54 #[ptr b] w fun e w'=>∃v,e=.returned v∧Q6 w' v s.waits∧(∀k,v.ownBlock=some k→w.heap.size≤k)∧Qc Qb w w':=by
 obtain⟨W,hW⟩:=Zx (w.alloc (.cells #[ptr b] 28));have z:Hi (Qc Qb w W):=O (by rw[hW];exact(Zg _ _).alloc _);have I:Hi (Qh W w.heap.size #[ptr b] 28):=O (by rw[hW];exact Qh.new _ _ _);have BD:=O ((Qi.obj A).bd h);have H0:=O ((Qi.obj A).aB h z.o (Jl.none F));have HC:=O (Uu H0.o ok);have HL:=O (fun(w')(G:Fp)(t:Nat)(ht:Q9 w' G t s.tree)=>Ot ok.tree 9 ht 0 (by omega));have U:=O (show(s.tree.aI 0).length≤64 from Zp (Db _ _) ok.tree.many);have TS:Hi (∀(w1)(v:Value),Qc Qb W w1→(∀k,v.ownBlock=some k→W.heap.size≤k)→Ak (fun k=>v.ownBlock=some k) w1 113 #[.pointer (some ⟨w.heap.size,0,none⟩)] fun y=>decide (s.many y=0)):=O (fun w1 v B q w2 E y=>by
  have cc:Qc (fun k=>v.ownBlock=some k) W w2:=(B.none).aA E;have z0:=I.o.lt;refine Qfb ((Qi.obj A).aB H0.o cc (fun k c e=>?_)) ok (cc.blk I.o (fun e=>?_)) y;·have:=BD.o _ c;have:=q k e;omega
  ·have:=q _ e;omega)
 have a0:=Jf I.o;unfold Qf.waits;unfold ptr at*;clear h;have OK:=O ok;clear ok;go_enter func54,ntmps54;go_wp2_with fail;rw[←hW];clear hW;refine Zo HC ?_;rintro e w1⟨t,rfl,ht,B⟩;have J:=O B;have HT:=O ht;clear B ht HC;unfold ptr at*;go_wp2_with fail;refine(HL.o _ _ _ HT.o).mono ?_;rintro e w2⟨v,rfl,V,q,E⟩;have Z:=O (J.o.aA E);have HI:=O V;have R:Hi (∀k,v.ownBlock=some k→W.heap.size≤k):=O (fun k c=>Zp J.o.size (q k c));have D2:=O (Ez V (by have:=U.o;omega) 113 #[.pointer (some ⟨w.heap.size,0,none⟩)] (enters_of func113 (by kernel_rfl) rfl) _ (TS.o w2 v Z.o R.o));clear E V q HT HL J;go_wp2_with fail;refine Zo D2 ?_;rintro e w3⟨v',rfl,d,u,c3⟩;have K:=O (Zt d (Zt (show∀k,v'.ownBlock=some k→w.heap.size≤k from fun k c=>Zp z.o.size (R.o k (u k c))) (show Qc Qb w w3 from(z.o.aA Z.o).trans c3 (fun k c=>.inr (Zp z.o.size (R.o k c))))));clear d u c3 D2;go_wp2;go_ret;exact⟨_,rfl,K.o⟩
def Qun(w:World)(g:FuncId)(c:Array Value)(f:Int→Nat):Prop:=
 ∀w',Qc Qb w w'→∀y,Cl g (#[.int .i64 y]++c) w' fun e d=>e=.returned (.int .u64 ((f y:Nat):Int))∧Qc Qb w' d
theorem Qks{f:Int→Nat}{l:List Int}{k:Nat}{x:Int}(d:l[k]? =some x)(c:Nat×List Int):(l.take (k+1)).foldl (Kx f) c=Kx f ((l.take k).foldl (Kx f) c) x:=by rw[List.take_add_one,d,List.foldl_append];rfl
theorem Qaf(f:Int→Nat):∀(l:List Int)(c:Nat×List Int),(l.foldl (Kx f) c).2.length≤c.2.length+l.length
 |[],c=>by simp
 |x::l,c=>by
  rw[List.foldl_cons];refine Zp (Qaf f l _) ?_;have:(Kx f c x).2.length≤c.2.length+1:=by
   unfold Kx;split;·simp
   ·split;·simp
    ·omega
  simp only[Zm];omega
theorem Ic{w}{v:Value}{l:List Int}(h:Q6 w v l)(hl:l.length<1099511627776)(g:FuncId)(V:Array Value)(eg:∀U w,(callFunc g U).run prog w=.ok (.enter g U) w)(f:Int→Nat)(hf:Qun w g V f):
  Cl 57 #[v,.func (.func g) #[] V] w fun e w'=>∃v',e=.returned v'∧Q6 w' v' (Kt f l)∧(∀k,v'.ownBlock=some k→w.heap.size≤k)∧Qc Qb w w':=by
 have HF:=O hf;obtain⟨n,hn⟩:=Zx (l.length);have af:=O hn;obtain⟨a,cap,hv,J,B⟩:∃a cap,v=.slice a n cap∧(∀w',Qc Qb w w'→∀(k:Nat)(y:Int),l[k]? =some y→∃g,a=some ⟨g,0,none⟩∧w'.cell? ⟨g,k,none⟩=some (.int .i64 y))∧n≤cap:=by
  by_cases h0:l=[];·subst h0;obtain⟨a,cap,hv,B,_⟩:=h.row intT.hc;exact⟨a,cap,by rw[hv,hn],fun w' _ k y e=>(by cases e),by rw[hn];exact B⟩
  ·obtain⟨g,cap,ar,hv,hB,a7,ai,B,_⟩:=h.opn h0;exact⟨_,cap,by rw[hv,hn],fun w' c k y e=>⟨g,rfl,by rw[(c.blk hB (fun h=>h)).cell];exact ai k y e⟩,by rw[hn];exact B⟩
 subst hv;have ae:=O J;have ay:n<1099511627776:=by omega
 unfold Kt;clear h hn J hl hf;go_enter func57,ntmps57;go_wp2_with fail;go_loopw [5,6,12] (fun tv tb ix wr=>∃(i:Nat)(st:Nat×List Int),ix=.int .i64 i∧st=(l.take i).foldl (Kx f) (18446744073709551615,[])∧tb=.int .u64 st.1∧Q6 wr tv st.2∧(∀k,tv.ownBlock=some k→w.heap.size≤k)∧Qc Qb w wr∧i≤n) (fun _ _ ix _=>n-(intOf ix).toNat);case atStart=>exact⟨0,_,rfl,rfl,rfl,Q6.nil _,nofun,Zg _ _,Nat.zero_le _⟩
 case round=>
  obtain⟨i,st,rfl,al,rfl,hI,hO,hc,ax⟩:=hrel;obtain⟨q,out⟩:=st;have ab:=O al;have HI:=O hI;have HO:=O hO;have u:=O hc;clear al;by_cases aw:i<n
  ·have hd:decide ((i:Int)<(n:Int))=true:=by simp;omega
   have ak:i<l.length:=by have:=af.o;omega
   obtain⟨y,hy⟩:∃y,l[i]? =some y:=⟨_,List.getElem?_eq_getElem ak⟩;obtain⟨g,rfl,ac⟩:=ae.o wr u.o i y hy;have HC:=O (HF.o wr u.o y);have d:=O (show(l.take (i+1)).foldl (Kx f) (18446744073709551615,[])=Kx f (q,out) y from by rw[Qks hy,←ab.o]);have OL:=O (show out.length≤n from by
    have h1:=Qaf f (l.take i) (18446744073709551615,[]);rw[←ab.o]at h1;have h2:(l.take i).length≤i:=by simp;omega
    simp only[List.length_nil]at h1;omega)
   have au:IntKind.i64.wrap ((i:Int)+1)=(i:Int)+1:=by rw[IntWalk.i64_in _ (by omega)]
   obtain⟨ao,co,rfl,av,_,_⟩:=hI.row intT.hc;have az:out.length<1099511627776:=by have:=OL.o;omega
   clear hy ak hI hO hc;unfold Kx at d;dsimp only at d;obtain⟨I,aj⟩:=Zx (f y);rw[←aj]at HC d;clear aj;have K:=O (fun w'(c:Qc Qb wr w')=>HI.o.aB c (fun k _ h=>h));by_cases Z:I<q∨out=[]
   ·rw[if_pos Z]at d;have R:Hi (∀w1,Qc Qb wr w1→Q6 (w1.alloc (.cells #[.int .i64 y] 3)) (.slice (some ⟨w1.heap.size,0,none⟩) 1 1) [y]∧(∀k,(Value.slice (some ⟨w1.heap.size,0,none⟩) 1 1).ownBlock=some k→w.heap.size≤k)∧Qc Qb w (w1.alloc (.cells #[.int .i64 y] 3))):=O (fun w1 E=>by
     refine⟨Q6.mk (l:=[y]) (Qh.new w1 #[.int .i64 y] 3) rfl (Zv _) (by decide) (fun k z hk=>?_),fun k hk=>?_,(u.o.aA E).alloc _⟩
     ·cases k with
      |zero=>obtain rfl:=Zs hk;rfl
      |succ k=>cases hk
     ·have e:w1.heap.size=k:=Zs hk;have:=u.o.size;have:=E.size;omega)
    have hp:(decide (I<q)=true)∨(decide (I<q)=false∧((out.length:Int)==0)=true):=by
     rcases Z with h|h;·exact .inl (by simpa using h)
     ·by_cases h2:I<q;·exact .inl (by simpa using h2)
      ·exact .inr ⟨by simpa using h2,by simp[h]⟩
    clear Z K;rcases hp with hp|⟨hp,ap⟩;all_goals
     go_wp2_with fail;refine Zy HC ?_;intro w1 E;have NN:=O (R.o w1 E);clear E ac R;go_wp2;go_roundw;case measure=>simp only[intOf];omega
     case rel=>exact⟨i+1,_,by rw[←Int.natCast_one,←Int.natCast_add],d.o.symm,rfl,NN.o.1,NN.o.2.1,NN.o.2.2,by omega⟩
   ·rw[if_neg Z]at d;have a0:decide (I<q)=false:=by have:¬I<q:=fun h=>Z (.inl h);simpa using this
    have ap:((out.length:Int)==0)=false:=by have h2:out≠[]:=fun h=>Z (.inr h);have:=List.length_pos_iff.2 h2;simp;omega
    by_cases hB:I=q
    ·rw[if_pos hB]at d;subst hB;have aq:((I:Int)==(I:Int))=true:=by simp
     have ag:=O (fun(w1)=>Qfl (Qh.new w1 #[.int .i64 y] 3));clear Z;go_wp2_with fail;refine Zy HC ?_;intro w1 E;have C1:=O E;clear E ac;go_wp2_with (at_builtin;refine Jj intT rfl (.tmp 35) (.tmp 37) rfl _ out rfl ((K.o w1 C1.o).aB ((Zg Qb w1).alloc _) (fun _ _ h=>h)) _ _ [y] rfl ?a2 ?a3 ?a4 ?a5 ?a6);case a2=>exact nofun
     case a3=>exact ag.o w1
     case a4=>have:=OL.o;simp only[maxLen,Zm,List.length_nil];omega
     case a5=>have:=OL.o;simp only[Zm,List.length_nil];omega
     case a6=>
      intro v' w5 aa ah am;have C5:Hi (Qc Qb w w5):=O (((u.o.aA C1.o).alloc _).trans ah (fun j hj=>.inr (HO.o j hj)));have O5:Hi (∀j,v'.ownBlock=some j→w.heap.size≤j):=O (fun j hj=>by
       rcases am with e|e;·rw[e]at hj;exact HO.o j hj
       ·rw[e]at hj;have e2:=Zs hj;have:=u.o.size;have:=C1.o.size;have:=((Zg Qb w1).alloc (.cells #[.int .i64 y] 3)).size;omega)
      have an:=O aa;clear aa ah am;go_wp2;go_roundw;case measure=>simp only[intOf];omega
      case rel=>exact⟨i+1,_,by rw[←Int.natCast_one,←Int.natCast_add],d.o.symm,rfl,an.o,O5.o,C5.o,by omega⟩
    ·rw[if_neg hB]at d;have aq:((I:Int)==(q:Int))=false:=by simp;omega
     have a1:decide (I=q)=false:=by simpa using hB
     clear Z hB;go_wp2_with fail;refine Zy HC ?_;intro w1 E;have NN:=O (Zt (K.o w1 E) (u.o.aA E));clear E ac K;go_wp2;go_roundw;case measure=>simp only[intOf];omega
     case rel=>exact⟨i+1,_,by rw[←Int.natCast_one,←Int.natCast_add],d.o.symm,rfl,NN.o.1,HO.o,NN.o.2,by omega⟩
  ·have hd:decide ((i:Int)<(n:Int))=false:=by simp;omega
   have TK:=O (show l.take i=l by rw[show i=l.length from by have:=af.o;omega,List.take_length]);go_wp2;go_ret;refine⟨_,rfl,?_,HO.o,u.o⟩;have:=ab.o;rw[TK.o]at this;rw[←this];exact HI.o
end
section
variable{A:Tb}{w:World}{F:Fp}{b bx bn:Nat}{s:Qf}{N t:Nat}
theorem Qk1(h:Qi A w F b s)(ok:Xp N s)(I:N<549755813000)(u:Qh w bx #[ptr b] 28)(hn:Qh w bn #[.int .u64 t] 29)(y:Int):
  Cl 55 (#[.int .i64 y]++#[ptr bx,ptr bn]) w fun e w'=>e=.returned (.bool (decide (t<s.elig y)))∧Qc Qb w w':=by
 show Cl 55 #[.int .i64 y,ptr bx,ptr bn] w _;have d:=O (Hz h ok I y);have E:=Jf u;have B:=O (fun w'(c:Qc Qb w w')=>Jf (c.blk hn (fun h=>h)));generalize s.elig y=m at d⊢;generalize s.due y=q at d;generalize s.fit y=r at d;unfold ptr at*;clear h ok u hn;go_enter func55,ntmps55;go_wp2_with fail;refine Zy d ?_;intro w1 k;have z:=O k;have J:=B.o w1 k;clear k E;go_wp2;go_ret;exact⟨by simp,z.o⟩
theorem Qhz(h:Qi A w F b s)(ok:Xp N s)(I:N<549755813000)(u:Qh w bx #[ptr b] 28)(hn:Qh w bn #[.int .u64 t] 29)(y:Int):
  Cl 117 (#[.int .i64 y]++#[ptr bx,ptr bn]) w fun e w'=>e=.returned (.bool (decide (t<s.fit y)))∧Qc Qb w w':=by
 show Cl 117 #[.int .i64 y,ptr bx,ptr bn] w _;have d:=O (Hz h ok I y);have E:=Jf u;have B:=O (fun w'(c:Qc Qb w w')=>Jf (c.blk hn (fun h=>h)));generalize s.elig y=m at d;generalize s.due y=q at d;generalize s.fit y=r at d⊢;unfold ptr at*;clear h ok u hn;go_enter func117,ntmps117;go_wp2_with fail;refine Zy d ?_;intro w1 k;have z:=O k;have J:=B.o w1 k;clear k E;go_wp2;go_ret;exact⟨by simp,z.o⟩
theorem Qk2(h:Qi A w F b s)(ok:Xp N s)(B:N<549755813000)(k:Qh w bx #[ptr b] 28)(y:Int):
  Cl 58 (#[.int .i64 y]++#[ptr bx]) w fun e w'=>e=.returned (.int .u64 ((s.due y:Nat):Int))∧Qc Qb w w':=by
 show Cl 58 #[.int .i64 y,ptr bx] w _;have c:=O (Hz h ok B y);have z:=Jf k;generalize s.elig y=m at c;generalize s.due y=q at c⊢;generalize s.fit y=r at c;unfold ptr at*;clear h ok k;go_enter func58,ntmps58;go_wp2_with fail;refine Zy c ?_;intro w1 d;have u:=O d;clear d z;go_wp2;go_ret;exact⟨rfl,u.o⟩
theorem Qh1(h:Qi A w F b s)(ok:Xp N s)(k:Qh w bx #[ptr b] 28)(y:Int):
  Cl 62 (#[.int .i64 y]++#[ptr bx]) w fun e w'=>e=.returned (.int .u64 ((s.pick.v y:Nat):Int))∧Qc Qb w w':=by
 show Cl 62 #[.int .i64 y,ptr bx] w _;have c:=O (Ny h ok y);have z:=Jf k;generalize s.pick.v y=m at c⊢;generalize s.pick.totalOf y=q at c;generalize s.pick.aL y=r at c;unfold ptr at*;clear h ok k;go_enter func62,ntmps62;go_wp2_with fail;refine Zy c ?_;intro w1 d;have u:=O d;clear d z;go_wp2;go_ret;exact⟨rfl,u.o⟩
theorem Qh0(h:Qi A w F b s)(ok:Xp N s)(U:N<549755813000)(E:Qh w bx #[ptr b] 28)(hn:Qh w bn #[.int .u64 t] 29)(y:Int):
  Cl 60 (#[.int .i64 y]++#[ptr bx,ptr bn]) w fun e w'=>e=.returned (.bool (!s.pick.aL y||decide (t<s.fit y)))∧Qc Qb w w':=by
 show Cl 60 #[.int .i64 y,ptr bx,ptr bn] w _;have k:=O (Hz h ok U y);have d:=O (fun w'(c:Qc Qb w w')=>Ny ((Qi.obj A).aB h c (Jl.none F)) ok y);have R:=Jf E;have K:=O (fun w'(c:Qc Qb w w')=>Jf (c.blk E (fun h=>h)));have J:=O (fun w'(c:Qc Qb w w')=>Jf (c.blk hn (fun h=>h)));generalize s.elig y=m at k;generalize s.due y=q at k;generalize s.fit y=r at k⊢;generalize s.pick.v y=Z at d;generalize s.pick.totalOf y=q2 at d;generalize s.pick.aL y=aw at d⊢;unfold ptr at*;clear h ok E hn;go_enter func60,ntmps60;go_wp2_with fail;refine Zy k ?_;intro w1 B;have u:=O B;have V:=K.o w1 B;clear B R;go_wp2_with fail;refine Zz (d.o w1 u.o) ?_;intro w2 I;have z:=O (u.o.aA I);have n0:=J.o w2 z.o;clear I V u;cases aw with
 |false=> go_wp2;go_ret;exact⟨rfl,z.o⟩
 |true=> go_wp2;go_ret;exact⟨by simp,z.o⟩
end
section
attribute [local go_sem] Wi Qja
theorem Rw(c:Jy)(w):(binOp .eql 38 (.agg #[.int .u64 c.f,.int .u64 c.l,.int .u64 c.r]) (.agg #[.int .u64 0,.int .u64 0,.int .u64 0])).run prog w=.ok (.bool c.none) w:=by
 obtain⟨f,l,r⟩:=c;unfold Jy.none;go_simp;by_cases h1:f=0;case neg=>simp[h1]
 by_cases d:l=0;case neg=>simp[h1,d]
 by_cases k:r=0;case neg=>simp[h1,d,k]
 simp[h1,d,k]
end
theorem Q6.row1{w}{v:Value}{l:List Int}(h:Q6 w v l){S:Fp}(K:∀k,v.ownBlock=some k→¬S k):∃a cap,v=.slice a l.length cap∧l.length≤cap∧∀w',Qc S w w'→∀(i:Nat)(x:Int),l[i]? =some x→∃g,a=some ⟨g,0,none⟩∧w'.cell? ⟨g,i,none⟩=some (.int .i64 x):=by
 obtain⟨a,cap,rfl,d,_,_⟩:=h.row intT.hc;refine⟨a,cap,rfl,d,fun w' c i x B=>?_⟩;have u:l≠[]:=fun e=>by rw[e]at B;cases B
 obtain⟨g,E,I,z,J,R,q,_,_⟩:=h.opn u;injection z with h1 U V;exact⟨g,h1,by rw[(c.blk J (K g (by rw[h1];rfl))).cell];exact q i x B⟩
theorem optT:Qce prog Gl.cells 2 58 62 16 (⟨0,0⟩:Gl) where
 ht:=underlying58
 hi:=Ee (by kernel_rfl)
 pos:=by decide
 hc:=fun _=>rfl
 one:=by intro x u c;simp only[Gl.cells,Zu,List.not_mem_nil,or_false]at c;rcases c with rfl|rfl<;>rfl
def Dx(l:List Int)(r:Nat):List Gl:=l.map fun i=>⟨i,r⟩
theorem Qh9{l:List Int}{k:Nat}{x:Int}(c:l[k]? =some x)(r:Nat):Dx (l.take (k+1)) r=Dx (l.take k) r++[⟨x,r⟩]:=by unfold Dx;rw[List.take_add_one,c];simp
theorem Qld(l:List Int)(r:Nat):(Dx l r).length=l.length:=List.length_map _
theorem Qt9{w}{vb:Nat}{x:Gl}(h:Qh w vb #[.int .i64 x.c,.int .u8 x.r] 62):Kb Gl.cells 2 w (some ⟨vb,0,none⟩) [x]:=fun j d=>by
 obtain rfl:j=0:=by simpa using d
 refine⟨vb,0,rfl,fun k u c=>?_⟩;obtain⟨h0,h1⟩:=Q4 h
 match k,c with
 |0,c=>obtain rfl:=Zs c;exact h0
 |1,c=>obtain rfl:=Zs c;exact h1
 |k+2,c=>cases c
theorem Ri{w}{v:Value}{l:List Int}(h:Q6 w v l)(hl:l.length≤4096)(r:Nat):
  Cl 56 #[v,.int .u8 r] w fun e w'=>∃v',e=.returned v'∧Own Gl.cells 2 62 w' v' (Dx (Lp l) r)∧(∀k,v'.ownBlock=some k→w.heap.size≤k)∧Qc (fun k=>v.ownBlock=some k) w w':=by
 have HS:=O (N7 h (by omega));have V:(Lp l).length=l.length:=List.length_mergeSort _;have c:=O V;have ai:=O h.lt;obtain⟨a0,J,rfl,ae,_,_⟩:=h.row intT.hc;clear h V;go_enter func56,ntmps56;go_wp2_with fail;refine Zy HS ?_;rintro w1⟨K,c1⟩;have K:Q6 w1 (.slice a0 l.length J) (Lp l):=K;obtain⟨S,hS⟩:=Zx (Lp l);rw[←hS]at K c;have ab:=O hS;clear hS;obtain⟨a,cap,hv,ah,u⟩:=K.row1 (S:=Qb) (fun _ _ h=>h);injection hv with e1 e2 e3;subst e1 e3;have ac:=O u;have C1:=O c1;have aa:=O e2;obtain⟨n,hn⟩:=Zx (l.length);rw[←hn]at c hl ae aa⊢;have HL:=O hl;clear K u c1 HS hn e2 hl;go_wp2_with fail;go_loopw [5,12] (fun tv ix wr=>∃i:Nat,ix=.int .i64 i∧i≤n∧Own Gl.cells 2 62 wr tv (Dx (S.take i) r)∧(∀k,tv.ownBlock=some k→w1.heap.size≤k)∧Qc Qb w1 wr) (fun _ ix _=>n-(intOf ix).toNat);case atStart=>exact⟨0,rfl,Nat.zero_le _,Own.nil _ _ _ _,nofun,Zg _ _⟩
 case round=>
  obtain⟨i,rfl,hi,R,hB,hc⟩:=hrel;have B:=O hc;have HO:=O R;have HB:=O hB;by_cases ak:i<n
  ·have hd:decide ((i:Int)<(n:Int))=true:=by simp;omega
   obtain⟨y,hy⟩:∃y,S[i]? =some y:=⟨_,List.getElem?_eq_getElem (by have:=c.o;omega)⟩;obtain⟨g,rfl,af⟩:=ac.o wr hc i y hy;have d:=O (Qh9 hy r);have OL:=O (show(Dx (S.take i) r).length≤4096 from by rw[Qld];have:=HL.o;simp;omega);have aj:IntKind.i64.wrap ((i:Int)+1)=(i:Int)+1:=by rw[IntWalk.i64_in _ (by have:=HL.o;omega)]
   have i0:(0:Int)≤(i:Int):=by omega
   have i1:(i:Int)<(n:Int):=by omega
   have E:=O (Qt9 (x:=⟨y,r⟩) (Qh.new wr #[.int .i64 y,.int .u8 r] 62));obtain⟨ao,co,rfl,ag,_,_⟩:=R.row optT.hc;generalize Dx (S.take i) r=L at HO HB d OL ag⊢;clear hy R hB hc;go_wp2_with (at_builtin;refine Jj optT rfl (.tmp 16) (.tmp 20) rfl _ L rfl (HO.o.aB ((Zg Qb wr).alloc _) (fun _ _ h=>h)) _ _ [(⟨y,r⟩:Gl)] rfl ?a2 ?a3 ?a4 ?a5 ?a6);case a2=>exact nofun
   case a3=>exact E.o
   case a4=>have:=OL.o;simp only[maxLen,Zm,List.length_nil];omega
   case a5=>have:=OL.o;simp only[Zm,List.length_nil];omega
   case a6=>
    intro v' w5 q U Z;have C5:Hi (Qc Qb w1 w5):=O ((B.o.alloc _).trans U (fun j z=>.inr (HB.o j z)));have O5:Hi (∀j,v'.ownBlock=some j→w1.heap.size≤j):=O (fun j z=>by
     rcases Z with e|e;·rw[e]at z;exact HB.o j z
     ·rw[e]at z;have e2:=Zs z;have:=B.o.size;have:=((Zg Qb wr).alloc (.cells #[.int .i64 y,.int .u8 r] 62)).size;omega)
    have I:=O q;rw[←d.o]at I;clear q U Z af;go_wp2;go_roundw;case measure=>simp only[intOf];omega
    case rel=>exact⟨i+1,by rw[←Int.natCast_one,←Int.natCast_add],by omega,I.o,O5.o,C5.o⟩
  ·have hd:decide ((i:Int)<(n:Int))=false:=by simp;omega
   have TK:=O (show S.take i=S by rw[show i=S.length by have:=c.o;omega,List.take_length]);have FF:=O (show Own Gl.cells 2 62 wr _ (Dx (Lp l) r)from ab.o▸TK.o▸R);have CF:=O (C1.o.trans hc (fun k h=>h.elim));have OF:=O (fun k hk=>Zp C1.o.size (hB k hk));clear R hB hc;go_wp2;go_ret;exact⟨_,rfl,FF.o,OF.o,CF.o⟩
theorem Qol{f:Int→List Int}{l:List Int}{k:Nat}{x:Int}(c:l[k]? =some x):(l.take (k+1)).flatMap f=(l.take k).flatMap f++f x:=by rw[List.take_add_one,c,List.flatMap_append];simp
section
variable{w:World}{s:Qf}{N t:Nat}
theorem Qko{i:Int}:s.isLeaf i=((s.tree.at i).isSome&&(s.tree.get i).sp.leaf):=by
 unfold Qf.isLeaf Qm.get;cases s.tree.at i with
 |none=>rfl
 |some c=>rfl
theorem M0(ok:Xp N s)(i:Int):(s.tree.aM i).length≤64:=by refine Zp ?_ ok.tree.many;unfold Qm.aM;rw[List.length_map];exact List.length_filter_le _ _
theorem Qwj:∀{l m:List Int},l.Pairwise (· ≠ ·)→(∀x∈l,x∈m)→l.length≤m.length
 |[],m,_,_=>Nat.zero_le _
 |x::l,m,h,hs=>by obtain⟨h1,k⟩:=List.pairwise_cons.1 h;have c:=hs x List.mem_cons_self;have:=Qwj (m:=m.erase x) k fun y d=>(List.mem_erase_of_ne (fun e=>h1 y d e.symm)).2 (hs y (Zr _ d));rw[List.length_erase_of_mem c]at this;have:=List.length_pos_of_mem c;simp only[Zm];omega
theorem Wc(ok:Xp N s)(ht:t<Qq)(n:Nat)(i:Int):(s.down t n i).length≤64:=
 Zp (Qwj (Wb ok ht n i) fun x c=>(Lj ok ht n i x c).1) (Zp (Db _ _) ok.tree.many)
structure Qcq(w:World)(s:Qf)(N t:Nat)(tb bx bn bf sb:Nat):Prop where
 tree:∃G hb,Qh w tb #[ptr hb] 42∧Q9 w G hb s.tree
 sched:∃A F,Qi A w F sb s
 x:Qh w bx #[ptr sb] 28
 n:Qh w bn #[.int .u64 t] 29
 f:Qh w bf #[.func (.func (59)) #[] #[.pointer (some ⟨tb,0,none⟩),.pointer (some ⟨bx,0,none⟩),.pointer (some ⟨bn,0,none⟩),.pointer (some ⟨bf,0,none⟩)]] 47
theorem Qcq.aB{tb bx bn k sb:Nat}(d:Qcq w s N t tb bx bn k sb){w'}(c:Qc Qb w w'):Qcq w' s N t tb bx bn k sb where
 tree:=by obtain⟨G,u,h1,q⟩:=d.tree;exact⟨G,u,c.blk h1 (fun h=>h),Q9.obj.aB q c (Jl.none _)⟩
 sched:=by obtain⟨A,F,h⟩:=d.sched;exact⟨A,F,(Qi.obj A).aB h c (Jl.none _)⟩
 x:=c.blk d.x (fun h=>h)
 n:=c.blk d.n (fun h=>h)
 f:=c.blk d.f (fun h=>h)
theorem Qg3{f:Int→List Int}{l:List Int}(k:Nat):((l.take k).flatMap f).length≤(l.flatMap f).length:=by
 have:(l.take k).flatMap f++(l.drop k).flatMap f=l.flatMap f:=by rw[←List.flatMap_append,List.take_append_drop]
 rw[←this,List.length_append];omega
theorem Qc2(n:Nat)(i:Int)(hl:s.isLeaf i=false):s.down t (n+1) i=(Kt s.pick.v (s.fitters t i)).flatMap (s.down t n):=by rw[Qf.down,hl];rfl
theorem Qra(ok:Xp N s){n:Nat}{i x:Int}(B:8-Xk s.tree i<n+1)(E:x∈Kt s.pick.v (s.fitters t i)):8-Xk s.tree x<n:=by
 have h1:=(Ej.1 E).1;have z:=(List.mem_filter.1 h1).1;obtain⟨c,hc,rfl,k⟩:=Dv.1 z;have d:=Da ok.tree.sorted hc;rcases Oq ok.tree d with⟨u,e1⟩|⟨q,I,_,e1⟩
 ·have h0:i=0:=by rw[←k];exact u
  subst h0;rw[Kr (ok.tree.zero (by decide))]at B;omega
 ·rw[k]at e1;have:=Nl ok.tree d;omega
theorem Qan(ok:Xp N s)(hN:N<549755813000)(ht:t<Qq){tb bx bn bf sb:Nat}:∀(n:Nat){w}(d:Qcq w s N t tb bx bn bf sb)(i:Int),8-Xk s.tree i<n→
  Cl 59 #[.int .i64 i,.pointer (some ⟨tb,0,none⟩),.pointer (some ⟨bx,0,none⟩),.pointer (some ⟨bn,0,none⟩),.pointer (some ⟨bf,0,none⟩)] w fun e w'=>∃v,e=.returned v∧Q6 w' v (s.down t n i)∧(∀k,v.ownBlock=some k→w.heap.size≤k)∧Qc Qb w w'
 |0,w,d,i,hd=>by omega
 |n+1,w,d,i,hd=>by
  have IH:=O (fun(w')(c:Qc Qb w w')(i:Int)(hd:8-Xk s.tree i<n)=>Qan ok hN ht n (d.aB c) i hd);have DK:=O (fun(w')(c:Qc Qb w w')=>d.aB c);obtain⟨G,hb,hB,hH⟩:=d.tree;have HG:=O (Ob hH i);have HU:=O (fun w'(c:Qc Qb w w')=>P8 (Q9.obj.aB hH c (Jl.none _)) i (by have:=M0 ok i;omega));have CT:=O (fun w'(c:Qc Qb w w')=>Jf (c.blk hB (fun h=>h)));have CF:=O (fun w'(c:Qc Qb w w')=>Jf (c.blk d.f (fun h=>h)));have a0:=CT.o w (Zg _ _);have Z:=O (Qko (s:=s) (i:=i));generalize a7:(s.tree.get i).sp=sp at HG Z;generalize(s.tree.at i).isSome=is at HG Z;cases q:s.isLeaf i with
  |true=>
   rw[q]at Z;have hh:=Z.o;obtain⟨rfl,a1⟩:is=true∧sp.leaf=true:=by have:=hh.symm;simpa using this
   have bi:=O (show s.down t (n+1) i=[i] by rw[Qf.down,q];rfl);rw[bi.o];have bg:=O a1;clear d hB hH HU CF a7 q hh a1;unfold ptr at*;go_enter func59,ntmps59;go_wp2_with fail;refine Zy HG ?_;intro w5 c5;obtain⟨B,s6,J,c6⟩:=Q0 (P:=prog) (vs:=Es sp) (Qh.new w5 Z5 40) rfl (Hl _);have C6:=O (show Qc Qb w B from c5.aA (((Zg Qb w5).alloc _).trans c6 fun k e=>.inr (by omega)));have g2:B.cell? ⟨w5.heap.size,2,none⟩=some (.bool sp.leaf):=J.at 2 rfl;rw[bg.o]at g2;have hz:(Es sp).size=14:=rfl;generalize Es sp=br at s6 hz⊢;have FF:Hi (Q6 (B.alloc (.cells #[.int .i64 i] 3)) (.slice (some ⟨B.heap.size,0,none⟩) 1 1) [i]∧(∀k,(Value.slice (some ⟨B.heap.size,0,none⟩) 1 1).ownBlock=some k→w.heap.size≤k)∧Qc Qb w (B.alloc (.cells #[.int .i64 i] 3))):=O (by
    refine⟨Q6.mk (l:=[i]) (Qh.new B #[.int .i64 i] 3) rfl (Zv _) (by decide) (fun k z U=>?_),fun k U=>?_,C6.o.alloc _⟩
    ·cases k with
     |zero=>obtain rfl:=Zs U;rfl
     |succ k=>cases U
    ·have e:B.heap.size=k:=Zs U;have:=C6.o.size;omega)
   clear J c6 c5 a0;go_wp2_with fail;clear s6 g2;go_ret;exact⟨_,rfl,FF.o⟩
  |false=>
   rw[q]at Z;rw[Qc2 n i q];have aa:=O (fun(w1)(v:Value)(c1:Qc Qb w w1)(hv:∀k,v.ownBlock=some k→w.heap.size≤k)=>(show Ak (fun k=>v.ownBlock=some k) w1 60 #[.pointer (some ⟨bx,0,none⟩),.pointer (some ⟨bn,0,none⟩)] (fun y=>!s.pick.aL y||decide (t<s.fit y))from fun w2 c2 y=>by
    have d2:=DK.o w2 (c1.trans c2 (fun k U=>.inr (hv k U)));obtain⟨A,F,hS⟩:=d2.sched;exact Qh0 hS ok hN d2.x d2.n y))
   have ah:=O (fun(w1)(c1:Qc Qb w w1)=>(show Qun w1 62 #[.pointer (some ⟨bx,0,none⟩)] s.pick.v from fun w2 c2 y=>by
    have d2:=DK.o w2 (c1.aA c2);obtain⟨A,F,hS⟩:=d2.sched;exact Qh1 hS ok d2.x y))
   have ab:=O (M0 ok i);have ai:=O (fun x hx=>Qra (t:=t) ok hd (x:=x) hx);have DL:=O (fun x=>Wc ok ht n x);have aj:=O (show((Kt s.pick.v (s.fitters t i)).flatMap (s.down t n)).length≤64 from by rw[←Qc2 n i q];exact Wc ok ht (n+1) i);have E:=O (show(Kt s.pick.v (s.fitters t i)).length≤64 from Zp (Ch _ _).length_le (Zp (List.length_filter_le _ _) (M0 ok i)));clear d hB hH a7 q;unfold ptr at*;go_enter func59,ntmps59;go_wp2_with fail;refine Zy HG ?_;intro w5 c5;obtain⟨B,s6,J,c6⟩:=Q0 (P:=prog) (vs:=Es sp) (Qh.new w5 Z5 40) rfl (Hl _);have C6:=O (show Qc Qb w B from c5.aA (((Zg Qb w5).alloc _).trans c6 fun k e=>.inr (by omega)));have g2:B.cell? ⟨w5.heap.size,2,none⟩=some (.bool sp.leaf):=J.at 2 rfl;have t6:=CT.o B C6.o;have an:=O (HU.o B C6.o);have hz:(Es sp).size=14:=rfl;generalize Es sp=br at s6 hz⊢;generalize sp.leaf=lf at g2 Z;have ay:(is&&lf)=false:=Z.o.symm;clear J c6 c5 a0 Z HU CT HG;have R:is=false∨(is=true∧lf=false):=by
    cases is;·exact .inl rfl
    ·exact .inr ⟨rfl,by simpa using ay⟩
   clear ay;go_upto_region 2 with fail;clear s6;go_cut [23] (fun bq wz=>bq=.bool false∧wz=B)
   case first=>
    rcases R with rfl|⟨rfl,rfl⟩;·go_wp2_with fail;go_meet;exact⟨rfl,rfl⟩
    ·go_wp2_with fail;go_meet;exact⟨rfl,rfl⟩
   case rest=>
    obtain⟨rfl,rfl⟩:=hcut;clear g2 R;go_wp2_with fail;refine Zo an ?_;rintro e w7⟨v1,rfl,av,a8,c7⟩;have C7:=O (C6.o.aA c7);have V1:=O (fun k U=>Zp C6.o.size (a8 k U));have ak:=O (Ez av (by have:=ab.o;omega) 60 #[.pointer (some ⟨bx,0,none⟩),.pointer (some ⟨bn,0,none⟩)] (enters_of func60 (by kernel_rfl) rfl) _ (aa.o w7 v1 C7.o V1.o));clear av a8 c7 t6 an aa;go_wp2_with fail;refine Zo ak ?_;rintro e w8⟨v2,rfl,V,bm,c8⟩;have V:Q6 w8 v2 (s.fitters t i):=V;have C8:=O (C7.o.trans c8 (fun k U=>.inr (V1.o k U)));have al:=O (Ic V (by
     have h1:(s.fitters t i).length≤(s.tree.aM i).length:=List.length_filter_le _ _;have:=ab.o;omega) 62 #[.pointer (some ⟨bx,0,none⟩)] (enters_of func62 (by kernel_rfl) rfl) s.pick.v (ah.o w8 C8.o))
    clear V bm c8 ak ah;go_wp2_with fail;refine Zo al ?_;rintro e w9⟨v3,rfl,af,bo,c9⟩;obtain⟨a3,bt,rfl,K,u⟩:=af.row1 (S:=Qb) (fun _ _ h=>h);have aq:=O u;have C9:=O (C8.o.aA c9);obtain⟨L,hL⟩:=Zx (Kt s.pick.v (s.fitters t i));rw[←hL]at af u aq K E ai aj⊢;have bd:=O hL;clear hL;obtain⟨n0,ag⟩:=Zx (L.length);have am:=O ag;rw[←ag]at K E⊢;clear af bo c9 al u ag;go_wp2_with fail;go_loopw [10,35] (fun tv ix wr=>∃k:Nat,ix=.int .i64 k∧k≤n0∧Q6 wr tv ((L.take k).flatMap (s.down t n))∧(∀j,tv.ownBlock=some j→w9.heap.size≤j)∧Qc Qb w9 wr) (fun _ ix _=>n0-(intOf ix).toNat);case atStart=>exact⟨0,rfl,Nat.zero_le _,Q6.nil _,nofun,Zg _ _⟩
    case round=>
     obtain⟨k,rfl,U,hI,hO,hc⟩:=hrel;have HI:=O hI;have HO:=O hO;have HC:=O hc;clear hc hO;by_cases bv:k<n0
     ·have bl:decide ((k:Int)<(n0:Int))=true:=by simp;omega
      obtain⟨x,hx⟩:∃x,L[k]? =some x:=⟨_,List.getElem?_eq_getElem (by have:=am.o;omega)⟩;obtain⟨g,rfl,bj⟩:=aq.o wr HC.o k x hx;have CC:=O (C9.o.aA HC.o);have I:=O (IH.o wr CC.o x (ai.o x (List.mem_of_getElem? hx)));have f4:=CF.o wr CC.o;have ST:=O (Qol (f:=s.down t n) hx);have OL:=O (show((L.take k).flatMap (s.down t n)).length≤64 from Zp (Qg3 k) aj.o);have XL:=O (DL.o x);have bu:IntKind.i64.wrap ((k:Int)+1)=(k:Int)+1:=by rw[IntWalk.i64_in _ (by have:=E.o;omega)]
      have i0:(0:Int)≤(k:Int):=by omega
      have i1:(k:Int)<(n0:Int):=by omega
      obtain⟨ao,co,rfl,bk,_,_⟩:=hI.row intT.hc;generalize(L.take k).flatMap (s.down t n)=D at HI HO ST OL bk⊢;clear hx hI;go_wp2_with fail;refine Zo I ?_;rintro e bw⟨vx,rfl,ba,bp,ar⟩;obtain⟨ax,cx,rfl,_,au,az⟩:=ba.row intT.hc;have be:=O az;have bc:=O au;have ae:=O ar;clear ba bp ar au az I bj f4;go_wp2_with (at_builtin;refine Jj intT rfl (.tmp 39) (.tmp 42) rfl _ D rfl (HI.o.aB ae.o (fun _ _ h=>h)) _ _ (s.down t n x) rfl ?a2 ?a3 ?a4 ?a5 ?a6);case a2=>exact bc.o
      case a3=>exact be.o
      case a4=>have h1:=OL.o;have h2:=XL.o;simp only[maxLen];omega
      case a5=>have h1:=OL.o;have h2:=XL.o;omega
      case a6=>
       intro v' bs ac aw a9;have bb:Hi (Qc Qb w9 bs):=O ((HC.o.aA ae.o).trans aw (fun j hj=>.inr (HO.o j hj)));have bh:Hi (∀j,v'.ownBlock=some j→w9.heap.size≤j):=O (fun j hj=>by
        rcases a9 with e|e;·rw[e]at hj;exact HO.o j hj
        ·rw[e]at hj;have e2:=Zs hj;have:=HC.o.size;have:=ae.o.size;omega)
       have ap:=O ac;rw[←ST.o]at ap;clear ac aw a9;go_wp2;go_roundw;case measure=>simp only[intOf];omega
       case rel=>exact⟨k+1,by rw[←Int.natCast_one,←Int.natCast_add],by omega,ap.o,bh.o,bb.o⟩
     ·have bl:decide ((k:Int)<(n0:Int))=false:=by simp;omega
      have TK:=O (show L.take k=L by rw[show k=L.length by have:=am.o;omega,List.take_length]);have FF:=O (show Q6 wr _ ((Kt s.pick.v (s.fitters t i)).flatMap (s.down t n))from bd.o▸TK.o▸hI);have CF:=O (C9.o.aA HC.o);have OF:=O (fun j hj=>Zp C9.o.size (HO.o j hj));clear hI;go_wp2;go_ret;exact⟨_,rfl,FF.o,OF.o,CF.o⟩
end
end
section
attribute [local go_sem] Qp
attribute [local irreducible] Kl J9 Xo
attribute [local go_sem ↓] X8 Yd
section
variable{A:Tb}{w:World}{F:Fp}{b:Nat}{s:Qf}{N:Nat}
theorem Qwh(h:Qm):∀(n:Nat)(i:Int),(h.path n i).length≤n
 |0,i=>Zv 0
 |n+1,i=>by
  rw[Qm.path];split;·exact Nat.zero_le _
  ·rename_i c hc;have:=Qwh h n c.sp.par;simp only[Zm];omega
theorem M3(now:Nat):min now 9223372036854775807<Qq:=by have:=Yf;omega
theorem Qwp(now:Nat):min (now:Int) 9223372036854775807=((min now 9223372036854775807:Nat):Int):=by omega
theorem P3(h:Qi A w F b s)(ok:Xp N s)(hN:N<549755813000)(now t:Nat)(hT:t=min now 9223372036854775807):
  Cl 22 #[.pointer (some ⟨b,0,none⟩),.int .u64 now] w fun e w'=>∃v,e=.returned v∧Own Gl.cells 2 62 w' v (Dx (s.opts t).1 (s.opts t).2)∧(∀k,v.ownBlock=some k→w.heap.size≤k)∧Qc Qb w w':=by
 have ht:t<Qq:=hT▸M3 now;have HT:=O hT;have ao:=O (show min (now:Int) 9223372036854775807=(t:Int) by rw[Qwp,hT]);obtain⟨W,hW⟩:=Zx ((w.alloc (.cells #[.pointer (some ⟨b,0,none⟩)] 28)).alloc (.cells #[.int .u64 t] 29));have C0:Hi (Qc Qb w W):=O (by rw[hW];exact((Zg Qb w).alloc _).alloc _);have B1:Hi (Qh W w.heap.size #[ptr b] 28):=O (by
  rw[hW];exact(Qh.new w _ _).alloc _)
 have B2:Hi (Qh W (w.heap.size+1) #[.int .u64 t] 29):=O (by
  rw[hW];exact Qh.new' _ _ (by simp))
 have HK:=O (fun w'(c:Qc Qb W w')=>(Qi.obj A).aB h (C0.o.aA c) (Jl.none _));have u:=O (fun w'(c:Qc Qb W w')=>c.blk B1.o (fun h=>h));have U:=O (fun w'(c:Qc Qb W w')=>c.blk B2.o (fun h=>h));have al:=O (Uu (HK.o W (Zg _ _)) ok);have ar:=O (fun w'(c:Qc Qb W w')=>Qh2 (HK.o w' c) ok);have TS:=O (fun(w1)(v:Value)(c1:Qc Qb W w1)(hv:∀k,v.ownBlock=some k→W.heap.size≤k)=>(show Ak (fun k=>v.ownBlock=some k) w1 55 #[.pointer (some ⟨w.heap.size,0,none⟩),.pointer (some ⟨w.heap.size+1,0,none⟩)] (fun y=>decide (t<s.elig y))from fun w2 c2 y=>by
  have cc:Qc Qb W w2:=c1.trans c2 (fun k q=>.inr (hv k q));exact Qk1 (HK.o w2 cc) ok hN (u.o w2 cc) (U.o w2 cc) y))
 have ab:=O (fun(w1)(c1:Qc Qb W w1)=>(show Qun w1 58 #[.pointer (some ⟨w.heap.size,0,none⟩)] s.due from fun w2 c2 y=>by
  have cc:=c1.aA c2;exact Qk2 (HK.o w2 cc) ok hN (u.o w2 cc) y))
 have Z:=O (Qqq ok);have DN:=O (fun(w1)(tb bf:Nat)(d:Qcq w1 s N t tb w.heap.size (w.heap.size+1) bf b)=>Qan ok hN ht 9 d 0 (by rw[Kr (ok.tree.zero (by decide))];omega));have ax:=O (Wc ok ht 9 0);have R:=O (show s.opts t=if s.elig1 t≠[]then(Lp (Kt s.due (s.elig1 t)),1)else(Lp (s.down t 9 0),2)from rfl);have E1:=O (show(s.elig1 t).length≤64 from Zp (List.length_filter_le _ _) Z.o);have b1:=Jf B1.o;have b2:=Jf B2.o;have BA:Hi (∀w',Qc Qb W w'→W.heap.size≤w'.heap.size):=O (fun w' c=>c.size);unfold ptr at*;clear h ok ht hT;go_enter func22,ntmps22;go_wp2_with fail;rw[ao.o,←hW];clear hW;refine Zo al ?_;rintro e w1⟨hb,rfl,hH,c1⟩;have C1:=O c1;have HH:=O hH;clear hH c1 b2 al;unfold ptr at*;have b1:=Jf (u.o w1 C1.o);obtain⟨W2,hW2⟩:=Zx (w1.alloc (.cells #[.pointer (some ⟨hb,0,none⟩)] 42));have C2:=O (show Qc Qb W W2 from by rw[hW2];exact C1.o.alloc _);have BT:=O (show Qh W2 w1.heap.size #[ptr hb] 42 from by
  rw[hW2];exact Qh.new _ _ _)
 have ae:=O (Q9.obj.aB HH.o (show Qc Qb w1 W2 from by rw[hW2];exact(Zg Qb w1).alloc _) (Jl.none _));have ah:=Jf (u.o W2 C2.o);unfold ptr at ah;rw[hW2]at ah;have aq:=O (ar.o W2 C2.o);unfold ptr at*;clear b1 ar HH;go_wp2_with fail;rw[←hW2];clear hW2;refine Zo aq ?_;rintro e w3⟨v1,rfl,au,ak,c3⟩;have C3:=O (C2.o.aA c3);have V1:=O (fun k q=>Zp C2.o.size (ak k q));have HD:=O (Ez au (by have:=Z.o;omega) 55 #[.pointer (some ⟨w.heap.size,0,none⟩),.pointer (some ⟨w.heap.size+1,0,none⟩)] (enters_of func55 (by kernel_rfl) rfl) _ (TS.o w3 v1 C3.o V1.o));have D3:=O c3;have ap:=O ak;clear au ak c3 ah aq TS;go_wp2_with fail;refine Zo HD ?_;rintro e w4⟨v2,rfl,B,aw,c4⟩;have B:Q6 w4 v2 (s.elig1 t):=B;have C4:=O (C3.o.trans c4 (fun k q=>.inr (V1.o k q)));have D4:=O (D3.o.trans c4 (fun k q=>.inr (ap.o k q)));have V2:=O (fun k q=>V1.o k (aw k q));have an:=O B;obtain⟨a2,ay,rfl,aj,_,_⟩:=B.row intT.hc;have a0:=Jf (u.o w4 C4.o);clear B aw c4 HD ap;unfold ptr at*;by_cases he:s.elig1 t=[]
 ·have av:(s.elig1 t).length=0:=by rw[he];rfl
  have OP:=O (show s.opts t=(Lp (s.down t 9 0),2)from by rw[R.o,if_neg (fun h=>h he)]);rw[av]at aj⊢;obtain⟨FV,ai⟩:=Zx (Value.func (.func (59)) #[] #[.pointer (some ⟨w1.heap.size,0,none⟩),.pointer (some ⟨w.heap.size,0,none⟩),.pointer (some ⟨w.heap.size+1,0,none⟩),.pointer (some ⟨w4.heap.size,0,none⟩)]);obtain⟨W5,I⟩:=Zx (w4.alloc (.cells #[FV] 47));have ac:=O (show Qc Qb w4 W5 from by rw[I];exact(Zg Qb w4).alloc _);have BF:=O (show Qh W5 w4.heap.size #[FV] 47 from by
   rw[I];exact Qh.new _ _ _)
  have C5:=O (C4.o.aA ac.o);have DW:Qcq W5 s N t w1.heap.size w.heap.size (w.heap.size+1) w4.heap.size b:={
   tree:=⟨_,hb,(D4.o.aA ac.o).blk BT.o (fun h=>h),Q9.obj.aB ae.o (D4.o.aA ac.o) (Jl.none _)⟩
   sched:=⟨_,_,HK.o W5 C5.o⟩
   x:=u.o W5 C5.o
   n:=U.o W5 C5.o
   f:=by have:=BF.o;rw[ai]at this;exact this}
  have am:=O (DN.o W5 w1.heap.size w4.heap.size DW);have z:=Jf BF.o;rw[ai]at z I;clear DW he ai R ab DN BT ae D4 U;unfold ptr at*;go_wp2_with fail;rw[←I];clear I;refine Zo am ?_;rintro e w6⟨v3,rfl,E,J,c6⟩;have ag:=O (Ri E (by have:=ax.o;omega) 2);have C6:=O (C5.o.aA c6);have V3:=O (fun k q=>Zp C5.o.size (J k q));clear E J c6 am z;go_wp2_with fail;refine Zo ag ?_;rintro e w7⟨v4,rfl,hO,K,c7⟩;have FF:=O (show Own Gl.cells 2 62 w7 v4 (Dx (Lp (s.down t 9 0)) 2)∧(∀k,v4.ownBlock=some k→w.heap.size≤k)∧Qc Qb w w7 from⟨hO,fun k q=>Zp (C0.o.aA C6.o).size (K k q),C0.o.aA (C6.o.trans c7 (fun k q=>.inr (V3.o k q)))⟩);clear hO K c7;go_wp2;go_ret;exact⟨_,rfl,by rw[OP.o];exact FF.o.1,FF.o.2⟩
 ·have OP:=O (show s.opts t=(Lp (Kt s.due (s.elig1 t)),1)from by rw[R.o,if_pos he]);have aa:0<(s.elig1 t).length:=List.length_pos_iff.2 he;have a1:decide ((0:Int)<((s.elig1 t).length:Int))=true:=by simp;omega
  have az:decide (0<(s.elig1 t).length)=true:=by simpa using aa
  have af:=O (Ic an.o (by have:=E1.o;omega) 58 #[.pointer (some ⟨w.heap.size,0,none⟩)] (enters_of func58 (by kernel_rfl) rfl) s.due (ab.o w4 C4.o));have V:=O (show(Kt s.due (s.elig1 t)).length≤64 from Zp (Ch _ _).length_le E1.o);obtain⟨L,hL⟩:=Zx (Kt s.due (s.elig1 t));rw[←hL]at af V OP;clear hL;clear he aa R ab DN BT ae D4 U an;generalize(s.elig1 t).length=n2 at*;go_wp2_with fail;refine Zo af ?_;rintro e w6⟨v3,rfl,E,J,c6⟩;have ag:=O (Ri E (by have:=V.o;omega) 1);have C6:=O (C4.o.aA c6);have V3:=O (fun k q=>Zp C4.o.size (J k q));clear E J c6 af;go_wp2_with fail;refine Zo ag ?_;rintro e w7⟨v4,rfl,hO,K,c7⟩;have FF:=O (show Own Gl.cells 2 62 w7 v4 (Dx (Lp L) 1)∧(∀k,v4.ownBlock=some k→w.heap.size≤k)∧Qc Qb w w7 from⟨hO,fun k q=>Zp (C0.o.aA C6.o).size (K k q),C0.o.aA (C6.o.trans c7 (fun k q=>.inr (V3.o k q)))⟩);clear hO K c7;go_wp2;go_ret;exact⟨_,rfl,by rw[OP.o];exact FF.o.1,FF.o.2⟩
theorem Qws(h:Qi A w F b s)(ok:Xp N s)(hN:N<549755813000)(now t:Nat)(hT:t=min now 9223372036854775807)(i:Int)(hi:i∈s.waits):
  Cl 64 #[.pointer (some ⟨b,0,none⟩),.int .i64 i,.int .u64 now] w fun e w'=>e=.returned (.bool (s.heldB t i))∧Qc Qb w w':=by
 have HT:=O hT;have I:=O (show min (now:Int) 9223372036854775807=(t:Int) by rw[Qwp,hT]);obtain⟨W,hW⟩:=Zx ((w.alloc (.cells #[.pointer (some ⟨b,0,none⟩)] 28)).alloc (.cells #[.int .u64 t] 29));have C0:Hi (Qc Qb w W):=O (by rw[hW];exact((Zg Qb w).alloc _).alloc _);have B1:Hi (Qh W w.heap.size #[ptr b] 28):=O (by
  rw[hW];exact(Qh.new w _ _).alloc _)
 have B2:Hi (Qh W (w.heap.size+1) #[.int .u64 t] 29):=O (by
  rw[hW];exact Qh.new' _ _ (by simp))
 have HK:=O (fun w'(c:Qc Qb W w')=>(Qi.obj A).aB h (C0.o.aA c) (Jl.none _));have K:=O (fun w'(c:Qc Qb W w')=>c.blk B1.o (fun h=>h));have U:=O (fun w'(c:Qc Qb W w')=>c.blk B2.o (fun h=>h));have E:=O (Uu (HK.o W (Zg _ _)) ok);have ae:=O (fun w'(c:Qc Qb W w')=>Hz (HK.o w' c) ok hN i);have TS:=O (fun(w1)(c1:Qc Qb W w1)=>(show Ak Qb w1 117 #[.pointer (some ⟨w.heap.size,0,none⟩),.pointer (some ⟨w.heap.size+1,0,none⟩)] (fun y=>decide (t<s.fit y))from fun w2 c2 y=>by
  have cc:Qc Qb W w2:=c1.aA c2;exact Qhz (HK.o w2 cc) ok hN (K.o w2 cc) (U.o w2 cc) y))
 have GT:=O (show s.shareNone i=(s.tree.get i).sp.share.none from by
  obtain⟨l,hl,_⟩:=ok.waits_mem.1 hi;obtain⟨c,hc,_⟩:=ok.leaf_at hl;unfold Qf.shareNone;rw[hc,Ec s.tree hc];rfl)
 have ab:=O (fun(w1 w')(G:Fp)(z:Nat)(hh:Q9 w1 G z s.tree)(c:Qc Qb w1 w')=>Ob (Q9.obj.aB hh c (Jl.none _)) i);have ac:=O (fun(w1 w')(G:Fp)(z:Nat)(hh:Q9 w1 G z s.tree)(c:Qc Qb w1 w')=>Wx ok.tree (Q9.obj.aB hh c (Jl.none _)) i);have J:=O (fun(w')(v:Value)(h:Q6 w' v (s.tree.path 9 i))=>Qwh s.tree 9 i);have d:=O (show s.heldB t i=(decide (t<s.elig i)&&(s.shareNone i||(s.tree.path 9 i).any fun x=>decide (t<s.fit x)))from rfl);have b1:=Jf B1.o;have b2:=Jf B2.o;unfold ptr at*;clear h ok hi hT;go_enter func64,ntmps64;go_wp2_with fail;rw[I.o,←hW];clear hW;refine Zo E ?_;rintro e w1⟨z,rfl,hH,c1⟩;have C1:=O c1;have HH:=O hH;have HG:=O (ab.o w1 w1 _ z hH (Zg _ _));obtain⟨sp,aa⟩:=Zx ((s.tree.get i).sp);rw[←aa]at HG GT;clear hH c1 b2 b1 E aa;unfold ptr at*;go_wp2_with fail;refine Zy HG ?_;intro w5 c5;obtain⟨W6,s6,Z,c6⟩:=Q0 (P:=prog) (vs:=Es sp) (Qh.new w5 Z5 40) rfl (Hl _);have D6:=O (show Qc Qb w1 W6 from c5.aA (((Zg Qb w5).alloc _).trans c6 fun k e=>.inr (by omega)));have C6:=O (C1.o.aA D6.o);have B6:=O Z;have hz:(Es sp).size=14:=rfl;generalize Es sp=ah at s6 hz⊢;generalize(s.tree.at i).isSome=ag;have q:=O (ae.o W6 C6.o);have b1:=Jf (K.o W6 C6.o);generalize s.elig i=V at q d;generalize s.due i=da at q;generalize s.fit i=fa at q;clear Z c6 c5 HG;unfold ptr at*;go_wp2_with fail;clear s6;refine Zy q ?_;intro w7 c7;have C7:=O (C6.o.aA c7);have D7:=O (D6.o.aA c7);have u:=c7.blk B6.o (fun h=>h);have s6:w7.cell? ⟨w5.heap.size,6,none⟩=some (.int .u64 sp.share.f):=u.at 6 rfl;have s7:w7.cell? ⟨w5.heap.size,7,none⟩=some (.int .u64 sp.share.l):=u.at 7 rfl;have s8:w7.cell? ⟨w5.heap.size,8,none⟩=some (.int .u64 sp.share.r):=u.at 8 rfl;have b2:=Jf (U.o w7 C7.o);have af:=Rw sp.share;rw[GT.o]at d;generalize sp.share.none=sn at d af;have HP:=O (ac.o w1 w7 _ z HH.o D7.o);have B:=O (C0.o.aA C7.o);clear c7 u b1 q;by_cases he:t<V
 ·have d1:decide (t<V)=true:=by simpa using he
  have d2:decide (V≤t)=false:=by simp;omega
  cases sn with
  |true=> have R:=O (show s.heldB t i=true by rw[d.o,d1];rfl);clear he;go_wp2_with fail;go_ret;exact⟨by rw[R.o];rfl,B.o⟩
  |false=> clear he;go_wp2_with fail;refine Zo HP ?_;rintro e w8⟨v,rfl,hI,_,c8⟩;have HC:=O (Qew hI (by have:=J.o w8 v hI;omega) 117 #[.pointer (some ⟨w.heap.size,0,none⟩),.pointer (some ⟨w.heap.size+1,0,none⟩)] (enters_of func117 (by kernel_rfl) rfl) _ (TS.o w8 (C7.o.aA c8)));have C8:=O (C7.o.aA c8);have R:=O (show s.heldB t i=(s.tree.path 9 i).any fun x=>decide (t<s.fit x) by rw[d.o,d1];rfl);clear hI c8 HP;go_wp2_with fail;refine Zy HC ?_;intro w9 c9;have FF:=O (C0.o.aA (C8.o.aA c9));clear c9;go_wp2;go_ret;exact⟨by rw[R.o];rfl,FF.o⟩
 ·have d1:decide (t<V)=false:=by simpa using he
  have d2:decide (V≤t)=true:=by simp;omega
  have R:=O (show s.heldB t i=false by rw[d.o,d1];rfl);clear he;go_wp2_with fail;go_ret;exact⟨by rw[R.o];rfl,B.o⟩
end
end
end Go.Proofs.YtnnhmpehkbihnaaGreat
