/- A part of the proof: no condition. -/
import Derived.Test.YtnnhmpehkbihnaaGreatPk45
import Derived.Test.YtnnhmpehkbihnaaGreatPk47
namespace Go.Proofs.YtnnhmpehkbihnaaGreat
set_option linter.unusedVariables false
set_option maxRecDepth 100000
set_option maxHeartbeats 4000000
open Go.RowKit
open Go.Proofs.Tryz
section
attribute [local go_sem] Qp
attribute [local irreducible] Kl J9 Xo
theorem Qv8{p:Int→Bool}{l:List Int}{k:Nat}{x:Int}(c:l[k]? =some x):(l.take (k+1)).filter p=(l.take k).filter p++(if p x then[x]else[]):=by rw[List.take_add_one,c,List.filter_append];simp[List.filter_cons]
section
variable{A:Tb}{w:World}{F:Fp}{b:Nat}{s:Qf}{N:Nat}
theorem Qwa(h:Qi A w F b s)(ok:Xp N s)(hN:N<549755813000)(now t:Nat)(hT:t=min now 9223372036854775807):
  Cl 25 #[.pointer (some ⟨b,0,none⟩),.int .u64 now] w fun e w'=>∃v,e=.returned v∧Q6 w' v (s.held t)∧(∀k,v.ownBlock=some k→w.heap.size≤k)∧Qc Qb w w':=by
 have HW:=O (Qh2 h ok);have HH:=O (fun w'(c:Qc Qb w w')i hi=>Qws ((Qi.obj A).aB h c (Jl.none _)) ok hN now t hT i hi);have q:=O (Qqq ok);unfold Qf.held;unfold ptr at*;clear h ok hN hT;go_enter func25,ntmps25;go_wp2_with fail;refine Zo HW ?_;rintro e w1⟨v1,rfl,z,_,c1⟩;obtain⟨a1,aj,rfl,B,J⟩:=z.row1 (S:=Qb) (fun _ _ h=>h);have ac:=O J;have C1:=O c1;obtain⟨L,hL⟩:=Zx (s.waits);rw[←hL]at B q HH ac;have HL:=O hL;obtain⟨V,u⟩:=Zx (L.length);have aa:=O u;rw[←hL,←u];rw[←u]at B q;clear z J c1 u hL HW;go_wp2_with fail;go_loopw [5,11] (fun tv ix wr=>∃k:Nat,ix=.int .i64 k∧k≤V∧Q6 wr tv ((L.take k).filter (s.heldB t))∧(∀j,tv.ownBlock=some j→w1.heap.size≤j)∧Qc Qb w1 wr) (fun _ ix _=>V-(intOf ix).toNat);case atStart=>exact⟨0,rfl,Nat.zero_le _,Q6.nil _,nofun,Zg _ _⟩
 case round=>
  obtain⟨k,rfl,hk,z,hO,hc⟩:=hrel;have HI:=O z;have HO:=O hO;have R:=O hc;clear hc hO;by_cases al:k<V
  ·have ai:decide ((k:Int)<(V:Int))=true:=by simp;omega
   obtain⟨x,hx⟩:∃x,L[k]? =some x:=⟨_,List.getElem?_eq_getElem (by have:=aa.o;omega)⟩;obtain⟨g,rfl,af⟩:=ac.o wr R.o k x hx;have d:=O (HH.o wr (C1.o.aA R.o) x (List.mem_of_getElem? hx));have ST:=O (Qv8 (p:=s.heldB t) hx);have OL:=O (show((L.take k).filter (s.heldB t)).length≤64 from Zp (List.length_filter_le _ _) (by have:=q.o;simp;omega));have ak:IntKind.i64.wrap ((k:Int)+1)=(k:Int)+1:=by rw[IntWalk.i64_in _ (by have:=q.o;omega)]
   have i0:(0:Int)≤(k:Int):=by omega
   have i1:(k:Int)<(V:Int):=by omega
   obtain⟨ao,co,rfl,ah,_,_⟩:=z.row intT.hc;generalize(L.take k).filter (s.heldB t)=D at HI HO ST OL ah⊢;generalize s.heldB t x=hb at d ST;clear hx z;cases hb with
   |true=>
    go_wp2_with fail;refine Zy d ?_;intro w3 U;have Z:=O U;have ab:=O (Qfl (Qh.new w3 #[.int .i64 x] 3));clear U af d;go_wp2_with (at_builtin;refine Jj intT rfl (.tmp 19) (.tmp 21) rfl _ D rfl ((HI.o.aB Z.o (fun _ _ h=>h)).aB ((Zg Qb w3).alloc _) (fun _ _ h=>h)) _ _ [x] rfl ?a2 ?a3 ?a4 ?a5 ?a6);case a2=>exact nofun
    case a3=>exact ab.o
    case a4=>have:=OL.o;simp only[maxLen,Zm,List.length_nil];omega
    case a5=>have:=OL.o;simp only[Zm,List.length_nil];omega
    case a6=>
     intro v' w5 I ae ag;have C5:Hi (Qc Qb w1 w5):=O (((R.o.aA Z.o).alloc _).trans ae (fun j E=>.inr (HO.o j E)));have O5:Hi (∀j,v'.ownBlock=some j→w1.heap.size≤j):=O (fun j E=>by
      rcases ag with e|e;·rw[e]at E;exact HO.o j E
      ·rw[e]at E;have e2:=Zs E;have:=R.o.size;have:=Z.o.size;have:=((Zg Qb w3).alloc (.cells #[.int .i64 x] 3)).size;omega)
     have K:=O (show Q6 w5 v' ((L.take (k+1)).filter (s.heldB t))from by rw[ST.o];exact I);clear I ae ag;go_wp2;go_roundw;case measure=>simp only[intOf];omega
     case rel=>exact⟨k+1,by rw[←Int.natCast_one,←Int.natCast_add],by omega,K.o,O5.o,C5.o⟩
   |false=>
    go_wp2_with fail;refine Zy d ?_;intro w3 U;have K:=O (show Q6 w3 _ ((L.take (k+1)).filter (s.heldB t))from by rw[ST.o];simpa using HI.o.aB U (fun _ _ h=>h));have Z:=O (R.o.aA U);clear U af d;go_wp2;go_roundw;case measure=>simp only[intOf];omega
    case rel=>exact⟨k+1,by rw[←Int.natCast_one,←Int.natCast_add],by omega,K.o,HO.o,Z.o⟩
  ·have ai:decide ((k:Int)<(V:Int))=false:=by simp;omega
   have TK:=O (show L.take k=L by rw[show k=L.length by have:=aa.o;omega,List.take_length]);have FF:=O (show Q6 wr _ (s.waits.filter (s.heldB t))from HL.o▸TK.o▸z);have CF:=O (C1.o.aA R.o);have OF:=O (fun j E=>Zp C1.o.size (HO.o j E));clear z;go_wp2;go_ret;exact⟨_,rfl,FF.o,OF.o,CF.o⟩
theorem P6(h:Qi A w F b s)(ok:Xp N s)(V:N<549755813000)(now t:Nat)(B:t=min now 9223372036854775807):
  Cl 23 #[.pointer (some ⟨b,0,none⟩),.int .u64 now] w fun e w'=>e=.returned (.bool (!(s.who t).isSome))∧Qc Qb w w':=by
 have I:=O (Qwa h ok V now t B);have J:=O (fun w'(c:Qc Qb w w')=>Qh2 ((Qi.obj A).aB h c (Jl.none _)) ok);have E:=O (Qwq ok (t:=t) (by rw[B];exact M3 now));have u:=O (show(((s.held t).length:Int)==(s.waits.length:Int))=!(s.who t).isSome from by
  have e:=E.o;cases Z:s.who t with
  |none=> have:=e.2 Z;simp[this]
  |some x=>
   have:¬(s.held t).length=s.waits.length:=fun k=>by have:=e.1 k;rw[Z]at this;cases this
   simp;omega)
 unfold ptr at*;clear h ok V B E;go_enter func23,ntmps23;go_wp2_with fail;refine Zo I ?_;rintro e w1⟨v1,rfl,q,_,z⟩;obtain⟨a1,R,rfl,_,_,_⟩:=q.row intT.hc;have C1:=O z;have d:=O (J.o w1 z);clear q z I J;unfold ptr at*;go_wp2_with fail;refine Zo d ?_;rintro e w2⟨v2,rfl,q,_,K⟩;obtain⟨a2,U,rfl,_,_,_⟩:=q.row intT.hc;have C2:=O (C1.o.aA K);clear q K d;generalize(s.held t).length=n1 at*;generalize s.waits.length=n2 at*;go_wp2_with fail;go_ret;exact⟨by rw[←u.o];first|rfl|simp,C2.o⟩
end
end
section
attribute [local go_sem] Qp
attribute [local irreducible] Kl J9 Xo
def Gc(w:World)(G:Fp)(v:Value)(l:List Gl):Prop:=Own Gl.cells 2 62 w v l∧∀k,v.ownBlock=some k→¬G k
theorem Gc.step{w w'}{G:Fp}{v:Value}{l:List Gl}(h:Gc w G v l)(c:Qc G w w'):Gc w' (Qn G w w') v l:=
 ⟨h.1.aB c h.2,fun k d q=>q.elim (h.2 k d) (fun e=>by have:=h.1.lt k d;omega)⟩
theorem Gc.aB{w w'}{G:Fp}{v:Value}{l:List Gl}(h:Gc w G v l)(c:Qc Qb w w'):Gc w' G v l:=⟨h.1.aB c (fun _ _ h=>h),h.2⟩
theorem Gc.cells{w}{G:Fp}{v:Value}{l:List Gl}(h:Gc w G v l):∃a cap,v=.slice a l.length cap∧∀w',Qc Qb w w'→∀(k:Nat)(x:Gl),l[k]? =some x→∃g o,a=some ⟨g,o,none⟩∧w'.cell? ⟨g,o+k*2,none⟩=some (.int .i64 x.c)∧w'.cell? ⟨g,o+k*2+1,none⟩=some (.int .u8 x.r):=by obtain⟨a,cap,rfl,_,_,d⟩:=h.1.row optT.hc;refine⟨a,cap,rfl,fun w' c k x B=>?_⟩;obtain⟨z,u⟩:=Z1.1 B;obtain⟨g,o,rfl,q⟩:=d k z;rw[u]at q;exact⟨g,o,rfl,c.same (q 0 _ rfl),c.same (q 1 _ rfl)⟩
theorem Gc.at'{w}{G:Fp}{a:Option Addr}{n cap:Nat}{l:List Gl}(h:Gc w G (.slice a n cap) l):Kb Gl.cells 2 w a l∧n=l.length:=by obtain⟨q,d,e,_,_,c⟩:=h.1.row optT.hc;injection e with e1 k u;subst e1;exact⟨c,k⟩
def bwS:Nat→Qf
 |0=>bw0
 |1=>bw2
 |_=>bw4
section
attribute [local go_sem] Qg1 Qqh
theorem Qwu(a b:Int)(w):(binOp .eql 62 (.agg #[.int .i64 a,.int .u8 b]) (.agg #[.int .i64 a,.int .u8 b])).run prog w=.ok (.bool true) w:=by go_simp
end
attribute [local go_sem ↓] Qwu
theorem Qw0{W w}{G:Fp}{b N:Nat}{s:Qf}(h:GSt W w G b s)(ok:Xp N s)(z:N<549755813000)(now:Nat)(hn:now=min now 9223372036854775807){l:List Int}{r:Nat}(I:s.opts now=(l,r)):
  Cl 22 #[.pointer (some ⟨b,0,none⟩),.int .u64 now] w fun e w'=>∃v,e=.returned v∧Gc w' G v (Dx l r)∧GSt W w' G b s∧Qc Qb w w':=by
 have c:=Qt.obj.bd h.is;obtain⟨A,B⟩:=h.is;refine(P3 B ok z now now hn).mono ?_;rintro e w1⟨v,rfl,h1,q,d⟩;rw[I]at h1;exact⟨v,rfl,⟨h1,fun k E u=>by have:=q k E;have:=c k u;omega⟩,h.aB d,d⟩
theorem P4(W):Cl 20 #[] W fun e w'=>e=.returned (.bool true)∧Qc Qb W w':=by
 have ac:=O (Qeb 100 (by decide) (by decide) W);have R:Hi (∀w b G(k:Nat),k<2→Qt w G b (bwS k)→∃s1,Cl 27 #[.pointer (some ⟨b,0,none⟩),.agg #[.int .i64 (2-(k:Int)),.int .i64 0,.bool true,.int .u64 0,.int .u64 0,.int .u64 0,.int .u64 0,.int .u64 0,.int .u64 50,.int .u64 0,.int .u64 0,.int .u64 0,.int .i64 5,.int .i64 500]] w (fun e w'=>e=.returned (.int .i64 0)∧Qt w' (Qn G w w') b s1∧Qc G w w')∧
   ∀w G,Qt w G b s1→Cl 28 #[.pointer (some ⟨b,0,none⟩),.agg #[.int .u64 0,.int .i64 (2-(k:Int)),.int .i64 9,.int .u64 0],.int .u64 3] w fun e w'=>e=.returned (.int .i64 0)∧Qt w' (Qn G w w') b (bwS (k+1))∧Qc G w w'):=O (fun w b G k hk h=>by
  rcases(show k=0∨k=1 by omega)with rfl|rfl
  ·refine⟨bw1,?_,fun w G h=>?_⟩;·have:=Cy h bw_ok0 (bwC 2);have e:(bwS 0).aO (bwC 2)=0:=Qxj;rw[e]at this;exact this
   ·have:=Qbn h bw_ok1 (by omega) (bwP 2) 3 (by decide);rw[Qxk]at this;exact this
  ·refine⟨bw3,?_,fun w G h=>?_⟩;·have:=Cy h bw_ok2 (bwC 1);have e:(bwS 1).aO (bwC 1)=0:=Qxl;rw[e]at this;exact this
   ·have:=Qbn h bw_ok3 (by omega) (bwP 1) 3 (by decide);rw[Qxm]at this;exact this)
 have NX:Hi (∀w b G,Qt w G b bw4→Cl 16 #[.pointer (some ⟨b,0,none⟩),.int .u64 3] w fun e w'=>e=.returned (.tuple #[.agg (Bq (some ⟨bwP 1,2,0⟩)),.bool true])∧Qt w' (Qn G w w') b bw5∧Qc G w w'):=O (fun w b G h=>Rd bw_ok4 (by omega) 3 Qxv rfl h);have MI:Hi (∀W w b G,GSt W w G b bw5→Cl 23 #[.pointer (some ⟨b,0,none⟩),.int .u64 3] w fun e w'=>e=.returned (.bool false)∧Qc Qb w w'):=O (fun W w b G h=>by
  obtain⟨A,hS⟩:=h.is;have:=P6 hS Qw5 (by omega) 3 3 rfl;rw[Qxu]at this;exact this)
 have O4:=O (fun w b G(h:GSt W w G b bw4)=>Qw0 h bw_ok4 (by omega) 3 rfl Qxs);have O5:=O (fun w b G(h:GSt W w G b bw5)=>Qw0 h Qw5 (by omega) 3 rfl Qxt);unfold ptr at*;go_enter func20,ntmps20;go_wp2_with fail;refine Zo ac ?_;rintro e w1⟨b,rfl,h1,c1⟩;have S1:=O (show GSt W w1 (Qn Qb W w1) b bw0 from⟨h1,fun k hk=>hk.elim (fun h=>h.elim) (fun h=>h.1),c1⟩);clear h1 c1 ac;unfold ptr at*;go_wp2_with fail;go_loopw [3] (fun t3 wr=>∃(k:Nat)(G:Fp),t3=.int .i64 (2-(k:Int))∧k≤2∧GSt W wr G b (bwS k)) (fun t3 _=>(intOf t3).toNat);case atStart=>exact⟨0,_,rfl,by omega,S1.o⟩
 case round=>
  obtain⟨k,G,rfl,hk,hS⟩:=hrel;have S5:=O hS;clear hS S1;by_cases al:k<2
  ·have hd:decide ((2-(k:Int))≥1)=true:=by simp;omega
   have ap:decide (1≤(2-(k:Int)))=true:=by simp;omega
   have av:IntKind.i64.wrap ((2-(k:Int))-1)=2-((k+1:Nat):Int):=by rw[IntWalk.i64_in _ (by omega)];omega
   obtain⟨s1,ha,hp⟩:=R.o wr b G k al S5.o.is;have HA:=O ha;have HP:=O hp;clear ha hp;go_wp2_with fail;refine Zy HA ?_;rintro w5⟨h5,c5⟩;have S6:=O (S5.o.step h5 c5);have V:=O (HP.o _ _ S6.o.is);clear h5 c5 HA HP;go_wp2_with fail;refine Zy V ?_;rintro w6⟨h6,c6⟩;have S7:=O (S6.o.step h6 c6);clear h6 c6 V;go_wp2_with fail;go_roundw;case measure=>simp only[intOf];omega
   case rel=>exact⟨k+1,_,rfl,by omega,S7.o⟩
  ·have hd:decide ((2-(k:Int))≥1)=false:=by simp;omega
   have ap:decide (1≤(2-(k:Int)))=false:=by simp;omega
   obtain rfl:k=2:=by omega
   have S8:=O (show GSt W wr G b bw4 from S5.o);have P8:=O (O4.o _ _ _ S8.o);clear S5 R al hk O4;go_wp2_with fail;refine Zo P8 ?_;rintro e w7⟨v1,rfl,r1,g7,_⟩;have R1:=O r1;have G7:=O g7;have ae:=O (NX.o _ _ _ g7.is);clear r1 g7 P8 S8 NX;go_wp2_with fail;refine Zy ae ?_;rintro w8⟨h8,c8⟩;obtain⟨W8,s8,g8,a8,n8⟩:=Gx (G7.o.step h8 c8) (some ⟨bwP 1,2,0⟩);have S9:=O g8;have A9:=O a8;have R9:=O ((R1.o.step c8).aB n8);have P9:=O (O5.o _ _ _ g8);clear h8 c8 g8 a8 n8 ae G7 R1 O5;generalize Qn G w7 w8=G9 at*;go_wp2_with fail;clear s8;refine Zo P9 ?_;rintro e q⟨v2,rfl,r2,E,B⟩;have ao:=O E;have K:=O (A9.o.aB B);have an:=O (R9.o.aB B);have af:=O r2;have ab:=O (MI.o _ _ _ _ E);clear r2 E B P9 A9 R9 S9 MI;obtain⟨a1,au,rfl,I⟩:=an.o.cells;obtain⟨a2,aj,rfl,ak⟩:=af.o.cells;obtain⟨g1,o1,rfl,p0,p1⟩:=I _ (Zg _ _) 0 ⟨1,2⟩ rfl;obtain⟨aw,ax,e1,p2,p3⟩:=I _ (Zg _ _) 1 ⟨2,2⟩ rfl;injection e1 with e1;injection e1 with e4 e5;subst e4 e5;simp only[Nat.zero_mul,Nat.one_mul,Nat.add_zero]at p0 p1 p2 p3;have aq:q.cell? ⟨g1,o1+3,none⟩=some (.int .u8 2):=p3;have q0:q.cell? ⟨w8.heap.size,1,none⟩=some (.int .i64 1):=K.o.1.at 1 rfl;have u:=O (fun w'(c:Qc Qb q w')=>(show w'.cell? ⟨w8.heap.size,1,none⟩=some (.int .i64 1)from(c.blk K.o.1 (fun h=>h)).at 1 rfl));have ag:=O (fun w'(c:Qc Qb q w')=>ak w' c 0 ⟨2,2⟩ rfl);have aa:=O (fun w'(c:Qc Qb q w')(r:Int)=>Qw8 (Dx [2] 2) 2 r a2 aj w' (by decide) (af.o.aB c).at'.1);have CW:=O ao.o.chg;clear I ak;go_wp2_with fail;refine Zy ab ?_;intro J d;have am:=O d;have q1:=u.o J d;obtain⟨g2,o2,rfl,s0,s1⟩:=ag.o J d;simp only[Nat.zero_mul,Nat.add_zero]at s0 s1;have Z:=O (aa.o J d 2);clear d p0 p1 p2 p3 aq q0 ab;go_wp2_with fail;refine Zy Z ?_;intro ar ah;have U:=O (am.o.aA (Qc.ofBelow ah));have z:=O (aa.o ar U.o 1);have t1:G4 (Dx [2] 2) 2 2=true:=by decide
   have t2:G4 (Dx [2] 2) 2 1=false:=by decide
   rw[t2]at z;rw[t1];clear ah Z s0 s1 q1;go_wp2_with fail;refine Zy z ?_;intro ay ai;have FF:=O (CW.o.aA (U.o.aA (Qc.ofBelow ai)));clear ai z;go_wp2;go_ret;exact⟨rfl,FF.o⟩
end
theorem Qwt{s:Qf}{N t:Nat}(ok:Xp N s)(ht:t<Qq):(s.opts t).1.length≤64:=by
 unfold Qf.opts;split;·show(Lp _).length≤64;unfold Lp;rw[List.length_mergeSort];exact Zp (Ch _ _).length_le (Zp (List.length_filter_le _ _) (Qqq ok))
 ·show(Lp _).length≤64;unfold Lp;rw[List.length_mergeSort];exact Wc ok ht 9 0
end Go.Proofs.YtnnhmpehkbihnaaGreat
