/- A part of the proof: no condition. -/
import Derived.Test.YtnnhmpehkbihnaaGreatPs28
import Derived.OwnWalk
namespace Go.Proofs.YtnnhmpehkbihnaaGreat
set_option linter.unusedVariables false
set_option maxRecDepth 100000
set_option maxHeartbeats 4000000
open Go.RowKit
open Go.Proofs.Tryz
section
attribute [local go_sem] Qp
attribute [local irreducible] Kl J9 Xo
structure GSt(W w:World)(G:Fp)(b:Nat)(s:Qf):Prop where
 is:Qt w G b s
 lo:∀k,G k→W.heap.size≤k
 chg:Qc Qb W w
section
variable{W w w':World}{G:Fp}{b r:Nat}{s s':Qf}{cs:Array Value}{t:TypeId}
theorem GSt.step(h:GSt W w G b s)(h1:Qt w' (Qn G w w') b s')(d:Qc G w w'):GSt W w' (Qn G w w') b s':=
 ⟨h1,fun k c=>c.elim (h.lo k) (fun e=>Zp h.chg.size e.1),h.chg.trans d fun k c=>.inr (h.lo k c)⟩
theorem GSt.aB(h:GSt W w G b s)(c:Qc Qb w w'):GSt W w' G b s:=⟨Qt.obj.aB h.is c (Jl.none _),h.lo,h.chg.aA c⟩
def Af(w:World)(G:Fp)(r:Nat)(cs:Array Value)(t:TypeId):Prop:=Qh w r cs t∧¬G r
theorem Af.step(h:Af w G r cs t)(c:Qc G w w'):Af w' (Qn G w w') r cs t:=
 ⟨c.blk h.1 h.2,fun d=>d.elim h.2 (fun e=>by have:=h.1.lt;omega)⟩
theorem Af.aB(h:Af w G r cs t)(c:Qc Qb w w'):Af w' G r cs t:=⟨c.blk h.1 (fun h=>h),h.2⟩
end
theorem Gx{W w}{G:Fp}{b:Nat}{s:Qf}(h:GSt W w G b s)(o:Option ChM):
  ∃w',(storeCells ⟨w.heap.size,0,none⟩ (Bq o).toList 0).run prog (w.alloc (.cells #[.int .u64 0,.int .i64 0,.int .i64 0,.int .u64 0,.int .u8 0,.int .u64 0] 50))=.ok () w'∧GSt W w' G b s∧Af w' G w.heap.size (Bq o) 50∧Qc Qb w w':=by
 have q:(Bq o).size=6:=by cases o<;>rfl
 have c:∀v∈(Bq o).toList,v.oneCell'=true:=by cases o<;>exact Iy _ _ _
 obtain⟨w',s3,d,z⟩:=Q0 (P:=prog) (vs:=Bq o) (Qh.new w #[.int .u64 0,.int .i64 0,.int .i64 0,.int .u64 0,.int .u8 0,.int .u64 0] 50) q c;have u:Qc Qb w w':=((Zg Qb w).alloc _).trans z (fun k e=>.inr (by omega));refine⟨w',s3,h.aB u,⟨d,fun B=>?_⟩,u⟩;have:=Qt.obj.bd h.is _ B;omega
def awS:Nat→Qf
 |0=>aw2
 |1=>aw4
 |_=>aw6
theorem Rd{w}{G:Fp}{b N:Nat}{s s':Qf}{o:Option ChM}(ok:Xp N s)(c:N<549755813000)(now:Nat)(d:(s.next now).1=o)(hs:(s.next now).2=s')(h:Qt w G b s):
  Cl 16 #[ptr b,.int .u64 now] w fun e w'=>e=.returned (.tuple #[.agg (Bq o),.bool o.isSome])∧Qt w' (Qn G w w') b s'∧Qc G w w':=by
 subst d hs;exact Pg h ok c now
theorem Re{w}{G:Fp}{b N:Nat}{s s':Qf}{c:Int}(ok:Xp N s)(d:N<549755813000)(p:Jr)(k:s.aQ p=c)(hs:s.push p 0=s')(h:Qt w G b s):
  Cl 28 #[ptr b,.agg #[.int .u64 p.id,.int .i64 p.cls,.int .i64 p.len,.int .u64 p.at_],.int .u64 0] w fun e w'=>e=.returned (.int .i64 c)∧Qt w' (Qn G w w') b s'∧Qc G w w':=by
 subst k hs;exact Qbn h ok d p 0 (by decide)
theorem Rc(W):Cl 8 #[] W fun e w'=>e=.returned (.bool true)∧Qc Qb W w':=by
 have au:=O (fun w=>Qeb 1500 (by decide) (by decide) w);have NO:=O (fun w=>Qiz 0 w (.inl (by decide)));have ae:Hi (∀w b G,Qt w G b aw0→Cl 27 #[.pointer (some ⟨b,0,none⟩),.agg #[.int .i64 1,.int .i64 0,.bool true,.int .u64 0,.int .u64 0,.int .u64 256,.int .u64 0,.int .u64 0,.int .u64 0,.int .u64 0,.int .u64 0,.int .u64 0,.int .i64 5,.int .i64 1000]] w fun e w'=>e=.returned (.int .i64 0)∧Qt w' (Qn G w w') b aw1∧Qc G w w'):=O (fun w b G h=>by
  have:=Cy h aw_ok0 Quv;rw[Qvj]at this;exact this)
 have af:Hi (∀w b G,Qt w G b aw1→Cl 27 #[.pointer (some ⟨b,0,none⟩),.agg #[.int .i64 2,.int .i64 0,.bool true,.int .u64 0,.int .u64 0,.int .u64 0,.int .u64 0,.int .u64 0,.int .u64 256,.int .u64 0,.int .u64 0,.int .u64 0,.int .i64 5,.int .i64 1000]] w fun e w'=>e=.returned (.int .i64 0)∧Qt w' (Qn G w w') b aw2∧Qc G w w'):=O (fun w b G h=>by
  have:=Cy h aw_ok1 Quw;rw[Qvk]at this;exact this)
 have P3:Hi (∀w b G,Qt w G b aw2→Cl 28 #[.pointer (some ⟨b,0,none⟩),.agg #[.int .u64 1,.int .i64 1,.int .i64 100,.int .u64 0],.int .u64 0] w fun e w'=>e=.returned (.int .i64 0)∧Qt w' (Qn G w w') b aw3∧Qc G w w'):=O (fun w b G h=>Re aw_ok2 (by decide) Im Qvf rfl h);have P4:Hi (∀w b G,Qt w G b aw3→Cl 28 #[.pointer (some ⟨b,0,none⟩),.agg #[.int .u64 2,.int .i64 2,.int .i64 100,.int .u64 0],.int .u64 0] w fun e w'=>e=.returned (.int .i64 0)∧Qt w' (Qn G w w') b aw4∧Qc G w w'):=O (fun w b G h=>Re aw_ok3 (by decide) In Qvg rfl h);have P5:Hi (∀w b G,Qt w G b aw4→Cl 28 #[.pointer (some ⟨b,0,none⟩),.agg #[.int .u64 1,.int .i64 1,.int .i64 100,.int .u64 0],.int .u64 0] w fun e w'=>e=.returned (.int .i64 0)∧Qt w' (Qn G w w') b aw5∧Qc G w w'):=O (fun w b G h=>Re aw_ok4 (by decide) Im Qvh rfl h);have P6:Hi (∀w b G,Qt w G b aw5→Cl 28 #[.pointer (some ⟨b,0,none⟩),.agg #[.int .u64 2,.int .i64 2,.int .i64 100,.int .u64 0],.int .u64 0] w fun e w'=>e=.returned (.int .i64 0)∧Qt w' (Qn G w w') b aw6∧Qc G w w'):=O (fun w b G h=>Re aw_ok5 (by decide) In Qvi rfl h);have NX:Hi (∀w b G,Qt w G b aw6→Cl 16 #[.pointer (some ⟨b,0,none⟩),.int .u64 0] w fun e w'=>e=.returned (.tuple #[.agg (Bq (some ⟨Im,1,100⟩)),.bool true])∧Qt w' (Qn G w w') b aw7∧Qc G w w'):=O (fun w b G h=>Rd aw_ok6 (by decide) 0 Qvw rfl h);have NY:Hi (∀w b G,Qt w G b aw7→Cl 16 #[.pointer (some ⟨b,0,none⟩),.int .u64 1] w fun e w'=>e=.returned (.tuple #[.agg (Bq (some ⟨In,2,0⟩)),.bool true])∧Qt w' (Qn G w w') b aw8∧Qc G w w'):=O (fun w b G h=>Rd aw_ok7 (by decide) 1 Qvx rfl h);have NZ:Hi (∀w b G,Qt w G b aw8→Cl 16 #[.pointer (some ⟨b,0,none⟩),.int .u64 99] w fun e w'=>e=.returned (.tuple #[.agg (Bq (some ⟨In,2,0⟩)),.bool true])∧Qt w' (Qn G w w') b aw9∧Qc G w w'):=O (fun w b G h=>Rd aw_ok8 (by decide) 99 Qvy rfl h);have NN:Hi (∀w b G,Qt w G b aw9→Cl 16 #[.pointer (some ⟨b,0,none⟩),.int .u64 99] w fun e w'=>e=.returned (.tuple #[.agg (Bq none),.bool false])∧Qt w' (Qn G w w') b aw10∧Qc G w w'):=O (fun w b G h=>Rd aw_ok9 (by decide) 99 Qvt rfl h);have TK:Hi (∀w b G,Qt w G b aw10→Cl 18 #[.pointer (some ⟨b,0,none⟩)] w fun e w'=>e=.returned (.int .u64 100)∧Qc Qb w w'):=O (fun w b G h=>by
  obtain⟨A,h⟩:=h;have:=Qbo h aw_ok10;rw[Qvu]at this;exact this)
 have NW:Hi (∀w b G,Qt w G b aw10→Cl 16 #[.pointer (some ⟨b,0,none⟩),.int .u64 100] w fun e w'=>e=.returned (.tuple #[.agg (Bq (some ⟨Im,1,200⟩)),.bool true])∧Qt w' (Qn G w w') b aw11∧Qc G w w'):=O (fun w b G h=>Rd aw_ok10 (by decide) 100 Qvv rfl h);have PL:Hi (∀w b G,Qt w G b aw11→Cl 28 #[.pointer (some ⟨b,0,none⟩),.agg #[.int .u64 0,.int .i64 9,.int .i64 5,.int .u64 0],.int .u64 0] w fun e w'=>e=.returned (.int .i64 81)∧Qt w' (Qn G w w') b (aw11.push ⟨0,9,5,0⟩ 0)∧Qc G w w'):=O (fun w b G h=>Re Qtd (by decide) ⟨0,9,5,0⟩ Qvs rfl h);unfold ptr at*;go_enter func8,ntmps8;go_wp2_with fail;refine(au.o _).mono ?_;rintro e w1⟨b,rfl,h1,c1⟩;have S1:=O (show GSt W w1 (Qn Qb W w1) b aw0 from⟨h1,fun k hk=>hk.elim (fun h=>h.elim) (fun h=>h.1),c1⟩);clear h1 c1 au;unfold ptr at*;go_wp2_with fail;refine Zz (NO.o _) ?_;intro w2 c2;have S2:=O (S1.o.aB c2);clear c2 NO;generalize Qn Qb W w1=G0 at S1 S2;clear S1;go_wp2_with fail;refine Zz (ae.o _ _ _ S2.o.is) ?_;rintro w3⟨h3,c3⟩;have S3:=O (S2.o.step h3 c3);clear h3 c3 ae;generalize Qn G0 w2 w3=G3 at S3;clear S2;go_wp2_with fail;refine Zz (af.o _ _ _ S3.o.is) ?_;rintro w4⟨h4,c4⟩;have S4:=O (S3.o.step h4 c4);clear h4 c4 af;generalize Qn G3 w3 w4=G4 at S4;clear S3;go_wp2_with fail;go_loopw [7] (fun t7 wr=>∃(k:Nat)(G:Fp),t7=.int .i64 k∧k≤2∧GSt W wr G b (awS k)) (fun t7 _=>2-(intOf t7).toNat);case atStart=>exact⟨0,_,rfl,by omega,S4.o⟩
 case round=>
  obtain⟨k,G,rfl,hk,hS⟩:=hrel;have S5:=O hS;clear hS S4;by_cases bj:k<2
  ·have hd:decide ((k:Int)<2)=true:=by simp;omega
   have bt:IntKind.i64.wrap ((k:Int)+1)=(k:Int)+1:=by rw[IntWalk.i64_in _ (by omega)]
   have PA:Hi (∃sm,Cl 28 #[.pointer (some ⟨b,0,none⟩),.agg #[.int .u64 1,.int .i64 1,.int .i64 100,.int .u64 0],.int .u64 0] wr (fun e w'=>e=.returned (.int .i64 0)∧GSt W w' (Qn G wr w') b sm)∧∀w G,GSt W w G b sm→Cl 28 #[.pointer (some ⟨b,0,none⟩),.agg #[.int .u64 2,.int .i64 2,.int .i64 100,.int .u64 0],.int .u64 0] w fun e w'=>e=.returned (.int .i64 0)∧GSt W w' (Qn G w w') b (awS (k+1))):=O (by
    rcases(show k=0∨k=1 by omega)with rfl|rfl;·exact⟨aw3,(P3.o _ _ _ S5.o.is).mono fun e w' h=>⟨h.1,S5.o.step h.2.1 h.2.2⟩,fun w G hG=>(P4.o _ _ _ hG.is).mono fun e w' h=>⟨h.1,hG.step h.2.1 h.2.2⟩⟩
    ·exact⟨aw5,(P5.o _ _ _ S5.o.is).mono fun e w' h=>⟨h.1,S5.o.step h.2.1 h.2.2⟩,fun w G hG=>(P6.o _ _ _ hG.is).mono fun e w' h=>⟨h.1,hG.step h.2.1 h.2.2⟩⟩)
   obtain⟨sm,pa,pb⟩:=PA.o;have PB:=O pb;have PC:=O pa;clear pa pb PA;go_wp2_with fail;refine Zy PC ?_;intro w5 h5;have S6:=O h5;clear h5;go_wp2_with fail;refine Zz (PB.o _ _ S6.o) ?_;intro w6 h6;have S7:=O h6;clear h6;go_wp2_with fail;go_roundw;case measure=>simp only[intOf];omega
   case rel=>exact⟨k+1,_,by rw[←Int.natCast_one,←Int.natCast_add],by omega,S7.o⟩
  ·have hd:decide ((k:Int)<2)=false:=by simp;omega
   obtain rfl:k=2:=by omega
   have S8:=O (show GSt W wr G b aw6 from S5.o);clear S5 P3 P4 P5 P6 bj hk;go_wp2_with fail;refine Zz (NX.o _ _ _ S8.o.is) ?_;rintro w8⟨h8,c8⟩;obtain⟨W8,s8,g8,a8,n8⟩:=Gx (S8.o.step h8 c8) (some ⟨Im,1,100⟩);have S9:=O g8;have A9:=O a8;clear h8 c8 g8 a8 n8 NX;generalize Qn G wr w8=G9 at S9 A9;clear S8;go_wp2_with fail;clear s8;refine Zz (NY.o _ _ _ S9.o.is) ?_;rintro a9⟨a2,an⟩;obtain⟨bg,bk,ay,av,a7⟩:=Gx (S9.o.step a2 an) (some ⟨In,2,0⟩);have E:=O ay;have ag:=O av;have ai:=O ((A9.o.step an).aB a7);clear a2 an ay av a7 NY;generalize Qn G9 W8 a9=bd at E ag ai;clear S9 A9;go_wp2_with fail;clear bk;refine Zz (NZ.o _ _ _ E.o.is) ?_;rintro ba⟨a3,R⟩;obtain⟨bh,bl,az,aw,ao⟩:=Gx (E.o.step a3 R) (some ⟨In,2,0⟩);have I:=O az;have ah:=O aw;have aj:=O ((ai.o.step R).aB ao);have c:=O ((ag.o.step R).aB ao);clear a3 R az aw ao NZ;generalize Qn bd bg ba=be at I ah aj c;clear E ai ag;go_wp2_with fail;clear bl;refine Zz (NN.o _ _ _ I.o.is) ?_;rintro bp⟨a4,u⟩;obtain⟨bs,bm,a0,bi,U⟩:=Gx (I.o.step a4 u) none;have J:=O a0;have ak:=O ((aj.o.step u).aB U);have d:=O ((c.o.step u).aB U);have q:=O ((ah.o.step u).aB U);clear a4 u a0 bi U NN;generalize Qn be bh bp=bf at J ak d q;clear I aj c ah;go_wp2_with fail;clear bm;refine Zz (TK.o _ _ _ J.o.is) ?_;intro bq z;have al:=O (J.o.aB z);have aq:=O (ak.o.aB z);have Z:=O (d.o.aB z);have ab:=O (q.o.aB z);clear z TK J ak d q;go_wp2_with fail;refine Zz (NW.o _ _ _ al.o.is) ?_;rintro bb⟨a5,B⟩;obtain⟨K,bo,a1,ax,V⟩:=Gx (al.o.step a5 B) (some ⟨Im,1,200⟩);have am:=O a1;have ap:=O ax;have ar:=O ((aq.o.step B).aB V);have aa:=O ((Z.o.step B).aB V);have ac:=O ((ab.o.step B).aB V);clear a5 B a1 ax V NW;generalize Qn bf bq bb=br at am ap ar aa ac;clear al aq Z ab;obtain⟨x0,x1,x2,x3,x4,x5⟩:=Lf (show Qh K w8.heap.size #[.int .u64 1,.int .i64 1,.int .i64 100,.int .u64 0,.int .u8 1,.int .u64 100] _ from ar.o.1);obtain⟨y0,y1,y2,y3,y4,y5⟩:=Lf (show Qh K a9.heap.size #[.int .u64 2,.int .i64 2,.int .i64 100,.int .u64 0,.int .u8 2,.int .u64 0] _ from aa.o.1);obtain⟨z0,z1,z2,z3,z4,z5⟩:=Lf (show Qh K ba.heap.size #[.int .u64 2,.int .i64 2,.int .i64 100,.int .u64 0,.int .u8 2,.int .u64 0] _ from ac.o.1);obtain⟨u0,u1,u2,u3,u4,u5⟩:=Lf (show Qh K bb.heap.size #[.int .u64 1,.int .i64 1,.int .i64 100,.int .u64 0,.int .u8 1,.int .u64 200] _ from ap.o.1);go_wp2_with fail;clear bo;refine Zz (PL.o _ _ _ am.o.is) ?_;rintro bu⟨a6,c19⟩;have bc:=O (am.o.step a6 c19).chg;clear a6 c19 PL x0 x1 x2 x3 x4 x5 y0 y1 y2 y3 y4 y5 z0 z1 z2 z3 z4 z5 u0 u1 u2 u3 u4 u5;go_wp2;go_ret;exact⟨rfl,bc.o⟩
theorem F3(n:Nat)(a:Option Addr)(cap:Nat)(w):Cl 9 #[.slice a n cap] w fun e w'=>e=.returned (.bool (decide (150<n)))∧w=w':=by
 go_enter func9,ntmps9;go_wp2;go_ret;refine⟨?_,rfl⟩;congr 2;by_cases h:150<n;·simp[h];omega
 ·simp[h];omega
section
variable{A:Tb}{w:World}{F:Fp}{b:Nat}{s:Qf}{N:Nat}
theorem Qc3{i:Int}(hl:s.leaf i=none):s.elig i=Qq∧s.due i=Qq:=by unfold Qf.elig Qf.due;rw[hl];exact⟨rfl,rfl⟩
theorem Qm6{i:Int}{l:Qw}(hl:s.leaf i=some l)(c:l.debt=none):s.elig i=Qq∧s.due i=Qq:=by unfold Qf.elig Qf.due;rw[hl];simp[c]
theorem Qc4{i:Int}{l:Qw}{d:Ju}(hl:s.leaf i=some l)(c:l.debt=some d):s.elig i=d.from_∧s.due i=d.dueAt:=by unfold Qf.elig Qf.due;rw[hl];simp[c]
theorem Hz(h:Qi A w F b s)(ok:Xp N s)(hN:N<549755813000)(id:Int):Cl 17 #[ptr b,.int .i64 id] w fun e w'=>e=.returned (.tuple #[.int .u64 ((s.elig id:Nat):Int),.int .u64 ((s.due id:Nat):Int),.int .u64 ((s.fit id:Nat):Int)])∧Qc Qb w w':=by
 have Z:=O (Ku h ok.most.1);obtain⟨a0,a1,a2,a3,a4⟩:=Ym h.blk;obtain⟨Gp,⟨AP,U⟩,_⟩:=h.pickOf;have K:=O (fun w'(c:Qc Qb w w')=>Qpj ((Qo.obj AP).aB U c (Jl.none _)) ok.pick (by omega) id);have J:=h.look1 id;unfold Qf.fit;generalize s.pick.fitAt id=f at K⊢;have aa:=O (fun w'(c:Qc Qb w w')=>((Qi.obj A).aB h c (Jl.none F)).blk);cases hl:s.leaf id with
 |none=> rw[(Qc3 hl).1,(Qc3 hl).2];rw[Qae hl]at J;have B:=O (Zg Qb w);unfold ptr at*;clear h ok U hl;go_enter func17,ntmps17;go_wp2_with fail;refine Zy Z ?_;rintro w1 rfl;go_wp2_with fail;refine Zz (K.o _ B.o) ?_;intro w2 u;have k:=O u;clear u;go_wp2;go_ret3;exact⟨rfl,k.o⟩
 |some l=>
  rw[G7 hl]at J;obtain⟨qb,dv,q,_,G,R⟩:=h.leafQ hl;obtain⟨l0,l1⟩:=Q4 q;have I:=O (fun w'(c:Qc Qb w w')=>c.blk q (fun h=>h));cases z:l.debt with
  |none=> rw[(Qm6 hl z).1,(Qm6 hl z).2];rw[z]at R;obtain⟨rfl,_⟩:=R;have B:=O (Zg Qb w);unfold ptr at*;clear h ok U hl q I z;go_enter func17,ntmps17;go_wp2_with fail;refine Zy Z ?_;rintro w1 rfl;go_wp2_with fail;refine Zz (K.o _ B.o) ?_;intro w2 u;have k:=O u;clear u;go_wp2;go_ret3;exact⟨rfl,k.o⟩
  |some d=>
   rw[(Qc4 hl z).1,(Qc4 hl z).2];rw[z]at R;obtain⟨db,rfl,E⟩:=R;have HE:=O (Ay (Ye.obj.aB E (Zg Qb w).drew (Jl.none _)));have HU:=O (Cb (Ye.obj.aB E (Zg Qb w).drew (Jl.none _)));generalize d.from_=x at HE⊢;generalize d.dueAt=y at HU⊢;have B:=O (Zg Qb w).drew;obtain⟨m0,m1⟩:=Q4 q.drew;obtain⟨n0,n1,n2,n3,n4⟩:=Ym h.drew.blk;unfold ptr at*;clear h ok U hl q z E;go_enter func17,ntmps17;go_wp2_with fail;refine Zy Z ?_;rintro w1 rfl;go_wp2_with fail;refine Jp [(0,0),(0,1),(0,2),(0,3),(1,5),(1,6),(1,7),(1,8),(2,4),(3,9),(3,10),(3,11)] (fun V=>Qc (Qb) (w) V) Zq (by kernel_rfl) (fun _ _ _ _ _ h=>h) (Zj (Zg _ _)) ?_;simp only[Jk,Zf,Ze,Zd];iterate 4 (refine Xe (by kernel_rfl) (by go_simp;try rfl) ?_)
   iterate 3 (refine Qy (by kernel_rfl) (fun V hv=>by go_simp;try rfl) ?_;try simp only[Act.put,Za,Zc,Zb])
   iterate 1 (refine Qy (by kernel_rfl) (fun V hv=>by(obtain⟨z0,z1⟩:=Q4 (I.o V hv));go_simp;try rfl) ?_;try simp only[Act.put,Za,Zc,Zb])
   refine Yb ?_;go_wp2_with fail;refine Zy HE ?_;rintro w2 rfl;go_wp2_with fail;refine⟨B.o,?_⟩;refine Km ?_;go_wp2_with fail;refine Zy HU ?_;rintro w2 rfl;go_wp2_with fail;refine Km ?_;go_wp2_with fail;refine Km ?_;go_wp2_with fail;refine Ky ?_;go_wp2_with fail;refine Zz (K.o _ B.o) ?_;intro w2 u;have k:=O (B.o.aA u);clear u;go_wp2;go_ret3;exact⟨rfl,k.o⟩
end
theorem Qgv{w}{F:Fp}{v:Value}{o:Option Ju}(h:Kv w F v o)(hn:∀d,o=some d→d.run.l.length<549755813888):
  Cl 40 #[v] w fun e w'=>∃v',e=.returned v'∧Kv w' (Qn Qb w w') v' o∧Qc Qb w w':=by
 cases o with
 |none=> obtain⟨rfl,_⟩:=h;have c:=O (Zg Qb w);go_enter func40,ntmps40;go_wp2;go_ret;exact⟨_,rfl,⟨rfl,fun k B=>B.elim (fun h=>h.elim) (fun h=>h.2)⟩,c.o⟩
 |some d=> obtain⟨b,rfl,z⟩:=h;refine(Qj5 z (hn d rfl)).mono ?_;rintro e w'⟨b',rfl,u,q⟩;exact⟨_,rfl,⟨b',rfl,u⟩,q⟩
section
variable{A:Tb}{w:World}{F:Fp}{b:Nat}{s:Qf}{N:Nat}
theorem Qi.perm(h:Qi A w F b s){s':Qf}(h0:s'.most=s.most)(h1:s'.tree=s.tree)(c:s'.row=s.row)(d:s'.pick=s.pick)(q:s.aI.Perm s'.aI):Qi A w F b s':=by
 obtain⟨L,k,hs⟩:=h;refine⟨L,k.trans q,?_⟩;have:Lw A b L s'=Lw A b L s:=by unfold Lw Qfq;rw[h0,h1,c,d]
 rw[this];exact hs
theorem Qi.fresh{w0 w4 w5:World}{tb m rb pb q:Nat}{s:Qf}{B u z:Fp}(hT:Q9 w4 B tb s.tree)(hM:Xq w4 m [])(hE:Yq w4 u rb s.row)(hP:Yr w4 z pb s.pick)
  (g1:∀k,B k→w0.heap.size≤k∧k<w4.heap.size)(gm:w0.heap.size≤m)(I:∀k,u k→w0.heap.size≤k∧k<w4.heap.size)(J:∀k,z k→w0.heap.size≤k∧k<w4.heap.size)
  (V:¬B m)(aa:¬u m)(ab:¬z m)(K:Jl B u)(R:Jl B z)(Z:Jl u z)(d:Qc Qb w4 w5)(hB:Qh w5 q #[.int .i64 s.most,ptr tb,.map (some m),ptr rb,ptr pb] 79)(hq:w4.heap.size≤q)(ac:w0.heap.size≤w4.heap.size):
  Qi ⟨tb,m,rb,pb,fun _=>0⟩ w5 (fun k=>w0.heap.size≤k∧k<w5.heap.size) q {s with aI:=[]}:=by
 have s4:=d.size;have s5:=hB.lt;have ae:=hM.lt;refine⟨[],List.Perm.refl _,?_⟩;have t5:Q9 w5 B tb s.tree:=Q9.obj.aB hT d (Jl.none _);have m5:Xq w5 m []:=hM.aB d (fun h=>h);have e5:Yq w5 u rb s.row:=Yq.obj.aB hE d (Jl.none _);have p5:Yr w5 z pb s.pick:=Yr.obj.aB hP d (Jl.none _);have bd:∀{U:Fp},(∀k,U k→w0.heap.size≤k∧k<w4.heap.size)→Bd U w5:=fun h k c=>Nat.lt_of_lt_of_le (h k c).2 s4;refine Q7 (G:=fun k=>k=q) (H:=fun k=>B k∨k=m∨u k∨z k) ⟨hB,rfl,fun k e=>e▸s5⟩ ?_ ?_ (fun k e=>by omega) ?_ (fun k c=>c.2)
 ·refine Q7 (G:=B) (H:=fun k=>k=m∨u k∨z k) t5 ?_ ?_ (fun k c=>.inl c) (fun k c=>.inr c) ?_
  ·refine Q7 (G:=fun k=>k=m) (H:=fun k=>u k∨z k) (Yn.new m5 (fun k e=>by rw[e];exact m5.lt) rfl) ?_ ?_ (fun k c=>.inl c) (fun k c=>.inr c) ?_;·refine Q7 (G:=u) (H:=z) e5 (Y6 p5 (Yr.obj.bd p5)) Z (fun k c=>.inl c) (fun k c=>.inr c) ?_;exact fun k c=>c.elim (bd I k) (bd J k)
   ·rintro k rfl(c|c);·exact aa c
    ·exact ab c
   ·rintro k(rfl|c|c);·omega
    ·exact bd I k c
    ·exact bd J k c
  ·rintro k c(rfl|E|E);·exact V c
   ·exact K k c E
   ·exact R k c E
  ·rintro k(c|rfl|c|c);·exact bd g1 k c
   ·omega
   ·exact bd I k c
   ·exact bd J k c
 ·rintro k rfl(c|c|c|c);·have:=g1 k c;omega
  ·omega
  ·have:=I k c;omega
  ·have:=J k c;omega
 ·rintro k(c|rfl|c|c);·have:=g1 k c;omega
  ·omega
  ·have:=I k c;omega
  ·have:=J k c;omega
structure Qgb(A:Tb)(w:World)(s:Qf)(l:List Qw)(q r:Nat)(wr:World)(lm dn:List Qw):Prop where
 it:Kj wr A.m r (Xy Qw.id A.ad l) (Xy Qw.id A.ad lm)
 sub:lm.Sublist l
 perm:(dn++lm).Perm l
 chg:Qc Qb w wr
 co:∃(A':Tb)(G:Fp),Qi A' wr G q {s with aI:=dn}∧(∀k,G k→w.heap.size≤k∧k≠r)
 nr:w.heap.size≤r
theorem Qgb.step{l:List Qw}{q r:Nat}{wr}{V u:List Qw}(h:Qgb A w s l q r wr V u){Z:Tb}{G:Fp}(hA:Qi Z wr G q {s with aI:=u})(I:∀k,G k→w.heap.size≤k∧k≠r)(J:(l.map Qw.id).Nodup){x:Qw}(hx:x∈V){w2 w3 w4 w5}
  (d:Kj w2 A.m r (Xy Qw.id A.ad l) (Vu x.id (Xy Qw.id A.ad V))) (z:Qc (fun k=>k=r) wr w2) {qb rb:Nat} {dv:Value} (hq:Jz w3 qb rb x.pk x.bt x.q) (ae:w2.heap.size≤qb∧qb<w3.heap.size) (af:w2.heap.size≤rb∧rb<w3.heap.size)
  (c3:Qc Qb w2 w3) (hd:Kv w4 (Qn Qb w3 w4) dv x.debt) (c4:Qc Qb w3 w4) (R:w5=w4.alloc (.cells #[ptr qb,dv] 85)) (aj:A.m<w.heap.size):
  ∃w6,(Instr.mapUpdate 75 (.map (some Z.m)) (.int .i64 x.id) (.pointer (some ⟨w4.heap.size,0,none⟩))).run prog w5=.ok () w6∧
   Qgb A w s l q r w6 (Kp Qw.id x.id V) (u++[x])∧Dq w6 r<Dq wr r:=by
 have s1:=h.chg.size;have s2:=z.size;have s3:=c3.size;have s4:=c4.size;have B:Qc Qb w4 w5:=by rw[R];exact(Zg _ _).alloc _
 have ab:Qh w5 w4.heap.size #[ptr qb,dv] 85:=by rw[R];exact Qh.new _ _ _
 have ah:r<w2.heap.size:=by obtain⟨o2,h2,_⟩:=d.walk;exact(Z2.1 h2).1
 have E:=(Qi.obj Z).aB hA z (fun k c e=>(I k c).2 e);have aa:Qc Qb w2 w5:=(c3.aA c4).aA B;have hL:Yj w5 (Qn Qb w2 w5) w4.heap.size x:=Yj.made (w:=w2) (w1:=w2) (Zg _ _) hq ae af c4 hd B ab (Zv _);have hn:Qf.leaf {s with aI:=u} x.id=none:=by
  show Hn Qw.id x.id u=none;cases ac:Hn Qw.id x.id u with
  |none=>rfl
  |some y=> obtain⟨hy,ag⟩:=Y3 ac;have hn:=((h.perm.map Qw.id).nodup_iff).2 J;rw[List.map_append,List.nodup_append]at hn;exact absurd ag (hn.2.2 _ (Z3.2 ⟨y,hy,rfl⟩) _ (Z3.2 ⟨x,hx,rfl⟩))
 obtain⟨w6,r6,h6,c6⟩:=E.newLeaf hn aa hL;have s6:=c6.size;have ai:∀k,G k→k<w2.heap.size:=(Qi.obj Z).bd E;have U:Kj w6 A.m r (Xy Qw.id A.ad l) (Vu x.id (Xy Qw.id A.ad V)):=d.aB c6 (fun c=>by have:=(I _ c).1;omega) (fun c=>(I r c).2 rfl);have K:=O8 (key:=Qw.id) (J.sublist (h.sub.map Qw.id)) hx;refine⟨w6,r6,⟨?_,List.filter_sublist.trans h.sub,?_,?_,⟨_,_,h6,fun k c=>?_⟩,h.nr⟩,?_⟩;·rw[←Hr];exact U
 ·refine List.Perm.trans ?_ h.perm;rw[List.append_assoc];exact List.Perm.append_left u K.symm
 ·exact(h.chg.trans z (fun k e=>.inr (by rw[e];exact h.nr))).trans c6 (fun k c=>.inr (I k c).1)
 ·rcases c with c|c;·exact I k c
  ·exact⟨by omega,by omega⟩
 ·rw[U.left_eq,h.it.left_eq,Hr];have:=K.length_eq;simp only[Xy,List.length_map,Zm]at*;omega
theorem Qmc(h:Qi A w F b s)(ok:Xp N s)(hN:N<549755813000):
  Cl 15 #[ptr b] w fun e w'=>∃b',e=.returned (ptr b')∧Qt w' (Qn Qb w w') b' s∧Qc Qb w w':=by
 have HH:=O h;have a9:=(Qi.obj A).bd h;have HN:=O (Ku h ok.most.1);obtain⟨L,hp,Gc,hC,ba,_⟩:=h.collOf;have be:A.m<w.heap.size:=a9 _ (ba _ hC.at_);have bi:=O be;have ar:=O hC.nodup;have HP:=O hp;have HC:=O (fun w'(c:Qc Qb w w')=>hC.map.aB c (fun h=>h));obtain⟨Gt,ht,_⟩:=h.treeOf;obtain⟨Gr,hr,_⟩:=h.rowOf;obtain⟨Gp,⟨AP,bf⟩,_⟩:=h.pickOf;have HT:=O (fun w'(c:Qc Qb w w')=>Ww (Q9.obj.aB ht c (Jl.none _)) (by have:=ok.tree.many;omega));have HE:=O (fun w'(c:Qc Qb w w')=>Qj8 (Yq.obj.aB hr c (Jl.none _)));have ae:=O (fun w'(c:Qc Qb w w')=>Qli ((Qo.obj AP).aB bf c (Jl.none _)) ok.pick (by omega));have HB:=O (fun w'(c:Qc Qb w w')=>c.blk h.blk (fun h=>h));have bj:=O ok.ok;have bv:=@run_makeMap prog;have C0:=O (Zg Qb w).drew;obtain⟨a0,a1,a2,a3,a4⟩:=Ym h.drew.blk;have aa:Hi (∀w4 tb m rb pb l1 h1 l2 h2 l3 h3,Qc Qb w w4→Q9 w4 (fun k=>l1≤k∧k<h1) tb s.tree→Xq w4 m []→Yq w4 (fun k=>l2≤k∧k<h2) rb s.row→Yr w4 (fun k=>l3≤k∧k<h3) pb s.pick→w.heap.size≤l1∧h1≤w4.heap.size∧w.heap.size≤m∧w.heap.size≤l2∧h2≤w4.heap.size∧w.heap.size≤l3∧h3≤w4.heap.size→(m<l1∨h1≤m)∧(m<l2∨h2≤m)∧(m<l3∨h3≤m)∧(h1≤l2∨h2≤l1)∧(h1≤l3∨h3≤l1)∧(h2≤l3∨h3≤l2)→
   ∃A',Qi A' (w4.alloc (.cells #[.int .i64 s.most,ptr tb,.map (some m),ptr rb,ptr pb] 79)) (fun k=>w.heap.size≤k∧k<(w4.alloc (.cells #[.int .i64 s.most,ptr tb,.map (some m),ptr rb,ptr pb] 79)).heap.size) w4.heap.size {s with aI:=[]}∧Qc Qb w (w4.alloc (.cells #[.int .i64 s.most,ptr tb,.map (some m),ptr rb,ptr pb] 79))):=O (by
  intro w4 tb m rb pb l1 h1 l2 h2 l3 h3 a6 hT hM hE hP hb hd;have a7:Qc Qb w4 (w4.alloc (.cells #[.int .i64 s.most,ptr tb,.map (some m),ptr rb,ptr pb] 79)):=(Zg _ _).alloc _;exact⟨_,Qi.fresh hT hM hE hP (fun k u=>by omega) (by omega) (fun k u=>by omega) (fun k u=>by omega) (fun u=>by omega) (fun u=>by omega) (fun u=>by omega) (fun k x y=>by omega) (fun k x y=>by omega) (fun k x y=>by omega) a7 (Qh.new _ _ _) (Zv _) a6.size,a6.aA a7⟩)
 have ah:Hi (∀wa wb wc b',Q9 wb (Qn Qb wa wb) b' s.tree→Qc Qb wb wc→Q9 wc (fun k=>wa.heap.size≤k∧k<wb.heap.size) b' s.tree):=O (fun wa wb wc b' h c=>Q9.obj.aB (Q9.obj.more h (fun k u=>(Qr k).1 u) (fun k u=>u.2)) c (Jl.none _));have af:Hi (∀wa wb wc b',Yq wb (Qn Qb wa wb) b' s.row→Qc Qb wb wc→Yq wc (fun k=>wa.heap.size≤k∧k<wb.heap.size) b' s.row):=O (fun wa wb wc b' h c=>Yq.obj.aB (Yq.obj.more h (fun k u=>(Qr k).1 u) (fun k u=>u.2)) c (Jl.none _));have ag:Hi (∀wa wb wc b',Yr wb (Qn Qb wa wb) b' s.pick→Qc Qb wb wc→Yr wc (fun k=>wa.heap.size≤k∧k<wb.heap.size) b' s.pick):=O (fun wa wb wc b' h c=>Yr.obj.aB (Yr.obj.more h (fun k u=>(Qr k).1 u) (fun k u=>u.2)) c (Jl.none _));unfold ptr at*;clear h ok hp hC ba ht hr bf a9 be;go_enter func15,ntmps15;go_wp2_with fail;refine Zy HN ?_;rintro w1 rfl;go_wp2_with fail;go_cut [3] (fun s3 wz=>∃q A',s3=.pointer (some ⟨q,0,none⟩)∧w.heap.size≤q∧Qi A' wz (fun k=>w.heap.size≤k∧k<wz.heap.size) q {s with aI:=[]}∧Qc Qb w wz)
 case first=>
  refine Ui (.lookp 0 (.lookp 1 (.lookp 2 (.lookp 3 (.lookp 4 (.lookp 5 (.lookp 6 (.lookp 7 (.lookp 10 (.lookp 11 (.lookp 12 (.lookp 13 (.lookp 15 (.lookp 16 (.lookp 17 (.lookp 18 (.fork 8 (.fork 9 (.walk 14 (.walk 19 (.look 20 (.walk 21 (.walk 22 .nil))))) 14 (.fork 9 (.walk 19 (.look 20 (.walk 21 (.walk 22 .nil)))) 19 (.walk 9 (.look 20 (.walk 21 (.walk 22 .nil)))))) 9 (.walk 8 (.walk 14 (.walk 19 (.look 20 (.walk 21 (.walk 22 .nil))))))))))))))))))))))) (fun B=>Qc (Qb) (w) B) Zq (by kernel_rfl) (fun _ _ _ _ _ h=>h) (Zj (Zg _ _)) ?_;simp only[O0,Zf,Ze,Zd];iterate 3 (first|(refine Vd (by kernel_rfl) (by go_simp;try rfl) ?_)|(refine Xi (by kernel_rfl) (fun B R=>by go_simp;try rfl) ?_);try simp only[Act.put,Za,Zc,Zb])
  iterate 1 (refine Xi (by kernel_rfl) (fun B R=>by(obtain⟨z0,z1,z2,z3,z4⟩:=Ym (HB.o B R));go_simp;try rfl) ?_;try simp only[Act.put,Za,Zc,Zb])
  iterate 3 (first|(refine Vd (by kernel_rfl) (by go_simp;try rfl) ?_)|(refine Xi (by kernel_rfl) (fun B R=>by go_simp;try rfl) ?_);try simp only[Act.put,Za,Zc,Zb])
  iterate 1 (refine Xi (by kernel_rfl) (fun B R=>by(obtain⟨z0,z1,z2,z3,z4⟩:=Ym (HB.o B R));go_simp;try rfl) ?_;try simp only[Act.put,Za,Zc,Zb])
  iterate 3 (first|(refine Vd (by kernel_rfl) (by go_simp;try rfl) ?_)|(refine Xi (by kernel_rfl) (fun B R=>by go_simp;try rfl) ?_);try simp only[Act.put,Za,Zc,Zb])
  iterate 1 (refine Xi (by kernel_rfl) (fun B R=>by(obtain⟨z0,z1,z2,z3,z4⟩:=Ym (HB.o B R));go_simp;try rfl) ?_;try simp only[Act.put,Za,Zc,Zb])
  iterate 3 (first|(refine Vd (by kernel_rfl) (by go_simp;try rfl) ?_)|(refine Xi (by kernel_rfl) (fun B R=>by go_simp;try rfl) ?_);try simp only[Act.put,Za,Zc,Zb])
  iterate 1 (refine Xi (by kernel_rfl) (fun B R=>by(obtain⟨z0,z1,z2,z3,z4⟩:=Ym (HB.o B R));go_simp;try rfl) ?_;try simp only[Act.put,Za,Zc,Zb])
  clear a0 a1 a2 a3 a4;refine Gn ?_ ?_
  ·go_wp2_with fail;refine(HT.o _ C0.o).mono ?_;rintro e w1⟨tb,rfl,hT,av⟩;have T0:=O hT;have E0:=O av;have D0:=O (C0.o.aA av);clear hT av;go_wp2_with fail;refine⟨D0.o,?_⟩;refine Gn ?_ ?_
   ·go_wp2_with fail;obtain⟨w2,ak⟩:=Zx (w1.alloc (.map #[] 0));have M1:=O (show Xq w2 w1.heap.size []from by rw[ak];exact Xq.new w1);have E1:=O (show Qc Qb w1 w2 from by rw[ak];exact(Zg _ _).alloc _);have Z1:=O (show w2.heap.size=w1.heap.size+1 from by rw[ak];simp);have D1:=O (D0.o.aA E1.o);rw[←ak];clear ak;refine⟨D1.o,?_⟩;refine Xt ?_;go_wp2_with fail;refine(HE.o _ D1.o).mono ?_;rintro e w3⟨rb,rfl,hE,J⟩;have T2:=O hE;have U:=O J;have Z:=O (D1.o.aA J);clear hE J;go_wp2_with fail;refine⟨Z.o,?_⟩;refine Xt ?_;go_wp2_with fail;refine(ae.o _ Z.o).mono ?_;rintro e w4⟨pb,rfl,hP,K⟩;have T3:=O hP;have E:=O K;have I:=O (Z.o.aA K);clear hP K;go_wp2_with fail;refine⟨I.o,?_⟩;have FF:=O (aa.o w4 tb w1.heap.size rb pb w.drew.heap.size w1.heap.size w2.heap.size w3.heap.size w3.heap.size w4.heap.size I.o (ah.o _ _ _ _ T0.o ((E1.o.aA U.o).aA E.o)) (M1.o.aB (U.o.aA E.o) (fun h=>h)) (af.o _ _ _ _ T2.o E.o) (ag.o _ _ _ _ T3.o (Zg _ _)) (by have s0:=E0.o.size;have s1:=E1.o.size;have s2:=U.o.size;have s3:=E.o.size;have z:=Z1.o;simp only[World.drew]at*;omega) (by have s0:=E0.o.size;have s1:=E1.o.size;have s2:=U.o.size;have s3:=E.o.size;have z:=Z1.o;simp only[World.drew]at*;omega));iterate 1 (first|(refine Vd (by kernel_rfl) (by go_simp;try rfl) ?_)|(refine Xi (by kernel_rfl) (fun B R=>by go_simp;try rfl) ?_);try simp only[Act.put,Za,Zc,Zb])
    refine Xt ?_;go_wp2_with fail;refine⟨I.o.alloc _,?_⟩;refine Xt ?_;go_wp2_with fail;refine⟨I.o.alloc _,?_⟩;refine U9 ?_;go_wp2_with fail;go_meet;obtain⟨A',f1,f2⟩:=FF.o;exact⟨w4.heap.size,A',rfl,by have:=I.o.size;omega,f1,f2⟩
   ·go_wp2_with fail;refine(HE.o _ D0.o).mono ?_;rintro e w2⟨rb,rfl,hE,ab⟩;have T1:=O hE;have E1:=O ab;have D1:=O (D0.o.aA ab);clear hE ab;go_wp2_with fail;refine⟨D1.o,?_⟩;refine Gn ?_ ?_
    ·go_wp2_with fail;obtain⟨w3,al⟩:=Zx (w2.alloc (.map #[] 0));have M2:=O (show Xq w3 w2.heap.size []from by rw[al];exact Xq.new w2);have U:=O (show Qc Qb w2 w3 from by rw[al];exact(Zg _ _).alloc _);have Z2:=O (show w3.heap.size=w2.heap.size+1 from by rw[al];simp);have Z:=O (D1.o.aA U.o);rw[←al];clear al;refine⟨Z.o,?_⟩;refine Xt ?_;go_wp2_with fail;refine(ae.o _ Z.o).mono ?_;rintro e w4⟨pb,rfl,hP,K⟩;have T3:=O hP;have E:=O K;have I:=O (Z.o.aA K);clear hP K;go_wp2_with fail;refine⟨I.o,?_⟩;have FF:=O (aa.o w4 tb w2.heap.size rb pb w.drew.heap.size w1.heap.size w1.heap.size w2.heap.size w3.heap.size w4.heap.size I.o (ah.o _ _ _ _ T0.o ((E1.o.aA U.o).aA E.o)) (M2.o.aB E.o (fun h=>h)) (af.o _ _ _ _ T1.o (U.o.aA E.o)) (ag.o _ _ _ _ T3.o (Zg _ _)) (by have s0:=E0.o.size;have s1:=E1.o.size;have s2:=U.o.size;have s3:=E.o.size;have z:=Z2.o;simp only[World.drew]at*;omega) (by have s0:=E0.o.size;have s1:=E1.o.size;have s2:=U.o.size;have s3:=E.o.size;have z:=Z2.o;simp only[World.drew]at*;omega));iterate 1 (first|(refine Vd (by kernel_rfl) (by go_simp;try rfl) ?_)|(refine Xi (by kernel_rfl) (fun B R=>by go_simp;try rfl) ?_);try simp only[Act.put,Za,Zc,Zb])
     refine Xt ?_;go_wp2_with fail;refine⟨I.o.alloc _,?_⟩;refine Xt ?_;go_wp2_with fail;refine⟨I.o.alloc _,?_⟩;refine U9 ?_;go_wp2_with fail;go_meet;obtain⟨A',f1,f2⟩:=FF.o;exact⟨w4.heap.size,A',rfl,by have:=I.o.size;omega,f1,f2⟩
    ·go_wp2_with fail;refine(ae.o _ D1.o).mono ?_;rintro e w3⟨pb,rfl,hP,J⟩;have T2:=O hP;have U:=O J;have Z:=O (D1.o.aA J);clear hP J;go_wp2_with fail;refine⟨Z.o,?_⟩;refine Xt ?_;go_wp2_with fail;obtain⟨w4,am⟩:=Zx (w3.alloc (.map #[] 0));have M3:=O (show Xq w4 w3.heap.size []from by rw[am];exact Xq.new w3);have E:=O (show Qc Qb w3 w4 from by rw[am];exact(Zg _ _).alloc _);have Z3:=O (show w4.heap.size=w3.heap.size+1 from by rw[am];simp);have I:=O (Z.o.aA E.o);rw[←am];clear am;refine⟨I.o,?_⟩;have FF:=O (aa.o w4 tb w3.heap.size rb pb w.drew.heap.size w1.heap.size w1.heap.size w2.heap.size w2.heap.size w3.heap.size I.o (ah.o _ _ _ _ T0.o ((E1.o.aA U.o).aA E.o)) (M3.o.aB (Zg Qb _) (fun h=>h)) (af.o _ _ _ _ T1.o (U.o.aA E.o)) (ag.o _ _ _ _ T2.o E.o) (by have s0:=E0.o.size;have s1:=E1.o.size;have s2:=U.o.size;have s3:=E.o.size;have z:=Z3.o;simp only[World.drew]at*;omega) (by have s0:=E0.o.size;have s1:=E1.o.size;have s2:=U.o.size;have s3:=E.o.size;have z:=Z3.o;simp only[World.drew]at*;omega));iterate 1 (first|(refine Vd (by kernel_rfl) (by go_simp;try rfl) ?_)|(refine Xi (by kernel_rfl) (fun B R=>by go_simp;try rfl) ?_);try simp only[Act.put,Za,Zc,Zb])
     refine Xt ?_;go_wp2_with fail;refine⟨I.o.alloc _,?_⟩;refine Xt ?_;go_wp2_with fail;refine⟨I.o.alloc _,?_⟩;refine U9 ?_;go_wp2_with fail;go_meet;obtain⟨A',f1,f2⟩:=FF.o;exact⟨w4.heap.size,A',rfl,by have:=I.o.size;omega,f1,f2⟩
  ·go_wp2_with fail;obtain⟨w1,aj⟩:=Zx ((w.alloc (.map #[] 0)).drew);have M0:=O (show Xq w1 w.heap.size []from by rw[aj];exact(Xq.new w).aB (Zg Qb _).drew (fun h=>h));have E0:=O (show Qc Qb w w1 from by rw[aj];exact((Zg _ _).alloc _).drew);have Z0:=O (show w1.heap.size=w.heap.size+1 from by rw[aj];simp);have D0:=O E0.o;rw[←aj];clear aj;refine⟨D0.o,?_⟩;refine Xt ?_;go_wp2_with fail;refine(HT.o _ D0.o).mono ?_;rintro e w2⟨tb,rfl,hT,ab⟩;have T1:=O hT;have E1:=O ab;have D1:=O (D0.o.aA ab);clear hT ab;go_wp2_with fail;refine⟨D1.o,?_⟩;refine Xt ?_;go_wp2_with fail;refine(HE.o _ D1.o).mono ?_;rintro e w3⟨rb,rfl,hE,J⟩;have T2:=O hE;have U:=O J;have Z:=O (D1.o.aA J);clear hE J;go_wp2_with fail;refine⟨Z.o,?_⟩;refine Xt ?_;go_wp2_with fail;refine(ae.o _ Z.o).mono ?_;rintro e w4⟨pb,rfl,hP,K⟩;have T3:=O hP;have E:=O K;have I:=O (Z.o.aA K);clear hP K;go_wp2_with fail;refine⟨I.o,?_⟩;have FF:=O (aa.o w4 tb w.heap.size rb pb w1.heap.size w2.heap.size w2.heap.size w3.heap.size w3.heap.size w4.heap.size I.o (ah.o _ _ _ _ T1.o (U.o.aA E.o)) (M0.o.aB ((E1.o.aA U.o).aA E.o) (fun h=>h)) (af.o _ _ _ _ T2.o E.o) (ag.o _ _ _ _ T3.o (Zg _ _)) (by have s0:=E0.o.size;have s1:=E1.o.size;have s2:=U.o.size;have s3:=E.o.size;have z:=Z0.o;simp only[World.drew]at*;omega) (by have s0:=E0.o.size;have s1:=E1.o.size;have s2:=U.o.size;have s3:=E.o.size;have z:=Z0.o;simp only[World.drew]at*;omega));iterate 1 (first|(refine Vd (by kernel_rfl) (by go_simp;try rfl) ?_)|(refine Xi (by kernel_rfl) (fun B R=>by go_simp;try rfl) ?_);try simp only[Act.put,Za,Zc,Zb])
   refine Xt ?_;go_wp2_with fail;refine⟨I.o.alloc _,?_⟩;refine Xt ?_;go_wp2_with fail;refine⟨I.o.alloc _,?_⟩;refine U9 ?_;go_wp2_with fail;go_meet;obtain⟨A',f1,f2⟩:=FF.o;exact⟨w4.heap.size,A',rfl,by have:=I.o.size;omega,f1,f2⟩
 case rest=>
  obtain⟨q,A1,rfl,hq,hS,c0⟩:=hcut;obtain⟨V,hV⟩:=Zx wc;rw[←hV]at hS c0⊢;clear hV a0 a1 a2 a3 a4 HT HE ae aa ah af ag;obtain⟨o,bs,bd⟩:=Er (P:=prog) (HC.o V c0) underlying75;have au:Hi (∃lm dn,Qgb A w s L q V.heap.size (V.alloc o) lm dn):=O (by
   have cc:Qc Qb V (V.alloc o):=(Zg _ _).alloc _;exact⟨L,[],bd,List.Sublist.refl _,by simp,c0.aA cc,⟨A1,_,(Qi.obj A1).aB hS cc (Jl.none _),fun k u=>⟨u.1,by omega⟩⟩,c0.size⟩)
  obtain⟨z0,z1,z2,z3,z4⟩:=Ym (HB.o V c0);clear hS bd;unfold ptr at*;go_wp2_with fail;clear bs z0 z1 z2 z3 z4;go_loopw [4,5] (fun _ _ wr=>∃lm dn,Qgb A w s L q V.heap.size wr lm dn) (fun _ _ wr=>Dq wr V.heap.size);case atStart=>exact au.o
  case round=>
   obtain⟨lm,dn,PC⟩:=hrel;rcases Rx (P:=prog) PC.it 0 with⟨h0,hr⟩|⟨y,hy,w2,hr,aq,an,bc⟩
   ·have bo:lm=[]:=by
     cases lm with
     |nil=>rfl
     |cons a l=>cases h0
    subst bo;have aa:Hi (Qt wr (Qn Qb w wr) q s∧Qc Qb w wr):=O (by
     obtain⟨A2,G2,ac,ai⟩:=PC.co;have bp:dn.Perm L:=by simpa using PC.perm
     refine⟨⟨A2,(Qi.obj A2).more (ac.perm (s':=s) rfl rfl rfl rfl (bp.trans HP.o)) (fun k u=>(Qr k).2 ⟨(ai k u).1,(Qi.obj A2).bd ac k u⟩) (fun k u=>((Qr k).1 u).2)⟩,PC.chg⟩)
    clear PC;go_wp2_with fail;go_ret;exact⟨_,rfl,aa.o⟩
   ·obtain⟨x,hx,rfl⟩:=Z3.1 hy;have bg:=PC.sub.subset hx;have c2:Qc Qb w w2:=PC.chg.trans an (fun k e=>.inr (by rw[e];exact PC.nr));have h2:=(Qi.obj A).aB HH.o c2 (Jl.none F);have bm:s.leaf x.id=some x:=by rw[So HP.o ar.o];exact Ls (key:=Qw.id) ar.o bg rfl
    obtain⟨qb,dv,bb,⟨rq,hQ⟩,Gd,hD⟩:=h2.leafQ bm;obtain⟨pv,rfl⟩:=hD.ptr;obtain⟨A2,G2,ac,ai⟩:=PC.co;have ap:=(Qi.obj A2).aB ac an (fun k u e=>(ai k u).2 e);have ay:=O (fun w'(c:Qc Qb w2 w')=>c.blk bb (fun h=>h));have bk:=O (fun w'(c:Qc Qb w2 w')=>c.blk ap.blk (fun h=>h));have bl:=O (fun w'(c:Qc Qb w2 w')=>Qpo (hQ.aB c (fun h=>h) (fun h=>h)));have bh:=O (fun w'(c:Qc Qb w2 w')=>Qgv ((Kv.good _ _).aB hD c (Jl.none _)) (fun d hd=>by
     have:=((bj.o x (HP.o.mem_iff.1 bg)).debt d hd).2.1;omega))
    have ao:=O (fun w3 w4 w5 bu rb a8 hq bq br c3 hd c4 bt=>PC.step ac ai ar.o hx aq an (w3:=w3) (w4:=w4) (w5:=w5) (qb:=bu) (rb:=rb) (dv:=a8) hq bq br c3 hd c4 bt bi.o);have Z:=O (Zg Qb w2).drew;obtain⟨l0,l1⟩:=Q4 (ay.o _ Z.o);dsimp only at hr bc;unfold ptr at*;clear PC aq an c2 h2 bb hQ hD ac ap ai hy;go_wp2_with fail;clear hr bc;refine Jp [(1,0),(1,1),(1,2),(1,3),(1,4),(0,5),(0,6),(0,7),(0,8),(1,10),(1,11),(1,12),(1,13),(2,9),(2,14),(0,15),(2,16),(3,17)] (fun B=>Qc (Qb) (w2) B) Zq (by kernel_rfl) (fun _ _ _ _ _ h=>h) (Zj (Zg _ _)) ?_;simp only[Jk,Zf,Ze,Zd];iterate 3 (refine Qy (by kernel_rfl) (fun B R=>by go_simp;try rfl) ?_;try simp only[Act.put,Za,Zc,Zb])
    iterate 1 (refine Qy (by kernel_rfl) (fun B R=>by(obtain⟨z0,z1,z2,z3,z4⟩:=Ym (bk.o B R));go_simp;try rfl) ?_;try simp only[Act.put,Za,Zc,Zb])
    (refine Qy (by kernel_rfl) (fun B R=>by go_simp;try rfl) ?_;try simp only[Act.put,Za,Zc,Zb]);iterate 4 (refine Xe (by kernel_rfl) (by go_simp;try rfl) ?_)
    iterate 3 (refine Qy (by kernel_rfl) (fun B R=>by go_simp;try rfl) ?_;try simp only[Act.put,Za,Zc,Zb])
    iterate 1 (refine Qy (by kernel_rfl) (fun B R=>by(obtain⟨z0,z1⟩:=Q4 (ay.o B R));go_simp;try rfl) ?_;try simp only[Act.put,Za,Zc,Zb])
    clear l0 l1;refine Yb ?_;go_wp2_with fail;refine Zz (bl.o _ Z.o) ?_;rintro w3⟨ax,c3⟩;have C3:=O (Z.o.aA c3);have Q3:=O (show Jz w3 w2.heap.size (w2.heap.size+1) x.pk x.bt x.q from ax);have LQ:=O ax.lt;clear ax c3;go_wp2_with fail;refine⟨C3.o,?_⟩;refine Yb ?_;go_wp2_with fail;refine(bh.o _ C3.o).mono ?_;rintro e w4⟨a8,rfl,aw,c4⟩;obtain⟨bw,rfl⟩:=aw.ptr;obtain⟨w6,r6,a5,az⟩:=ao.o w3 w4 _ _ _ _ Q3.o (by have h:=LQ.o;have e:w2.drew.heap.size=w2.heap.size:=rfl;rw[e]at h;omega) (by have h:=LQ.o;have e:w2.drew.heap.size=w2.heap.size:=rfl;rw[e]at h;omega) C3.o aw c4 rfl;have C4:=O (C3.o.aA c4);have PP:=O (Zt a5 az);unfold ptr at*;clear aw c4 a5 az ao;go_wp2_with fail;refine⟨C4.o,?_⟩;refine Xe (by kernel_rfl) (by go_simp;try rfl) ?_;refine Yb ?_;go_wp2_with fail;refine⟨C4.o.alloc _,?_⟩;refine Km ?_;go_wp2_with fail;refine Ky ?_;go_wp2;exact⟨⟨_,_,PP.o.1⟩,PP.o.2⟩
end
end
def Kx(f:Int→Nat)(c:Nat×List Int)(i:Int):Nat×List Int:=if f i<c.1∨c.2=[]then(f i,[i])else if f i=c.1 then(c.1,c.2++[i])else c
def Kt(f:Int→Nat)(l:List Int):List Int:=(l.foldl (Kx f) (18446744073709551615,[])).2
theorem Qdh(f:Int→Nat):∀(l c:List Int)(d:Nat×List Int),(c=[]→d.2=[])→(c≠[]→d.2≠[]∧(∀j∈c,d.1≤f j)∧d.2=c.filter fun j=>decide (f j=d.1))→
  l.foldl (Kx f) d=d∧l=[]∨((l.foldl (Kx f) d).2≠[]∧(∀j∈c++l,(l.foldl (Kx f) d).1≤f j)∧(l.foldl (Kx f) d).2=(c++l).filter fun j=>decide (f j=(l.foldl (Kx f) d).1))
 |[],c,d,_,_=>.inl ⟨rfl,rfl⟩
 |i::l,c,d,h0,h1=>by
  right;have q:(Kx f d i).2≠[]∧(∀j∈c++[i],(Kx f d i).1≤f j)∧(Kx f d i).2=(c++[i]).filter fun j=>decide (f j=(Kx f d i).1):=by
   unfold Kx;by_cases z:c=[];·subst z;rw[if_pos (.inr (h0 rfl))];simp
   ·obtain⟨k1,k2,B⟩:=h1 z;by_cases Xg:f i<d.1
    ·rw[if_pos (.inl Xg)];refine⟨by simp,fun j k=>?_,?_⟩
     ·rcases Zl.1 k with k|k;·have:=k2 j k;dsimp only;omega
      ·obtain rfl:=List.mem_singleton.1 k;exact Zv _
     ·rw[List.filter_append];have:c.filter (fun j=>decide (f j=f i))=[]:=List.filter_eq_nil_iff.2 fun j k=>by have:=k2 j k;simp only[decide_eq_true_eq];omega
      dsimp only;rw[this];simp
    ·rw[if_neg (fun h=>h.elim Xg k1)];by_cases u:f i=d.1
     ·rw[if_pos u];refine⟨by simp,fun j k=>?_,?_⟩
      ·rcases Zl.1 k with k|k;·exact k2 j k
       ·obtain rfl:=List.mem_singleton.1 k;dsimp only;omega
      ·dsimp only;rw[List.filter_append,←B];simp[u]
     ·rw[if_neg u];refine⟨k1,fun j k=>?_,?_⟩
      ·rcases Zl.1 k with k|k;·exact k2 j k
       ·obtain rfl:=List.mem_singleton.1 k;omega
      ·rw[List.filter_append,←B];simp[u]
  rw[List.foldl_cons];rcases Qdh f l (c++[i]) (Kx f d i) (fun e=>by simp at e) (fun _=>q)with⟨e,rfl⟩|h;·rw[e];exact q
  ·rw[List.append_assoc]at h;exact h
theorem Qoy{f:Int→Nat}:Kt f []=[]:=rfl
theorem Qho(f:Int→Nat){l:List Int}(hl:l≠[]):Kt f l≠[]∧∃m,(∀j∈l,m≤f j)∧Kt f l=l.filter fun j=>decide (f j=m):=by
 rcases Qdh f l [] (18446744073709551615,[]) (fun _=>rfl) (fun h=>absurd rfl h)with⟨_,h⟩|⟨h1,c,d⟩;·exact absurd h hl
 ·rw[List.nil_append]at c d;exact⟨h1,_,c,d⟩
theorem Ej{f:Int→Nat}{l:List Int}{i:Int}:i∈Kt f l↔i∈l∧∀j∈l,f i≤f j:=by
 by_cases hl:l=[];·subst hl;simp[Qoy]
 ·obtain⟨h1,m,u,z⟩:=Qho f hl;constructor
  ·intro hi;rw[z]at hi;obtain⟨k,c⟩:=List.mem_filter.1 hi;have c:f i=m:=by simpa using c
   exact⟨k,fun j E=>by rw[c];exact u j E⟩
  ·rintro⟨k,c⟩;obtain⟨x,B⟩:=List.exists_mem_of_ne_nil _ h1;rw[z]at B⊢;obtain⟨q,d⟩:=List.mem_filter.1 B;have d:f x=m:=by simpa using d
   refine List.mem_filter.2 ⟨k,?_⟩;have:=c x q;have:=u i k;simp only[decide_eq_true_eq];omega
def Lp(l:List Int):List Int:=l.mergeSort fun x y=>decide (x≤y)
def Qf.waits(s:Qf):List Int:=(s.tree.aI 0).filter fun i=>!decide (s.many i=0)
def Qf.isLeaf(s:Qf)(i:Int):Bool:=((s.tree.at i).map (·.sp.leaf)).getD false
def Qf.fitters(s:Qf)(t:Nat)(i:Int):List Int:=(s.tree.aM i).filter fun x=>!(!s.pick.aL x||decide (t<s.fit x))
def Qf.down(s:Qf)(t:Nat):Nat→Int→List Int
 |0,_=>[]
 |n+1,i=>if s.isLeaf i then[i]else(Kt s.pick.v (s.fitters t i)).flatMap (s.down t n)
def Qf.elig1(s:Qf)(t:Nat):List Int:=s.waits.filter fun i=>!decide (t<s.elig i)
def Qf.opts(s:Qf)(t:Nat):List Int×Nat:=if s.elig1 t≠[]then(Lp (Kt s.due (s.elig1 t)),1)else(Lp (s.down t 9 0),2)
def Qf.shareNone(s:Qf)(i:Int):Bool:=((s.tree.at i).map (·.sp.share.none)).getD true
def Qf.heldB(s:Qf)(t:Nat)(i:Int):Bool:=decide (t<s.elig i)&&(s.shareNone i||(s.tree.path 9 i).any fun x=>decide (t<s.fit x))
section
variable{s:Qf}{N:Nat}
theorem Xp.waits_mem(h:Xp N s){i:Int}:i∈s.waits↔∃l,s.leaf i=some l∧l.q≠[]:=by
 unfold Qf.waits;rw[List.mem_filter];constructor;·rintro⟨h1,k⟩;obtain⟨l,hl⟩:=(G8 h).1 h1;obtain⟨c,hc,d⟩:=h.leaf_at hl;refine⟨l,hl,fun e=>?_⟩;rw[(Qdq h hc d).1,Ov hl,e]at k;simp at k
 ·rintro⟨l,hl,q⟩;refine⟨(G8 h).2 ⟨l,hl⟩,?_⟩;obtain⟨c,hc,d⟩:=h.leaf_at hl;rw[(Qdq h hc d).1,Ov hl];have:=List.length_pos_iff.2 q;simp;exact q
theorem Xp.awake_leaf(h:Xp N s){i:Int}{l:Qw}(hl:s.leaf i=some l)(u:l.q≠[]):s.pick.aL i=!s.shareNone i:=by
 obtain⟨k,z,_⟩:=h.at hl;obtain⟨c,hc,d,_,_,_,e⟩:=k.sp;rw[z]at hc e;unfold Qf.shareNone;rw[hc,e];simp only[u,ne_eq,not_false_eq_true,decide_true,Bool.and_true,Zn,Option.getD_some];have q:=h.tree.may c (h.tree.pos hc).2.2.2.2.2;unfold Yk.aJ;cases hn:c.sp.share.none with
 |true=>rfl
 |false=> have:=(Md q).2.1;simp[this]
theorem Xp.elig_waits(h:Xp N s){t:Nat}(ht:t<Qq){i:Int}(c:s.elig i≤t):i∈s.waits:=by obtain⟨_,_,l,hl,d⟩:=h.row_of (h.row_has ht c);exact h.waits_mem.2 ⟨l,hl,d⟩
theorem Sr(h:Xp N s){t:Nat}(ht:t<Qq){i:Int}:i∈s.elig1 t↔s.elig i≤t:=by unfold Qf.elig1;rw[List.mem_filter];simp only[Bool.not_eq_true',decide_eq_false_iff_not,Nat.not_lt];exact⟨fun h=>h.2,fun c=>⟨h.elig_waits ht c,c⟩⟩
end
section
variable{s:Qf}{N:Nat}
theorem Qph(h:Xp N s){t:Nat}(ht:t<Qq){x:Nat×Int}(ha:Jt t s.row=some x):s.who t=some (x.2,1)∧s.opts t=(Lp (Kt s.due (s.elig1 t)),1)∧x.2∈Kt s.due (s.elig1 t)∧∀j∈Kt s.due (s.elig1 t),x.2≤j:=by
 obtain⟨h1,q,u,_⟩:=h.least_some ht ha;have d:x.2∈s.elig1 t:=(Sr h ht).2 h1;refine⟨by unfold Qf.who;rw[ha],by unfold Qf.opts;rw[if_pos (List.ne_nil_of_mem d)],Ej.2 ⟨d,fun j c=>?_⟩,fun j c=>?_⟩;·rw[q];exact(u j ((Sr h ht).1 c)).1
 ·obtain⟨z,B⟩:=Ej.1 c;have:=B _ d;have k:=u j ((Sr h ht).1 z);exact k.2 (by rw[q]at this;omega)
theorem Qa2(h:Xp N s){t:Nat}(ht:t<Qq)(ha:Jt t s.row=none):s.who t=(s.pick.next t 10 0).map (fun id=>(id,2))∧s.opts t=(Lp (s.down t 9 0),2):=by refine⟨by unfold Qf.who;rw[ha],?_⟩;unfold Qf.opts;have:s.elig1 t=[]:=List.eq_nil_iff_forall_not_mem.2 fun i hi=>h.least_none ht ha i ((Sr h ht).1 hi);rw[this];simp
theorem Qbw(h:Xp N s){t:Nat}{j:Int}(hn:s.pick.next t 10 0=some j):∀x∈s.tree.path 9 j,s.pick.fits t x:=fun x d=>by
 rw[←h.mt.path h.tree]at d;exact Qdw h.pinv t 10 0 j hn (fun m x d=>by
  obtain⟨k,c,_,h0,_⟩:=Qd5 d;omega) 9 x d
theorem T9(h:Xp N s){t:Nat}(ht:t<Qq){i:Int}:s.heldB t i=false↔s.elig i≤t∨(s.shareNone i=false∧∀x∈s.tree.path 9 i,s.pick.fits t x):=by
 unfold Qf.heldB;simp only[Bool.and_eq_false_iff,decide_eq_false_iff_not,Nat.not_lt,Bool.or_eq_false_iff,List.any_eq_false,decide_eq_true_eq];refine or_congr Iff.rfl (and_congr Iff.rfl ⟨fun k x c=>(Nh ht).2 ?_,fun k x c=>?_⟩);·have:=k x c;unfold Qf.fit at this;exact this
 ·exact(Nh ht).1 (k x c)
theorem Qs4(h:Xp N s){t:Nat}(ht:t<Qq):(∃x,s.who t=some x)↔∃i∈s.waits,s.heldB t i=false:=by
 constructor
 ·rintro⟨⟨id,r⟩,u⟩;cases ha:Jt t s.row with
  |some x=> obtain⟨h1,_,J,l,hl,k⟩:=h.least_some ht ha;exact⟨x.2,h.waits_mem.2 ⟨l,hl,k⟩,(T9 h ht).2 (.inl h1)⟩
  |none=>
   have h1:=(Qa2 h ht ha).1;rw[u]at h1;cases hn:s.pick.next t 10 0 with
   |none=>rw[hn]at h1;cases h1
   |some j=> obtain⟨l,hl,k,_⟩:=h.who u;rw[hn]at h1;obtain⟨rfl,_⟩:=Prod.mk.inj (Zs h1);have hf:=Qbw h hn;refine⟨id,h.waits_mem.2 ⟨l,hl,k⟩,(T9 h ht).2 (.inr ⟨?_,hf⟩)⟩;obtain⟨c,hc,_⟩:=h.leaf_at hl;have d:=(hf _ (Mh hc)).1;rw[h.awake_leaf hl k]at d;simpa using d
 ·rintro⟨i,hi,hf⟩;obtain⟨l,hl,k⟩:=h.waits_mem.1 hi;unfold Qf.who;cases ha:Jt t s.row with
  |some x=>exact⟨_,rfl⟩
  |none=>
   have E:=h.least_none ht ha i;rcases(T9 h ht).1 hf with h1|⟨h1,z⟩;·exact absurd h1 E
   ·obtain⟨c,hc,B⟩:=h.leaf_at hl;obtain⟨x,q,_⟩:=h.mt.fwd h.tree hc;obtain⟨j,I⟩:=Qpc h.pick h.pinv ht q (by have:=(h.tree.pos hc).1;omega) (fun x q=>z x (by rw[←h.mt.path h.tree];exact q));dsimp only;rw[I];exact⟨_,rfl⟩
end
section
variable{s:Qf}{N:Nat}
theorem Qsl(h:Xp N s)(hr:Xd s.row){t:Nat}(ht:t<Qq):(∃x,Jt t s.row=some x)↔Hk s.row≤t:=by
 unfold Jt Hk;cases q:s.row with
 |nil=>exact⟨fun⟨x,u⟩=>(by cases u),fun h=>(by dsimp only at h;omega)⟩
 |cons e l=>
  dsimp only;constructor
  ·rintro⟨x,u⟩;obtain⟨a,d⟩:=Sq u;obtain⟨d,c⟩:=List.mem_filter.1 d;have c:a≤t:=by simpa using c
   rcases Zu.1 d with e1|d;·rw[←e1];exact c
   ·rw[q]at hr;have k:=(List.pairwise_cons.1 hr).1 _ d;unfold Mv at k;dsimp only at k;omega
  ·intro c;have d:e∈(e::l).filter fun e=>decide (e.1≤t):=List.mem_filter.2 ⟨List.mem_cons_self,by simpa using c⟩;cases u:low ((e::l).filter fun e=>decide (e.1≤t))with
   |none=>rw[Ei u]at d;cases d
   |some x=>exact⟨x,rfl⟩
theorem Qs6(h:Xp N s)(hr:Xd s.row){t:Nat}(ht:t<Qq):(∃x,s.who t=some x)↔s.tick≤t:=by
 have h1:=Qsl h hr ht;have d:=Qdx h.pick h.pinv ht;unfold Qf.who Qf.tick;cases ha:Jt t s.row with
 |some x=> have:=h1.1 ⟨x,ha⟩;exact⟨fun _=>by omega,fun _=>⟨_,rfl⟩⟩
 |none=>
  have q:¬Hk s.row≤t:=fun k=>by obtain⟨x,c⟩:=h1.2 k;rw[ha]at c;cases c
  dsimp only;cases hn:s.pick.next t 10 0 with
  |none=>
   have:¬s.pick.tick≤t:=fun k=>by obtain⟨x,c⟩:=d.2 k;rw[hn]at c;cases c
   exact⟨fun⟨x,c⟩=>(by cases c),fun k=>by omega⟩
  |some j=> have:=d.1 ⟨j,hn⟩;exact⟨fun _=>by omega,fun _=>⟨_,rfl⟩⟩
theorem Qqs(h:Xp N s){t:Nat}(ht:t<Qq){id:Int}{r:Nat}(q:s.who t=some (id,r)):
  (r=1∧s.elig id≤t∧(∀i,s.elig i≤t→s.due id≤s.due i)∧(s.takeC id r).due=s.due id)∨(r=2∧(∀i,¬s.elig i≤t)∧s.fit id≤t∧(s.takeC id r).due=0):=by
 cases ha:Jt t s.row with
 |some x=> obtain⟨h1,B,E,l,hl,K⟩:=h.least_some ht ha;rw[(Qph h ht ha).1]at q;obtain⟨rfl,rfl⟩:=Prod.mk.inj (Zs q);refine .inl ⟨rfl,h1,fun i hi=>by rw[B];exact(E i hi).1,?_⟩;have J:=h.row_has ht h1;obtain⟨l',d,z,I,u,_,e⟩:=(h.row _ _ _).1 J;unfold Qf.takeC;have k:s.leaf x.2=some l':=z;rw[k];dsimp only;rw[I];dsimp only;rw[if_pos rfl,e];unfold Ju.dueAt;rw[if_pos u]
 |none=>
  have h1:=(Qa2 h ht ha).1;rw[q]at h1;cases hn:s.pick.next t 10 0 with
  |none=>rw[hn]at h1;cases h1
  |some j=>
   rw[hn]at h1;obtain⟨rfl,rfl⟩:=Prod.mk.inj (Zs h1);obtain⟨l,hl,K,_⟩:=h.who q;obtain⟨c,hc,_⟩:=h.leaf_at hl;refine .inr ⟨rfl,h.least_none ht ha,(Nh ht).1 (Qbw h hn _ (Mh hc)),?_⟩;unfold Qf.takeC;rw[hl];dsimp only;cases l.debt with
   |none=>rfl
   |some d=>rfl
theorem Qqr(h:Xp N s){t:Nat}(ht:t<Qq)(d:s.who t=none){i:Int}(hi:i∈s.waits):¬s.elig i≤t∧(s.shareNone i=true∨∃x∈s.tree.path 9 i,t<s.fit x):=by
 have hf:s.heldB t i=true:=by
  cases hf:s.heldB t i with
  |true=>rfl
  |false=> obtain⟨x,c⟩:=(Qs4 h ht).2 ⟨i,hi,hf⟩;rw[d]at c;cases c
 unfold Qf.heldB at hf;simp only[Zw,decide_eq_true_eq,Bool.or_eq_true,List.any_eq_true]at hf;exact⟨by omega,hf.2⟩
end
def Hc(s:Qf)(t:Nat)(c:Bool×Nat)(i:Int):Bool×Nat:=if s.elig i≤t then(true,min c.2 (s.due i))else c
def Ul(s:Qf)(t:Nat)(l:List Int):Bool×Nat:=l.foldl (Hc s t) (false,Qq)
section
variable{s:Qf}{N:Nat}{t:Nat}
theorem Ql6{l:List Int}{i:Nat}{x:Int}(c:l[i]? =some x):Ul s t (l.take (i+1))=Hc s t (Ul s t (l.take i)) x:=by rw[List.take_add_one,c];unfold Ul;rw[List.foldl_append];rfl
theorem Cw:∀(l:List Int)(c:Bool×Nat),((l.foldl (Hc s t) c).1=true↔c.1=true∨∃i∈l,s.elig i≤t)∧(l.foldl (Hc s t) c).2≤c.2∧
  (∀i∈l,s.elig i≤t→(l.foldl (Hc s t) c).2≤s.due i)∧((l.foldl (Hc s t) c).2=c.2∨∃i∈l,s.elig i≤t∧s.due i=(l.foldl (Hc s t) c).2)
 |[],c=>by simp
 |x::l,c=>by
  obtain⟨h1,u,B,k⟩:=Cw l (Hc s t c x);rw[List.foldl_cons];generalize l.foldl (Hc s t) (Hc s t c x)=r at*;unfold Hc at*;by_cases q:s.elig x≤t
  ·rw[if_pos q]at h1 u k;dsimp only at h1 u k;refine⟨⟨fun _=>.inr ⟨x,List.mem_cons_self,q⟩,fun _=>h1.2 (.inl rfl)⟩,by omega,fun i hi d=>?_,?_⟩
   ·rcases Zu.1 hi with rfl|hi;·omega
    ·exact B i hi d
   ·rcases k with k|⟨i,hi,z,E⟩
    ·rcases Nat.le_total c.2 (s.due x)with I|I;·exact .inl (by omega)
     ·exact .inr ⟨x,List.mem_cons_self,q,by omega⟩
    ·exact .inr ⟨i,Zr _ hi,z,E⟩
  ·rw[if_neg q]at h1 u k;refine⟨h1.trans ⟨?_,?_⟩,u,fun i hi d=>?_,?_⟩
   ·rintro(h|⟨i,hi,d⟩);·exact .inl h
    ·exact .inr ⟨i,Zr _ hi,d⟩
   ·rintro(h|⟨i,hi,d⟩);·exact .inl h
    ·rcases Zu.1 hi with rfl|hi;·exact absurd d q
     ·exact .inr ⟨i,hi,d⟩
   ·rcases Zu.1 hi with rfl|hi;·exact absurd d q
    ·exact B i hi d
   ·rcases k with k|⟨i,hi,z⟩;·exact .inl k
    ·exact .inr ⟨i,Zr _ hi,z⟩
theorem Xp.due_le(h:Xp N s)(i:Int):s.due i≤Qq:=by
 unfold Qf.due;cases hl:s.leaf i with
 |none=>exact Zv _
 |some l=>
  cases c:l.debt with
  |none=>simp[c]
  |some d=>
   simp only[Option.bind_some,c,Zn,Option.getD_some];unfold Ju.dueAt;split;·exact(h.sr.due l (I8 hl) d c).2
   ·exact Zv _
theorem Xp.elig_leaf(h:Xp N s)(ht:t<Qq){i:Int}(c:s.elig i≤t):i∈s.tree.aI 0:=by obtain⟨_,_,l,hl,_⟩:=h.row_of (h.row_has ht c);exact(G8 h).2 ⟨l,hl⟩
theorem Qs5{x:Nat×Int}(h:Jt t s.row=some x):s.who t≠none:=by unfold Qf.who;rw[h];exact nofun
theorem Ql7(h:Xp N s)(ht:t<Qq)(c:s.who t=none):(Ul s t (s.tree.aI 0)).1=false:=by
 cases ha:Jt t s.row with
 |some x=>exact absurd c (Qs5 ha)
 |none=>
  cases hf:(Ul s t (s.tree.aI 0)).1 with
  |false=>rfl
  |true=>
   rcases(Cw (s.tree.aI 0) (false,Qq)).1.1 hf with h1|⟨i,_,h1⟩;·cases h1
   ·exact absurd h1 (h.least_none ht ha i)
theorem Ql8(h:Xp N s)(ht:t<Qq){id:Int}{r:Nat}(R:s.who t=some (id,r)):
  (s.takeC id r).p.cls=id∧(s.takeC id r).rule=r∧((r=1∧(Ul s t (s.tree.aI 0)).1=true∧s.elig id≤t∧s.due id=(Ul s t (s.tree.aI 0)).2∧(s.takeC id r).due=s.due id)∨
   (r=2∧(Ul s t (s.tree.aI 0)).1=false∧s.fit id≤t∧(s.takeC id r).due=0)):=by
 obtain⟨l,hl,Z,_⟩:=h.who R;obtain⟨k,ki,_⟩:=h.at hl;obtain⟨x,q,u⟩:∃x q,l.q=x::q:=by
  cases I:l.q with
  |nil=>exact absurd I Z
  |cons x t=>exact⟨x,t,rfl⟩
 have d:=(k.good x (by rw[u];exact List.mem_cons_self)).2;refine⟨?_,?_,?_⟩;·unfold Qf.takeC;rw[hl];show(l.q.headD Jr.zero).cls=id;rw[u];exact d.trans ki
 ·unfold Qf.takeC;rw[hl]
 ·obtain⟨J,f2,U,z⟩:=Cw (s:=s) (t:=t) (s.tree.aI 0) (false,Qq);rcases Qqs h ht R with⟨rfl,h1,B,E⟩|⟨rfl,h1,B,E⟩
  ·have K:=h.elig_leaf ht h1;refine .inl ⟨rfl,J.2 (.inr ⟨id,K,h1⟩),h1,?_,E⟩;refine Nat.le_antisymm ?_ (U id K h1);rcases z with z|⟨i,_,c,V⟩;·unfold Ul;rw[z];exact h.due_le id
   ·unfold Ul;rw[←V];exact B i c
  ·refine .inr ⟨rfl,?_,B,E⟩;cases hf:(Ul s t (s.tree.aI 0)).1 with
   |false=>rfl
   |true=>
    rcases J.1 hf with c|⟨i,_,c⟩;·cases c
    ·exact absurd c (h1 i)
theorem Xp.tick_le(h:Xp N s):s.tick≤Qq:=by
 have:Hk s.row≤Qq:=by
  unfold Hk;split;·exact Zv _
  ·rename_i e r k;obtain⟨a,i,b⟩:=e;obtain⟨l,d,hl,c,_,rfl,_⟩:=(h.row a i b).1 (by rw[k];exact List.mem_cons_self);exact(h.sr.due l (I8 hl) d c).1
 unfold Qf.tick;omega
theorem Qng(s:Qf)(t:Nat):(s.next t).1.isSome=(s.who t).isSome:=by
 unfold Qf.next;cases s.who t with
 |none=>rfl
 |some x=>rfl
theorem Qdy(h:Xp N s)(ht:t<Qq):(s.next t).1.isSome=decide (s.tick≤t):=by
 rw[Qng];have:=Qs6 h h.sr.row ht;rw[←Option.isSome_iff_exists]at this;cases c:(s.who t).isSome with
 |true=>exact(decide_eq_true (this.1 c)).symm
 |false=>exact(decide_eq_false fun k=>by rw[this.2 k]at c;cases c).symm
theorem Qro(h:Xp N s)(ht:t<Qq)(hn:(s.next t).1.isSome=false){i:Int}(hi:i∈s.waits):¬s.elig i≤t∧(s.shareNone i||(s.tree.path 9 i).any fun x=>decide (t<s.fit x))=true:=by
 rw[Qng]at hn;obtain⟨h1,c⟩:=Qqr h ht (by cases d:s.who t with|none=>rfl|some x=>rw[d]at hn;cases hn) hi;refine⟨h1,?_⟩;rcases c with c|⟨x,k,c⟩;·rw[c];rfl
 ·rw[Bool.or_eq_true];exact .inr (List.any_eq_true.2 ⟨x,k,by simpa using c⟩)
end
end Go.Proofs.YtnnhmpehkbihnaaGreat
