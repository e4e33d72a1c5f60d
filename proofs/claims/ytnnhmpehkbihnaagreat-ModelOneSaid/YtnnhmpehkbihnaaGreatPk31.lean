/- A part of the proof: no condition. -/
import Derived.Test.YtnnhmpehkbihnaaGreatPk30
import Derived.Deep.WholeRow
import Derived.Laws.ResultCell
import Derived.Lib.SliceRun
namespace Go.Proofs.YtnnhmpehkbihnaaGreat
set_option linter.unusedVariables false
set_option maxRecDepth 100000
set_option maxHeartbeats 4000000
open Go.RowKit
open Go.Proofs.Tryz
section
attribute [local go_sem] Qp
attribute [local irreducible] Kl J9 Xo
def W7(x:Int):List Value:=[.int .i64 x]
abbrev Q6(w:World)(v:Value)(l:List Int):Prop:=Own W7 1 3 w v l
def Es(s:Yk):Array Value:=#[.int .i64 s.id,.int .i64 s.par,.bool s.leaf,.int .u64 s.real.f,.int .u64 s.real.l,.int .u64 s.real.r,.int .u64 s.share.f,.int .u64 s.share.l,.int .u64 s.share.r,.int .u64 s.aN.f,.int .u64 s.aN.l,.int .u64 s.aN.r,.int .i64 s.pk,.int .i64 s.bt]
def P0(c:Vm):Array Value:=#[.int .i64 c.sp.id,.int .i64 c.sp.par,.bool c.sp.leaf,.int .u64 c.sp.real.f,.int .u64 c.sp.real.l,.int .u64 c.sp.real.r,.int .u64 c.sp.share.f,.int .u64 c.sp.share.l,.int .u64 c.sp.share.r,.int .u64 c.sp.aN.f,.int .u64 c.sp.aN.l,.int .u64 c.sp.aN.r,.int .i64 c.sp.pk,.int .i64 c.sp.bt,.int .i64 c.d]
def Qv6:Yk:={id:=0,par:=0,leaf:=false,real:=⟨0,0,0⟩,share:=⟨0,0,0⟩,aN:=⟨0,0,0⟩,pk:=0,bt:=0}
def Qto:Vm:=⟨Qv6,0⟩
def Us(l:List Vm):List (Int×Value):=l.map fun c=>(c.id,.agg (P0 c))
structure Y7(w:World)(F:Fp)(m:Nat)(vs:List (Int×Value))(h:Qm):Prop where
 map:Xq w m vs
 bd:Bd F w
 at_:F m
 has:∀p∈vs,Q6 w p.2 (h.aM p.1)
 own:∀p∈vs,∀k,p.2.ownBlock=some k→F k∧k≠m
 dis:∀p∈vs,∀q∈vs,∀k,p.2.ownBlock=some k→q.2.ownBlock=some k→p.1=q.1
 miss:∀i,(∀p∈vs,p.1≠i)→h.aM i=[]
theorem Q6.aB{w w'}{S:Fp}{v:Value}{l:List Int}(h:Q6 w v l)(hc:Qc S w w')(z:∀k,v.ownBlock=some k→¬S k):Q6 w' v l:=by
 obtain⟨h1,d⟩:=h;refine⟨h1,?_⟩;rcases d with d|⟨g,cap,c,rfl,u,B,q⟩;·exact .inl d
 ·exact .inr ⟨g,cap,c,rfl,u,hc.heap B (z g rfl),q⟩
theorem Y7.aB{w w'}{F S:Fp}{m:Nat}{vs:List (Int×Value)}{h:Qm}(c:Y7 w F m vs h)(hc:Qc S w w')(d:Jl F S):Y7 w' F m vs h:=
 ⟨c.map.aB hc (d m c.at_),c.bd.later hc,c.at_,fun p q=>(c.has p q).aB hc (fun k u=>d k (c.own p q k u).1),c.own,c.dis,c.miss⟩
theorem Y7.good(m:Nat)(vs:List (Int×Value))(h:Qm):Uy (fun w F=>Y7 w F m vs h) where
 bd:=fun h=>h.bd
 aB:=fun h hc u=>h.aB hc u
 more:=fun h hs q=>⟨h.map,q,hs _ h.at_,h.has,fun p d k c=>⟨hs k (h.own p d k c).1,(h.own p d k c).2⟩,h.dis,h.miss⟩
def Qrn(ma mu b:Nat)(l:List Vm)(vs:List (Int×Value))(h:Qm):List Ya:=[Tv b #[.map (some ma),.map (some mu)] 92,Qo8 ma (Us l),fun w F=>Y7 w F mu vs h]
theorem U3(ma mu b:Nat)(l:List Vm)(vs:List (Int×Value))(h:Qm):∀P∈Qrn ma mu b l vs h,Uy P:=by
 intro P c;simp only[Qrn,Zu,List.not_mem_nil,or_false]at c;rcases c with rfl|rfl|rfl;·exact Ks _ _ _
 ·exact Qhd _ _
 ·exact Y7.good _ _ _
def Q9(w:World)(F:Fp)(b:Nat)(h:Qm):Prop:=∃ma mu l vs,l.Perm h∧Oh (Qrn ma mu b l vs h) w F
theorem Q9.obj:Hf Q9 where
 bd:=fun⟨ma,mu,l,vs,_,h⟩=>(Je (U3 ma mu _ l vs _)).bd h
 own:=fun⟨ma,mu,l,vs,_,h⟩=>by obtain⟨G,h1,d⟩:=J6 (U3 ma mu _ l vs _) 0 rfl h;exact d _ h1.2.1
 aB:=fun⟨ma,mu,l,vs,c,h⟩hc q=>⟨ma,mu,l,vs,c,(Je (U3 ma mu _ l vs _)).aB h hc q⟩
 more:=fun⟨ma,mu,l,vs,c,h⟩hs k=>⟨ma,mu,l,vs,c,(Je (U3 ma mu _ l vs _)).more h hs k⟩
theorem Qm.at_perm{l:List Vm}{h:Qm}(c:l.Perm h)(hn:(l.map Vm.id).Nodup)(i:Int):h.at i=Hn Vm.id i l:=(Mz c hn i).symm
theorem Ma(l:List Vm):(Us l).map (·.1)=l.map Vm.id:=by unfold Us;rw[List.map_map];rfl
theorem Ed(i:Int)(l:List Vm)(hn:(l.map Vm.id).Nodup):look i (Us l)=(Hn Vm.id i l).map fun c=>.agg (P0 c):=by
 cases ha:Hn Vm.id i l with
 |some x=> obtain⟨d,rfl⟩:=Y3 ha;have k:(Vm.id x,Value.agg (P0 x))∈Us l:=Z3.2 ⟨x,d,rfl⟩;rw[Eh (by rw[Ma];exact hn) k];rfl
 |none=>
  rw[Sp];·rfl
  ·intro p q;obtain⟨x,d,rfl⟩:=Z3.1 q;exact Lz ha x d
section
variable{w:World}{F:Fp}{b:Nat}{h:Qm}
theorem Q9.cells(k:Q9 w F b h):∃ma mu l vs,l.Perm h∧(l.map Vm.id).Nodup∧Qh w b #[.map (some ma),.map (some mu)] 92∧Xq w ma (Us l)∧∃G,Y7 w G mu vs h:=by obtain⟨ma,mu,l,vs,q,hs⟩:=k;obtain⟨u,h0,_⟩:=J6 (U3 ma mu b l vs h) 0 rfl hs;obtain⟨z,h1,_⟩:=J6 (U3 ma mu b l vs h) 1 rfl hs;obtain⟨c,d,_⟩:=J6 (U3 ma mu b l vs h) 2 rfl hs;exact⟨ma,mu,l,vs,q,by have:=h1.1.nodup;rwa[Ma]at this,h0.1,h1.1,c,d⟩
theorem Sf(w):(zeroValue 87).run prog w=.ok (.agg (P0 Qto)) w:=by go_simp;rfl
theorem Qrd(m:Nat)(w):(binOp .eql 89 (.map (some m)) (.map none)).run prog w=.ok (.bool false) w:=by kernel_rfl
attribute [local go_sem] Qrd
theorem Gz(d:Q9 w F b h):Cl 34 #[ptr b] w fun e w'=>e=.returned (.bool false)∧w=w':=by obtain⟨ma,mu,l,vs,u,hn,c,k,G,q⟩:=d.cells;obtain⟨z,a1⟩:=Q4 c;unfold ptr;clear d u hn c k q;go_enter func34,ntmps34;go_wp2;go_ret;exact⟨rfl,rfl⟩
end
end
section
variable{P:Program}{w:World}{g:Nat}{cs vs:Array Value}{t:TypeId}
theorem Q0(h:Qh w g cs t)(hs:vs.size=cs.size)(h1:∀v∈vs.toList,v.oneCell'=true):
  ∃w',(storeCells ⟨g,0,none⟩ vs.toList 0).run P w=.ok () w'∧Qh w' g vs t∧Qc (fun k=>k=g) w w':=by
 have hr:=run_storeCells_at (P:=P) g 0 t vs.toList 0 cs w h (by simp;omega) h1;have e:(cs.toList.take (0+0)++vs.toList++cs.toList.drop (0+0+vs.toList.length)).toArray=vs:=by apply Array.ext';simp;omega
 rw[e]at hr;refine⟨_,hr,setRow_heap w g cs vs t (0,0) h,⟨rfl,rfl,rfl,by simp[World.setRow],fun k d c=>?_⟩⟩;simp only[World.setRow];rw[Array.getElem?_modify,if_neg (fun e=>c e.symm)]
end
section
attribute [local go_sem] Qp
attribute [local irreducible] Kl J9 Xo
section
variable{w:World}{F:Fp}{b:Nat}{h:Qm}
def Qm.get(h:Qm)(i:Int):Vm:=(h.at i).getD Qto
theorem Q9.look2(q:Q9 w F b h):∃ma mu,Qh w b #[.map (some ma),.map (some mu)] 92∧∀i,(Instr.lookup 89 (.map (some ma)) (.int .i64 i) true).run prog w=.ok (.tuple #[.agg (P0 (h.get i)),.bool (h.at i).isSome]) w:=by obtain⟨ma,mu,l,vs,u,hn,d,k,G,z⟩:=q.cells;refine⟨ma,mu,d,fun i=>?_⟩;have c:=Dj (P:=prog) k underlying89 underlying3 (Sf w) i;rw[Ed i l hn,←Qm.at_perm u hn]at c;rw[c];unfold Qm.get;cases h.at i<;>rfl
theorem Sn(c:Vm):∀v∈(P0 c).toList,v.oneCell'=true:=by intro v d;simp only[P0,Zu,List.not_mem_nil,or_false]at d;rcases d with rfl|rfl|rfl|rfl|rfl|rfl|rfl|rfl|rfl|rfl|rfl|rfl|rfl|rfl|rfl<;>rfl
theorem Hl(c:Yk):∀v∈(Es c).toList,v.oneCell'=true:=by intro v d;simp only[Es,Zu,List.not_mem_nil,or_false]at d;rcases d with rfl|rfl|rfl|rfl|rfl|rfl|rfl|rfl|rfl|rfl|rfl|rfl|rfl|rfl<;>rfl
theorem Dm{w}{g:Nat}{c:Vm}{t:TypeId}(h:Qh w g (P0 c) t):w.cell? ⟨g,0,none⟩=some (.int .i64 c.sp.id)∧w.cell? ⟨g,1,none⟩=some (.int .i64 c.sp.par)∧w.cell? ⟨g,2,none⟩=some (.bool c.sp.leaf)∧w.cell? ⟨g,3,none⟩=some (.int .u64 c.sp.real.f)∧w.cell? ⟨g,4,none⟩=some (.int .u64 c.sp.real.l)∧w.cell? ⟨g,5,none⟩=some (.int .u64 c.sp.real.r)∧w.cell? ⟨g,6,none⟩=some (.int .u64 c.sp.share.f)∧w.cell? ⟨g,7,none⟩=some (.int .u64 c.sp.share.l)∧w.cell? ⟨g,8,none⟩=some (.int .u64 c.sp.share.r)∧w.cell? ⟨g,9,none⟩=some (.int .u64 c.sp.aN.f)∧w.cell? ⟨g,10,none⟩=some (.int .u64 c.sp.aN.l)∧w.cell? ⟨g,11,none⟩=some (.int .u64 c.sp.aN.r)∧w.cell? ⟨g,12,none⟩=some (.int .i64 c.sp.pk)∧w.cell? ⟨g,13,none⟩=some (.int .i64 c.sp.bt)∧w.cell? ⟨g,14,none⟩=some (.int .i64 c.d):=
 ⟨h.cell 0,h.cell 1,h.cell 2,h.cell 3,h.cell 4,h.cell 5,h.cell 6,h.cell 7,h.cell 8,h.cell 9,h.cell 10,h.cell 11,h.cell 12,h.cell 13,h.cell 14⟩
theorem Qvb{w}{g:Nat}{t:TypeId}(h:Qh w g Z5 t):w.cell? ⟨g,0,none⟩=some (.int .i64 0)∧w.cell? ⟨g,1,none⟩=some (.int .i64 0)∧w.cell? ⟨g,2,none⟩=some (.bool false)∧w.cell? ⟨g,3,none⟩=some (.int .u64 0)∧w.cell? ⟨g,4,none⟩=some (.int .u64 0)∧w.cell? ⟨g,5,none⟩=some (.int .u64 0)∧w.cell? ⟨g,6,none⟩=some (.int .u64 0)∧w.cell? ⟨g,7,none⟩=some (.int .u64 0)∧w.cell? ⟨g,8,none⟩=some (.int .u64 0)∧w.cell? ⟨g,9,none⟩=some (.int .u64 0)∧w.cell? ⟨g,10,none⟩=some (.int .u64 0)∧w.cell? ⟨g,11,none⟩=some (.int .u64 0)∧w.cell? ⟨g,12,none⟩=some (.int .i64 0)∧w.cell? ⟨g,13,none⟩=some (.int .i64 0):=
 ⟨h.cell 0,h.cell 1,h.cell 2,h.cell 3,h.cell 4,h.cell 5,h.cell 6,h.cell 7,h.cell 8,h.cell 9,h.cell 10,h.cell 11,h.cell 12,h.cell 13⟩
theorem Qrj{w}{g:Nat}{cs:Array Value}{t:TypeId}(h:Qh w g cs t):w.frozen? ⟨g,0,none⟩=false∧w.frozen? ⟨g,1,none⟩=false∧w.frozen? ⟨g,2,none⟩=false∧w.frozen? ⟨g,3,none⟩=false∧w.frozen? ⟨g,4,none⟩=false∧w.frozen? ⟨g,5,none⟩=false∧w.frozen? ⟨g,6,none⟩=false∧w.frozen? ⟨g,7,none⟩=false∧w.frozen? ⟨g,8,none⟩=false∧w.frozen? ⟨g,9,none⟩=false∧w.frozen? ⟨g,10,none⟩=false∧w.frozen? ⟨g,11,none⟩=false∧w.frozen? ⟨g,12,none⟩=false∧w.frozen? ⟨g,13,none⟩=false:=
 ⟨h.frozen 0,h.frozen 1,h.frozen 2,h.frozen 3,h.frozen 4,h.frozen 5,h.frozen 6,h.frozen 7,h.frozen 8,h.frozen 9,h.frozen 10,h.frozen 11,h.frozen 12,h.frozen 13⟩
theorem Ob(hh:Q9 w F b h)(i:Int):Cl 13 #[ptr b,.int .i64 i] w fun e w'=>e=.returned (.tuple #[.agg (Es (h.get i).sp),.bool (h.at i).isSome])∧Qc Qb w w':=by
 have d:=O (fun w'(c:Qc Qb w w')=>Q9.obj.aB hh c (Jl.none F));obtain⟨W,hW⟩:=Zx (w.alloc (.cells Z5 40));have E:Qc Qb w W:=by rw[hW];exact(Zg _ _).alloc _
 have hN:=O (Gz (d.o W E));have R:Qh W w.heap.size Z5 40:=by rw[hW];exact Qh.new _ _ _
 obtain⟨ma,mu,hB,hL⟩:=(d.o W E).look2;have hr:=hL i;obtain⟨a0,a1⟩:=Q4 hB;have Xg:w.heap.size<W.heap.size:=R.lt;obtain⟨c,hc⟩:=Zx (h.get i);rw[←hc]at hr⊢;generalize(h.at i).isSome=ok at hr⊢;obtain⟨W1,hW1⟩:=Zx (W.alloc (.cells Z6 87));have z:Qh W1 W.heap.size Z6 87:=by rw[hW1];exact Qh.new _ _ _
 have I:Qc Qb W W1:=by rw[hW1];exact(Zg _ _).alloc _
 obtain⟨U,s2,B,J⟩:=Q0 (P:=prog) (vs:=P0 c) z rfl (Sn c);have q:Qh U w.heap.size Z5 40:=J.blk (I.blk R (fun h=>h)) (by intro e;omega);obtain⟨e0,e1,e2,e3,e4,e5,e6,e7,e8,e9,aa,ab,ac,ae,af⟩:=Dm B;obtain⟨z0,z1,z2,z3,z4,z5,z6,z7,z8,z9,ak,al,am,an⟩:=Qvb q;obtain⟨f0,f1,f2,f3,f4,f5,f6,f7,f8,f9,ag,ah,ai,aj⟩:=Qrj q;have K:Hi (Qc Qb w ((((((((((((((U.setCell ⟨w.heap.size,0,none⟩ (.int .i64 c.sp.id)).setCell ⟨w.heap.size,1,none⟩ (.int .i64 c.sp.par)).setCell ⟨w.heap.size,2,none⟩ (.bool c.sp.leaf)).setCell ⟨w.heap.size,3,none⟩ (.int .u64 c.sp.real.f)).setCell ⟨w.heap.size,4,none⟩ (.int .u64 c.sp.real.l)).setCell ⟨w.heap.size,5,none⟩ (.int .u64 c.sp.real.r)).setCell ⟨w.heap.size,6,none⟩ (.int .u64 c.sp.share.f)).setCell ⟨w.heap.size,7,none⟩ (.int .u64 c.sp.share.l)).setCell ⟨w.heap.size,8,none⟩ (.int .u64 c.sp.share.r)).setCell ⟨w.heap.size,9,none⟩ (.int .u64 c.sp.aN.f)).setCell ⟨w.heap.size,10,none⟩ (.int .u64 c.sp.aN.l)).setCell ⟨w.heap.size,11,none⟩ (.int .u64 c.sp.aN.r)).setCell ⟨w.heap.size,12,none⟩ (.int .i64 c.sp.pk)).setCell ⟨w.heap.size,13,none⟩ (.int .i64 c.sp.bt))):=O (by
  have Z:Qc Qb W U:=I.trans J (fun k e=>.inr (by omega));have V:=E.aA Z;iterate 14 refine Qc.setCell ?_ _ (.inr (Zv _))
  exact V)
 clear hL hB hh hc z I B J q R Xg E;subst hW1;unfold ptr at*;go_enter func13,ntmps13;go_wp2_with fail;rw[←hW];clear hW;refine Zz hN.o ?_;rintro w1 rfl;go_wp2_with fail;refine bodyPost_ret (v:=.tuple #[.agg (Es c.sp),.bool ok]) (by rw[results_cell_tmp (p:=4) (u:=5) (ty:=40) (by kernel_rfl)];go_simp;rfl) rfl ?_;exact⟨rfl,K.o⟩
end
section
variable{w:World}{F:Fp}{b:Nat}{h:Qm}
theorem Qm.depth_zero:h.depth 0=1:=by unfold Qm.depth;simp
theorem Qm.depth_none{i:Int}(hi:i≠0)(ha:h.at i=none):h.depth i=0:=by unfold Qm.depth;rw[if_neg hi,ha]
theorem Qm.depth_some{i:Int}{c:Vm}(hi:i≠0)(ha:h.at i=some c):h.depth i=if c.sp.leaf||decide (8≤c.d)then 0 else c.d+1:=by unfold Qm.depth;rw[if_neg hi,ha]
theorem Qe2(d:Q9 w F b h):Cl 122 #[ptr b,.int .i64 0] w fun e w'=>e=.returned (.int .i64 (h.depth 0:Int))∧Qc Qb w w':=by rw[Qm.depth_zero];unfold ptr;clear d;have c:=O (Zg Qb w);go_enter func122,ntmps122;go_wp2;go_ret;exact⟨rfl,c.o⟩
theorem Qhk(U:Q9 w F b h)(i:Int):Cl 122 #[ptr b,.int .i64 i] w fun e w'=>e=.returned (.int .i64 (h.depth i:Int))∧Qc Qb w w':=by
 by_cases hi:i=0;·subst hi;exact Qe2 U
 obtain⟨ma,mu,R,hL⟩:=U.look2;have hr:=hL i;obtain⟨a0,a1⟩:=Q4 R;have Xg:b<w.heap.size:=R.lt;obtain⟨c,hc⟩:=Zx (h.get i);obtain⟨W1,hW1⟩:=Zx (w.alloc (.cells Z6 87));have E:Qh W1 w.heap.size Z6 87:=by rw[hW1];exact Qh.new _ _ _
 have V:Qc Qb w W1:=by rw[hW1];exact(Zg _ _).alloc _
 obtain⟨W2,s2,I,Z⟩:=Q0 (P:=prog) (vs:=P0 c) E rfl (Sn c);obtain⟨q,e1,e2,e3,e4,e5,e6,e7,e8,e9,ab,ac,ae,af,ag⟩:=Dm I;have B:Hi (Qc Qb w W2):=O (V.trans Z (fun k e=>.inr (by omega)));have ah:(i==0)=false:=by simp[hi]
 have u:Hi ((h.at i=none→h.depth i=0)∧(∀c',h.at i=some c'→c=c'∧h.depth i=if c'.sp.leaf||decide (8≤c'.d)then 0 else c'.d+1)):=O ⟨fun e=>Qm.depth_none hi e,fun c' e=>⟨by rw[hc];unfold Qm.get;rw[e];rfl,Qm.depth_some hi e⟩⟩;rw[←hc]at hr;generalize h.depth i=aj at u⊢;cases d:h.at i with
 |none=> have q:=u.o.1 d;subst q;rw[d]at hr;dsimp only[Option.isSome]at hr;clear hL R U hc E V I Z Xg u d;subst hW1;unfold ptr at*;go_enter func122,ntmps122;go_wp2;go_ret;exact⟨rfl,B.o⟩
 |some c'=>
  obtain⟨rfl,q⟩:=u.o.2 c' d;rw[d]at hr;dsimp only[Option.isSome]at hr;clear hL R U hc E V I Z Xg u d;subst hW1;unfold ptr at*;cases z:c.sp.leaf with
  |true=> rw[z]at e2 q;simp only[Bool.true_or,if_true]at q;subst q;clear z;go_enter func122,ntmps122;go_wp2;go_ret;exact⟨rfl,B.o⟩
  |false=>
   rw[z]at e2 q;by_cases J:8≤c.d
   ·simp only[J,decide_true,Bool.or_true,if_true]at q;subst q;have aa:decide ((c.d:Int)≥8)=true:=by simp;omega
    have K:decide (8≤(c.d:Int))=true:=by simp;omega
    have HD:=O J;clear z J;go_enter func122,ntmps122;go_wp2;go_ret;exact⟨rfl,B.o⟩
   ·simp only[J,decide_false,Bool.or_false,Bool.false_eq_true,if_false]at q;have aa:decide ((c.d:Int)≥8)=false:=by simp;omega
    have K:decide (8≤(c.d:Int))=false:=by simp;omega
    have ai:IntKind.i64.wrap ((c.d:Int)+1)=(c.d:Int)+1:=by rw[IntWalk.i64_in _ (by omega)]
    have E0:=O q;have HD:=O J;clear z J q;go_enter func122,ntmps122;go_wp2;go_ret;rw[E0.o];exact⟨rfl,B.o⟩
end
theorem Qoo(m:Nat)(L:List (Int×Value)){w}(h:Xq w m L):Qo8 m L w (fun k=>k=m):=⟨h,rfl,fun k e=>e▸h.lt⟩
theorem Qos(w):Cl 65 #[] w fun e w'=>∃b,e=.returned (ptr b)∧Q9 w' (Qn Qb w w') b []∧Qc Qb w w':=by
 have B:=@run_makeMap prog;have q:Hi (∀w',w'=((w.alloc (.map #[] 0)).alloc (.map #[] 0)).alloc (.cells #[.map (some w.heap.size),.map (some (w.heap.size+1))] 92)→Q9 w' (Qn Qb w w') (w.heap.size+1+1) []∧Qc Qb w w'):=O (by
  rintro w' rfl;obtain⟨W,hW⟩:=Zx (((w.alloc (.map #[] 0)).alloc (.map #[] 0)).alloc (.cells #[.map (some w.heap.size),.map (some (w.heap.size+1))] 92));have hc:Qc Qb w W:=by rw[hW];exact(((Zg _ _).alloc _).alloc _).alloc _
  have z:Qh W (w.heap.size+1+1) #[.map (some w.heap.size),.map (some (w.heap.size+1))] 92:=by rw[hW];exact Qh.new' _ _ (by simp)
  have d:Xq W w.heap.size []:=by rw[hW];exact(Xq.new w).aB (((Zg Qb _).alloc _).alloc _) (fun h=>h)
  have c:Xq W (w.heap.size+1) []:=by
   rw[hW];have:=(Xq.new (w.alloc (.map #[] 0))).aB ((Zg Qb _).alloc (.cells #[.map (some w.heap.size),.map (some (w.heap.size+1))] 92)) (fun h=>h);have e:(w.alloc (.map #[] 0)).heap.size=w.heap.size+1:=by simp
   rwa[e]at this
  rw[←hW];have Xg:=z.lt;refine⟨⟨w.heap.size,w.heap.size+1,[],[],List.Perm.refl _,?_⟩,hc⟩;refine Q7 (G:=fun k=>k=w.heap.size+1+1) (H:=fun k=>k=w.heap.size∨k=w.heap.size+1) ⟨z,rfl,fun k e=>e▸Xg⟩ ?_ ?_ ?_ ?_ (Td _ _)
  ·refine Q7 (G:=fun k=>k=w.heap.size) (H:=fun k=>k=w.heap.size+1) (Qoo _ _ d) (Y6 ⟨c,fun k e=>e▸c.lt,rfl,nofun,nofun,nofun,fun _ _=>rfl⟩ (fun k e=>e▸c.lt)) ?_ (fun k e=>.inl e) (fun k e=>.inr e) ?_;·rintro k rfl e;have u:w.heap.size=w.heap.size+1:=e;omega
   ·rintro k(e|e);·exact e▸d.lt
    ·exact e▸c.lt
  ·rintro k rfl(e|e);·have u:w.heap.size+1+1=w.heap.size:=e;omega
   ·have u:w.heap.size+1+1=w.heap.size+1:=e;omega
  ·rintro k rfl;exact(Qr _).2 ⟨by omega,Xg⟩
  ·rintro k(rfl|rfl);·exact(Qr _).2 ⟨by omega,d.lt⟩
   ·exact(Qr _).2 ⟨by omega,c.lt⟩)
 unfold ptr;go_enter func65,ntmps65;go_wp2;go_ret;exact⟨_,rfl,q.o _ rfl⟩
end
section
attribute [local go_sem] Qp
attribute [local irreducible] Kl J9 Xo
theorem Qhl(x:Int):(W7 x).length=1:=rfl
theorem intT:Qce prog W7 1 46 3 8 (0:Int) where
 ht:=underlying46
 hi:=Ee (by kernel_rfl)
 pos:=by decide
 hc:=Qhl
 one:=by intro x u c;simp only[W7,Zu,List.not_mem_nil,or_false]at c;rcases c with rfl;rfl
theorem Sz:prog.eqGuardType prog.depth 46=false:=by kernel_rfl
theorem N9:prog.stoodInHeld 46=false:=by kernel_rfl
attribute [local go_sem] Sz N9
theorem Fy(v:Value)(K:List Int)(w)(R:Own W7 1 3 w v K)(hl:K.length<1099511627776):
  Cl 81 #[v] w fun e w'=>∃v',e=.returned v'∧Own W7 1 3 w' v' K∧Qc Qb w w'∧(∀k,v'.ownBlock=some k→w.heap.size≤k)∧(v=.slice none 0 0→v'=.slice none 0 0):=by
 obtain⟨a,cap,rfl,z,h0,d⟩:=R.row intT.hc;have HR:=O d;have HK:=O R;clear d R;have E:=fun(W)=>Lib.run_eql_slice_nil (P:=prog) W 46 3 a K.length cap 0 0 underlying46;cases a with
 |none=>
  obtain rfl:=h0 rfl;have B:K.length=0:=by omega
  obtain rfl:=List.eq_nil_of_length_eq_zero B;have Z:=O (Zg Qb w);simp only[List.length_nil,Option.isNone_none]at E;clear z h0 hl B;go_enter func81,ntmps81;go_wp2;go_ret;exact⟨_,rfl,Own.nil _ _ _ _,Z.o,nofun,fun _=>rfl⟩
 |some ad=>
  clear h0;go_enter func81,ntmps81;go_wp2_with (at_builtin;refine Jj intT rfl (.tmp 5) (.tmp 6) rfl _ ([]:List Int) rfl (Own.empty (Qh.new' _ _ (by simp))) _ _ K rfl ?a2 ?a3 ?a4 ?a5 ?a6);case a2=>intro h;cases h
  case a3=>exact HR.o.aB ((Zg Qb w).alloc _) (fun _ _ h=>h)
  case a4=>simp[maxLen];omega
  case a5=>simp;omega
  case a6=>
   intro v' w1 c u I;have U:Qc Qb w w1:=((Zg Qb w).alloc (.cells #[] 3)).trans u fun j hj=>.inr (by simp[Value.ownBlock]at hj;omega);have V:∀k,v'.ownBlock=some k→w.heap.size≤k:=by
    intro k J;rcases I with h|h;·rw[h]at J;simp[Value.ownBlock]at J;omega
    ·rw[h]at J;have:=Zs J;have hz:(w.alloc (.cells #[] 3)).heap.size=w.heap.size+1:=by simp
     omega
   have q:=O (Zt c (Zt U V));clear c U V u I;go_wp2;go_ret;exact⟨_,rfl,q.o.1,q.o.2.1,q.o.2.2,nofun⟩
section
variable{w:World}{F:Fp}{b:Nat}{h:Qm}
theorem Qqt(w):(zeroValue 46).run prog w=.ok (.slice none 0 0) w:=by go_simp
theorem Q6.nil(w):Q6 w (.slice none 0 0) []:=Own.nil _ _ _ _
theorem Y7.look{m:Nat}{vs:List (Int×Value)}(d:Y7 w F m vs h)(i:Int):
  ∃v,(Instr.lookup 90 (.map (some m)) (.int .i64 i) false).run prog w=.ok v w∧Q6 w v (h.aM i)∧((v=.slice none 0 0∧∀p∈vs,p.1≠i)∨(i,v)∈vs):=by
 have k:=Du (P:=prog) d.map underlying90 underlying3 (Qqt w) i;refine⟨_,k,?_⟩;by_cases hi:∃p∈vs,p.1=i;·obtain⟨⟨j,v⟩,c,rfl⟩:=hi;rw[Eh d.map.nodup c];exact⟨d.has _ c,.inr c⟩
 ·have hn:∀p∈vs,p.1≠i:=fun p c e=>hi ⟨p,c,e⟩;rw[Sp hn];refine⟨?_,.inl ⟨rfl,hn⟩⟩;rw[d.miss i hn];exact Q6.nil w
theorem P8(d:Q9 w F b h)(i:Int)(hl:(h.aM i).length<1099511627776):
  Cl 35 #[ptr b,.int .i64 i] w fun e w'=>∃v,e=.returned v∧Q6 w' v (h.aM i)∧(∀k,v.ownBlock=some k→w.heap.size≤k)∧Qc Qb w w':=by
 have K:=O (Gz d);obtain⟨ma,mu,l,vs,R,hn,z,J,G,E⟩:=d.cells;obtain⟨v,hr,B,_⟩:=E.look i;have I:=O (Fy v _ w B hl);obtain⟨U,a1⟩:=Q4 z;unfold ptr at*;clear d R hn z J E B;go_enter func35,ntmps35;go_wp2_with fail;refine Zz K.o ?_;rintro w1 rfl;go_wp2_with fail;refine Zo I ?_;rintro e w1⟨v',rfl,h1,q,u,_⟩;have c:=O (Zt h1 (Zt u q));clear h1 q u;go_wp2;go_ret;exact⟨_,rfl,c.o⟩
end
end
section
attribute [local go_sem] Qp
attribute [local irreducible] Kl J9 Xo
theorem Qow(x:Int)(w):Cl 207 #[.int .i64 x] w fun e w'=>e=.returned (.bool false)∧w=w':=by go_enter func207,ntmps207;go_wp2;go_ret;exact⟨by simp,rfl⟩
theorem Qkp(x:Int)(w):Cl 184 #[.int .i64 x] w fun e w'=>e=.returned (.bool false)∧w=w':=by go_enter func184,ntmps184;go_wp2;go_ret;exact⟨by simp,rfl⟩
theorem Qrt(x y:Int)(w):Cl 149 #[.int .i64 x,.int .i64 y] w fun e w'=>e=.returned (.bool (decide (x<y)))∧w=w':=by have H:=O (Qow x w);go_enter func149,ntmps149;go_wp2_with fail;refine Zy H ?_;rintro w1 rfl;go_wp2;go_ret;exact⟨rfl,rfl⟩
structure Om(x:Int)(l:List Int)(i j:Nat):Prop where
 le:i≤j
 len:j≤l.length
 lo:∀k v,k<i→l[k]? =some v→v<x
 hi:∀k v,j≤k→l[k]? =some v→x≤v
theorem Om.start(x:Int)(l:List Int):Om x l 0 l.length:=⟨Nat.zero_le _,Zv _,fun k v h=>absurd h (by omega),fun k v h e=>by rw[List.getElem?_eq_none (by omega)]at e;cases e⟩
theorem Om.up{x:Int}{l:List Int}{i j m:Nat}{y:Int}(h:Om x l i j)(hs:l.Pairwise (· ≤ ·))(hi:i≤m)(B:m<j)(u:l[m]? =some y)(Xg:y<x):Om x l (m+1) j:=
 ⟨by omega,h.len,fun k v E q=>by
  rcases Nat.lt_or_ge k m with h1|h1;·have c:k<l.length:=(Z1.1 q).1;have d:m<l.length:=(Z1.1 u).1;have:=List.pairwise_iff_getElem.1 hs k m c d h1;rw[List.getElem?_eq_getElem c]at q;rw[List.getElem?_eq_getElem d]at u;have e1:=Zs q;have z:=Zs u;omega
  ·have:k=m:=by omega
   subst this;rw[u]at q;have:=Zs q;omega,h.hi⟩
theorem Om.down{x:Int}{l:List Int}{i j m:Nat}{y:Int}(h:Om x l i j)(hs:l.Pairwise (· ≤ ·))(hi:i≤m)(E:m<j)(u:l[m]? =some y)(z:¬y<x):Om x l i m:=
 ⟨hi,by have:=h.len;omega,h.lo,fun k v I q=>by
  rcases Nat.lt_or_ge m k with h1|h1;·have c:k<l.length:=(Z1.1 q).1;have d:m<l.length:=(Z1.1 u).1;have:=List.pairwise_iff_getElem.1 hs m k d c h1;rw[List.getElem?_eq_getElem c]at q;rw[List.getElem?_eq_getElem d]at u;have e1:=Zs q;have B:=Zs u;omega
  ·have:k=m:=by omega
   subst this;rw[u]at q;have:=Zs q;omega⟩
theorem Q6.cells{w}{v:Value}{l:List Int}(h:Q6 w v l):(v=.slice none 0 0∧l=[])∨∃g cap,v=.slice (some ⟨g,0,none⟩) l.length cap∧l.length≤cap∧∀(k:Nat)(x:Int),l[k]? =some x→w.cell? ⟨g,k,none⟩=some (.int .i64 x):=by
 have h1:=h.1;rcases h.2 with⟨rfl,u⟩|⟨g,cap,d,rfl,I,z,hc,J,hs,ht⟩;·exact .inl ⟨rfl,List.eq_nil_of_length_eq_zero u⟩
 ·refine .inr ⟨g,cap,rfl,hc,fun k x q=>?_⟩;have hf:Jm W7 l=l.map fun x=>Value.int .i64 x:=by
   clear h1 ht hc q h;induction l with
   |nil=>rfl
   |cons a l E=>exact congrArg (Value.int .i64 a:: ·) E
  rw[hf]at ht;have c:w.cell? ⟨g,k,none⟩=d[k]? :=by simp[World.cell?,z]
  rw[c];have B:k<l.length:=(Z1.1 q).1;have e:(d.toList.take (l.length*1))[k]? =(l.map fun x=>Value.int .i64 x)[k]? :=by rw[ht]
  rw[List.getElem?_take,if_pos (by omega),List.getElem?_map,q]at e;simpa using e
theorem Qn7{w}{v:Value}{l:List Int}(h:Q6 w v l)(hs:l.Pairwise (· ≤ ·))(hl:l.length<1099511627776)(x:Int):
  Cl 123 #[v,.int .i64 x] w fun e w'=>∃(p:Nat)(f:Bool),e=.returned (.tuple #[.int .i64 p,.bool f])∧w=w'∧Om x l p p:=by
 have ST:=O (Om.start x l);have ab:=O (fun y=>Qrt y x w);have HN:=O (fun y=>Qkp y w);have HS:=O hs;clear hs;obtain⟨n,hn⟩:=Zx (l.length);have E:=O hn;obtain⟨a,cap,hv,u,aj⟩:∃a cap,v=.slice a n cap∧(∀(k:Nat)(y:Int),l[k]? =some y→∃g,a=some ⟨g,0,none⟩∧w.cell? ⟨g,k,none⟩=some (.int .i64 y))∧n≤cap:=by
  rcases h.cells with⟨rfl,ah⟩|⟨g,cap,rfl,hc,hk⟩;·subst ah;exact⟨none,0,by rw[hn];rfl,fun k y e=>(by cases e),by rw[hn];exact Zv _⟩
  ·exact⟨_,cap,by rw[hn],fun k y e=>⟨g,rfl,hk k y e⟩,by omega⟩
 subst hv;have z:=O u;have ap:n<1099511627776:=by omega
 rw[←hn]at ST;clear h hn u hl;go_enter func123,ntmps123;go_wp2_with fail;go_loopw [7,8] (fun lo hi wr=>∃i j:Nat,lo=.int .i64 i∧hi=.int .i64 j∧wr=w∧j≤n∧Om x l i j) (fun lo hi _=>(intOf hi).toNat-(intOf lo).toNat);case atStart=>exact⟨0,n,rfl,rfl,rfl,Zv _,ST.o⟩
 case round=>
  obtain⟨i,j,rfl,rfl,rfl,ag,Z⟩:=hrel;have d:=O Z;clear Z;by_cases ak:i<j
  ·have hd:decide ((i:Int)<(j:Int))=true:=by simp;omega
   obtain⟨m,hm⟩:=Zx ((i+j)/2);have R:i≤m:=by omega
   have U:m<j:=by omega
   have V:m<l.length:=by have:=E.o;omega
   obtain⟨y,B⟩:∃y,l[m]? =some y:=⟨_,List.getElem?_eq_getElem V⟩;obtain⟨g,rfl,ae⟩:=z.o m y B;have ao:((i:Int)+(j:Int))/2=(m:Int):=by rw[hm];omega
   have HY:=O B;have aa:=O (ab.o y);have an:m<n:=by omega
   have am:decide ((m:Int)<(n:Int))=true:=by simp;omega
   have HM:=O hm;clear hm B V;go_wp2_with fail;refine Zy aa ?_;rintro w1 rfl;by_cases c:y<x
   ·have af:decide (y<x)=true:=by simp[c]
    have ew:IntKind.i64.wrap ((m:Int)+1)=((m+1:Nat):Int):=by rw[IntWalk.i64_in _ (by omega)];omega
    have q:=O (d.o.up HS.o R U HY.o c);have I:=O c;clear c;go_wp2;go_roundw;case measure=>simp only[intOf];omega
    case rel=>exact⟨m+1,j,by rw[←Int.natCast_one,←Int.natCast_add],rfl,trivial,ag,q.o⟩
   ·have af:decide (y<x)=false:=by simp[c]
    have q:=O (d.o.down HS.o R U HY.o c);have I:=O c;clear c;go_wp2;go_roundw;case measure=>simp only[intOf];omega
    case rel=>exact⟨i,m,rfl,rfl,trivial,by omega,q.o⟩
  ·have hd:decide ((i:Int)<(j:Int))=false:=by simp;omega
   have J:i=j:=by have:=d.o.le;omega
   subst J;by_cases al:i<n
   ·have K:i<l.length:=by have:=E.o;omega
    obtain⟨y,B⟩:∃y,l[i]? =some y:=⟨_,List.getElem?_eq_getElem K⟩;obtain⟨g,rfl,ae⟩:=z.o i y B;have ai:decide ((i:Int)<(n:Int))=true:=by simp;omega
    have ac:=O (HN.o y);clear B K;by_cases c:y=x;·subst c;go_wp2_with fail;go_ret2;exact⟨i,_,rfl,rfl,d.o⟩
    ·have aq:(y==x)=false:=by simp[c]
     have ar:decide (y=x)=false:=by simp[c]
     have I:=O c;clear c;go_wp2_with fail;refine Zy ac ?_;rintro w1 rfl;go_wp2_with fail;go_ret2;exact⟨i,_,rfl,rfl,d.o⟩
   ·have ai:decide ((i:Int)<(n:Int))=false:=by simp;omega
    go_wp2_with fail;go_ret2;exact⟨i,_,rfl,rfl,d.o⟩
end
def Nm(x:Int):List Int→List Int
 |[]=>[x]
 |y::l=>if x<y then x::y::l else y::Nm x l
abbrev Ex(h:Qm):Prop:=h.Pairwise fun a b=>a.sp.id<b.sp.id
theorem Qqm(i:Int):Qm.aM [] i=[]:=rfl
theorem Dk(x:Vm)(h:Qm)(i:Int):Qm.aM (x::h) i=if x.sp.par=i then x.sp.id::Qm.aM h i else Qm.aM h i:=by
 unfold Qm.aM;rw[List.filter_cons];by_cases c:x.sp.par=i;·simp[c]
 ·simp[c]
theorem Sx{h:Qm}{i y:Int}(c:y∈h.aM i):∃x∈h,x.sp.id=y∧x.sp.par=i:=by unfold Qm.aM at c;obtain⟨x,d,rfl⟩:=Z3.1 c;have:=List.mem_filter.1 d;exact⟨x,this.1,rfl,by simpa using this.2⟩
theorem Qrq{x:Int}:∀{l:List Int},(∀y∈l,x<y)→Nm x l=x::l
 |[],_=>rfl
 |y::l,h=>by rw[Nm,if_pos (h y (by simp))]
theorem Fe(c:Vm):∀{h:Qm}(i:Int),Ex h→Qm.aM (Mb c h) i=if c.sp.par=i then Nm c.sp.id (Qm.aM h i)else Qm.aM h i
 |[],i,_=>by rw[Mb,Dk,Qqm];rfl
 |x::l,i,hs=>by
  have d:=List.pairwise_cons.1 hs;rw[Mb];by_cases Xg:c.sp.id<x.sp.id
  ·rw[if_pos Xg,Dk c];by_cases hc:c.sp.par=i
   ·rw[if_pos hc,if_pos hc,Qrq];intro y u;obtain⟨z,q,rfl,_⟩:=Sx u;rcases Zu.1 q with rfl|q;·exact Xg
    ·exact Int.lt_trans Xg (d.1 z q)
   ·rw[if_neg hc,if_neg hc]
  ·rw[if_neg Xg,Dk x,Fe c i d.2,Dk x];by_cases hc:c.sp.par=i
   ·rw[if_pos hc,if_pos hc];by_cases k:x.sp.par=i;·rw[if_pos k,if_pos k,Nm,if_neg Xg]
    ·rw[if_neg k,if_neg k]
   ·rw[if_neg hc,if_neg hc]
theorem Qm8{x:Int}:∀{l:List Int}{p:Nat},Om x l p p→x∉l→Nm x l=l.take p++x::l.drop p
 |[],p,h,hx=>by simp[Nm]
 |y::l,0,h,hx=>by have h1:=h.hi 0 y (Zv _) rfl;have:x≠y:=fun e=>hx (by simp[e]);rw[Nm,if_pos (by omega)];rfl
 |y::l,p+1,h,hx=>by have h1:=h.lo 0 y (by omega) rfl;rw[Nm,if_neg (by omega),Qm8 (p:=p) ⟨Zv _,by have:=h.len;simp at this;omega,fun k v d c=>h.lo (k+1) v (by omega) (by simpa using c),fun k v d c=>h.hi (k+1) v (by omega) (by simpa using c)⟩ (fun h=>hx (by simp[h]))];rfl
theorem Gk{h:Qm}(hs:Ex h)(i:Int):(h.aM i).Pairwise (· < ·):=by unfold Qm.aM;exact List.pairwise_map.2 (hs.filter _)
theorem Ph(h:Qm)(d i:Int):Qm.aM (h.filter fun x=>!decide (x.sp.id=d)) i=(h.aM i).filter fun y=>!decide (y=d):=by unfold Qm.aM;rw[List.filter_map,List.filter_filter,List.filter_filter];congr 1;exact List.filter_congr fun x _=>by simp[Function.comp,Bool.and_comm]
theorem Ik(h:Qm)(s:Yk)(i:Int):Qm.aM (h.map fun x=>if x.sp.id=s.id then⟨x.sp.aK s,x.d⟩else x) i=h.aM i:=by
 induction h with
 |nil=>rfl
 |cons x l d=>
  rw[List.map_cons,Dk,Dk,d];by_cases c:x.sp.id=s.id;·have e:(if x.sp.id=s.id then(⟨x.sp.aK s,x.d⟩:Vm)else x)=⟨x.sp.aK s,x.d⟩:=if_pos c;rw[e];rfl
  ·simp only[c,if_false]
theorem Ef(c:Vm):∀(h:Qm),(Mb c h).Perm (h++[c])
 |[]=>List.Perm.refl _
 |x::l=>by
  rw[Mb];by_cases Xg:c.sp.id<x.sp.id;·rw[if_pos Xg];exact List.perm_append_comm (l₁:=[c]) (l₂:=x::l)
  ·rw[if_neg Xg];exact(Ef c l).cons x
theorem Wz(c:Vm):∀{h:Qm},Ex h→(∀x∈h,x.sp.id≠c.sp.id)→Ex (Mb c h)
 |[],_,_=>by simp[Mb,Ex]
 |x::l,hs,hn=>by
  have k:=List.pairwise_cons.1 hs;rw[Mb];by_cases Xg:c.sp.id<x.sp.id
  ·rw[if_pos Xg];refine List.pairwise_cons.2 ⟨fun y d=>?_,hs⟩;rcases Zu.1 d with rfl|d;·exact Xg
   ·exact Int.lt_trans Xg (k.1 y d)
  ·rw[if_neg Xg];refine List.pairwise_cons.2 ⟨fun y d=>?_,Wz c k.2 fun z q=>hn z (by simp[q])⟩;have:=(Ef c l).mem_iff.1 d;rcases Zl.1 this with d|d;·exact k.1 y d
   ·have e:y=c:=by simpa using d
    have:=hn x (by simp);rw[e];omega
section
attribute [local go_sem] Qp
attribute [local irreducible] Kl J9 Xo
inductive Ev(T:Int→Bool)(l:List Int):Int→Prop
 |none:(∀(k:Nat)(y:Int),l[k]? =some y→T y=false)→Ev T l (-1)
 |some (i:Nat) (y:Int):l[i]? =some y→T y=true→(∀(k:Nat)(z:Int),k<i→l[k]? =some z→T z=false)→Ev T l (i:Int)
theorem Qkq{w}{v:Value}{l:List Int}(h:Q6 w v l)(hl:l.length<1099511627776)(g:FuncId)(q:Array Value)(eg:∀d w,(callFunc g d).run prog w=.ok (.enter g d) w)(T:Int→Bool)
  (hT:∀y,Cl g (#[.int .i64 y]++q) w fun e w'=>e=.returned (.bool (T y))∧w=w'):
  Cl 112 #[v,.func (.func g) #[] q] w fun e w'=>∃i,e=.returned (.int .i64 i)∧w=w'∧Ev T l i:=by
 have HT:=O hT;obtain⟨n,hn⟩:=Zx (l.length);have K:=O hn;obtain⟨a,cap,hv,c,ab⟩:∃a cap,v=.slice a n cap∧(∀(k:Nat)(y:Int),l[k]? =some y→∃g,a=some ⟨g,0,none⟩∧w.cell? ⟨g,k,none⟩=some (.int .i64 y))∧n≤cap:=by
  rcases h.cells with⟨rfl,aa⟩|⟨g,cap,rfl,hc,E⟩;·subst aa;exact⟨none,0,by rw[hn];rfl,fun k y e=>(by cases e),by rw[hn];exact Zv _⟩
  ·exact⟨_,cap,by rw[hn],fun k y e=>⟨g,rfl,E k y e⟩,by omega⟩
 subst hv;have J:=O c;have ag:n<1099511627776:=by omega
 clear h hn c hl hT;go_enter func112,ntmps112;go_wp2_with fail;go_loopw [8] (fun ix wr=>∃i:Nat,ix=.int .i64 i∧wr=w∧i≤n∧∀(k:Nat)(z:Int),k<i→l[k]? =some z→T z=false) (fun ix _=>n-(intOf ix).toNat);case atStart=>exact⟨0,rfl,rfl,Nat.zero_le _,fun k z E=>absurd E (by omega)⟩
 case round=>
  obtain⟨i,rfl,rfl,af,u⟩:=hrel;have Z:=O u;clear u;by_cases ae:i<n
  ·have hd:decide ((i:Int)<(n:Int))=true:=by simp;omega
   have R:i<l.length:=by have:=K.o;omega
   obtain⟨y,hy⟩:∃y,l[i]? =some y:=⟨_,List.getElem?_eq_getElem R⟩;obtain⟨g,rfl,ac⟩:=J.o i y hy;have HY:=O hy;have U:=O (HT.o y);clear hy R;cases I:T y with
   |true=> rw[I]at U;have B:=O I;clear I;go_wp2_with fail;refine Zy U ?_;rintro w1 rfl;go_wp2;go_ret;exact⟨_,rfl,rfl,.some i y HY.o B.o Z.o⟩
   |false=>
    rw[I]at U;have B:=O I;have ew:IntKind.i64.wrap ((i:Int)+1)=(i:Int)+1:=by rw[IntWalk.i64_in _ (by omega)]
    clear I;go_wp2_with fail;refine Zy U ?_;rintro w1 rfl;go_wp2;go_roundw;case measure=>simp only[intOf];omega
    case rel=>exact⟨i+1,by rw[←Int.natCast_one,←Int.natCast_add],trivial,by omega,fun k z E hz=>by
     rcases Nat.lt_or_ge k i with h1|h1;·exact Z.o k z h1 hz
     ·have:k=i:=by omega
      subst this;rw[HY.o]at hz;rw[←Zs hz];exact B.o⟩
  ·have hd:decide ((i:Int)<(n:Int))=false:=by simp;omega
   have V:Hi (Ev T l (-1)):=O (.none fun k y E=>Z.o k y (by have:=K.o;have:=(Z1.1 E).1;omega) E);go_wp2;go_ret;exact⟨_,rfl,rfl,V.o⟩
end
def flT(T:Int→Bool)(l:List Int)(i:Nat):List Int:=(l.take i).filter fun y=>!T y
theorem Wm(T:Int→Bool){l:List Int}{i:Nat}{y:Int}(d:l[i]? =some y):flT T l (i+1)=flT T l i++if T y then[]else[y]:=by unfold flT;rw[List.take_add_one,d,List.filter_append];cases c:T y<;>simp[c]
structure Vo(w0:World)(g cap:Nat)(l:List Int)(T:Int→Bool)(i j:Nat)(wr:World):Prop where
 chg:Qc (fun k=>k=g) w0 wr
 ex:∃cur,Qh wr g cur 3∧cur.size=cap∧(∀(k:Nat)(y:Int),(flT T l i)[k]? =some y→cur[k]? =some (.int .i64 y))∧(∀(k:Nat)(y:Int),i≤k→l[k]? =some y→cur[k]? =some (.int .i64 y))
 len:(flT T l i).length=j
 lt:j<i
section
variable{w0 wr:World}{g cap i j:Nat}{l:List Int}{T:Int→Bool}
theorem Vo.skip(h:Vo w0 g cap l T i j wr){y:Int}(B:l[i]? =some y)(z:T y=true):Vo w0 g cap l T (i+1) j wr:=by
 obtain⟨c,h1,d,q,u⟩:=h.ex;have e:flT T l (i+1)=flT T l i:=by rw[Wm T B,z];simp
 exact⟨h.chg,⟨c,h1,d,by rw[e];exact q,fun k y E=>u k y (by omega)⟩,by rw[e];exact h.len,by have:=h.lt;omega⟩
theorem Vo.put(h:Vo w0 g cap l T i j wr)(hc:l.length≤cap){y:Int}(u:l[i]? =some y)(K:T y=false):Vo w0 g cap l T (i+1) (j+1) (wr.setCell ⟨g,j,none⟩ (.int .i64 y)):=by
 obtain⟨q,h1,B,E,I⟩:=h.ex;have e:flT T l (i+1)=flT T l i++[y]:=by rw[Wm T u,K];simp
 have Xg:=h.lt;have R:i<l.length:=(Z1.1 u).1;refine⟨h.chg.setCell _ (.inl rfl),⟨q.setIfInBounds j (.int .i64 y),h1.set j _,by simp[B],fun k z c=>?_,fun k z c U=>?_⟩,by rw[e];simp[h.len],by omega⟩
 ·rw[e]at c;rw[Array.getElem?_setIfInBounds];by_cases d:j=k;·subst d;rw[List.getElem?_append_right (by rw[h.len];exact Zv _),h.len]at c;simp at c;rw[if_pos rfl,if_pos (by omega),c]
  ·rw[if_neg d];have:k<(flT T l i).length:=by have J:=(Z1.1 c).1;simp[h.len]at J;rw[h.len];omega
   rw[List.getElem?_append_left this]at c;exact E k z c
 ·rw[Array.getElem?_setIfInBounds_ne (by omega)];exact I k z (by omega) U
theorem Vo.cell(h:Vo w0 g cap l T i j wr){y:Int}(k:l[i]? =some y):wr.cell? ⟨g,i,none⟩=some (.int .i64 y):=by obtain⟨c,h1,q,u,d⟩:=h.ex;rw[h1.cell];exact d i y (Zv _) k
theorem Vo.old(h:Vo w0 g cap l T i j wr)(B:j<cap):(∃u,wr.cell? ⟨g,j,none⟩=some u)∧wr.frozen? ⟨g,j,none⟩=false:=by
 obtain⟨c,h1,k,q,z⟩:=h.ex;have d:j<c.size:=by omega
 exact⟨⟨c[j],by rw[h1.cell,Array.getElem?_eq_getElem d]⟩,h1.frozen j⟩
theorem N0{t:TypeId}:∀(vs:List Value)(o:Nat)(w)(cs:Array Value),Qh w g cs t→∃cs',Qh (w.setCells g o vs) g cs' t∧cs'.size=cs.size∧(∀k,k<o→cs'[k]? =cs[k]?)∧Qc (fun k=>k=g) w (w.setCells g o vs)
 |[],o,w,cs,h=>⟨cs,h,rfl,fun _ _=>rfl,Zg _ _⟩
 |v::vs,o,w,cs,h=>by
  obtain⟨cs',h1,c,d,q⟩:=N0 vs (o+1) (w.setCell ⟨g,o,none⟩ v) _ (h.set o v);refine⟨cs',h1,by rw[c];simp,fun k u=>?_,?_⟩;·rw[d k (by omega),Array.getElem?_setIfInBounds_ne (by omega)]
  ·have hc:Qc (fun k=>k=g) w (w.setCell ⟨g,o,none⟩ v):=(Zg _ _).setCell _ (.inl rfl);exact hc.aA q
theorem Vo.fin(h:Vo w0 g cap l T l.length j wr)(hc:l.length≤cap)(E:cap≤maxLen)(vs:List Value):Q6 (wr.setCells g j vs) (.slice (some ⟨g,0,none⟩) j cap) (l.filter fun y=>!T y)∧Qc (fun k=>k=g) w0 (wr.setCells g j vs):=by
 obtain⟨q,h1,z,u,R⟩:=h.ex;obtain⟨cs',k1,k2,J,K⟩:=N0 vs j wr q h1;have e:flT T l l.length=l.filter fun y=>!T y:=by unfold flT;rw[List.take_length]
 have c:=h.len;have Xg:=h.lt;rw[e]at c u;have hf:∀L:List Int,Jm W7 L=L.map fun x=>Value.int .i64 x:=fun L=>by
  induction L with
  |nil=>rfl
  |cons a L I=>exact congrArg (Value.int .i64 a:: ·) I
 refine⟨⟨by rw[hf];simp,.inr ⟨g,cap,cs',by rw[c],Nat.zero_le _,k1,by rw[c];omega,E,by rw[k2,z];simp,?_⟩⟩,h.chg.aA K⟩;rw[hf,c];apply List.ext_getElem?;intro k;rw[List.getElem?_take,List.getElem?_map];by_cases B:k<j
 ·rw[if_pos (by omega)];have d:k<(l.filter fun y=>!T y).length:=by omega
  rw[List.getElem?_eq_getElem d];have:=u k _ (List.getElem?_eq_getElem d);rw[←J k B]at this;simpa using this
 ·rw[if_neg (by omega),List.getElem?_eq_none (by omega)];rfl
end
section
attribute [local go_sem] Qp
attribute [local irreducible] Kl J9 Xo
theorem Vo.start{w}{g cap i:Nat}{l:List Int}{T:Int→Bool}{c:Array Value}(I:Qh w g c 3)(hs:c.size=cap)(hc:∀(k:Nat)(y:Int),l[k]? =some y→c[k]? =some (.int .i64 y)){y:Int}(E:l[i]? =some y)(J:T y=true)(K:∀(k:Nat)(z:Int),k<i→l[k]? =some z→T z=false):Vo w g cap l T (i+1) i w:=by
 have e1:flT T l i=l.take i:=by
  unfold flT;refine List.filter_eq_self.2 fun z B=>?_;obtain⟨k,d,rfl⟩:=List.getElem_of_mem B;have q:k<i:=by simp at d;omega
  have u:k<l.length:=by simp at d;omega
  rw[List.getElem_take];rw[K k _ q (List.getElem?_eq_getElem u)];rfl
 have e:flT T l (i+1)=l.take i:=by rw[Wm T E,J,e1];simp
 have R:i<l.length:=(Z1.1 E).1;refine⟨Zg _ _,⟨c,I,hs,fun k z d=>?_,fun k z _ B=>hc k z B⟩,by rw[e];simp;omega,by omega⟩;rw[e,List.getElem?_take]at d;split at d;·exact hc k z d
 ·cases d
theorem Qjq(w):(zeroValue 3).run prog w=.ok (.int .i64 0) w:=by go_simp
theorem Vo.oldA{w0 wr}{g cap i j k:Nat}{l:List Int}{T:Int→Bool}(h:Vo w0 g cap l T i j wr)(z:k<cap):∃u,wr.cell? ⟨g,k,none⟩=some u:=by
 obtain⟨c,h1,q,_⟩:=h.ex;have d:k<c.size:=by omega
 exact⟨c[k],by rw[h1.cell,Array.getElem?_eq_getElem d]⟩
theorem Vo.frozenA{w0 wr}{g cap i j:Nat}{l:List Int}{T:Int→Bool}(h:Vo w0 g cap l T i j wr)(k:Nat):wr.frozen? ⟨g,k,none⟩=false:=by obtain⟨c,h1,_⟩:=h.ex;exact h1.frozen k
theorem Vo.fin0{w0 wr}{g cap j n:Nat}{l:List Int}{T:Int→Bool}(h:Vo w0 g cap l T n j wr)(hn:n=l.length)(hc:n≤cap)(c:cap≤maxLen)(vs:List Value):Q6 (wr.setCells g j vs) (.slice (some ⟨g,0,none⟩) j cap) (l.filter fun y=>!T y)∧Qc (fun k=>k=g) w0 (wr.setCells g j vs):=by subst hn;exact h.fin hc c vs
theorem Qex{w}{g cap:Nat}{l:List Int}{U:Array Value}(hB:Qh w g U 3)(hs:U.size=cap)(hc:∀(k:Nat)(y:Int),l[k]? =some y→U[k]? =some (.int .i64 y))(J:l.length≤cap)(hm:cap≤maxLen)(hI:Q6 w (.slice (some ⟨g,0,none⟩) l.length cap) l)(hl:l.length<1099511627776)
  (gf:FuncId) (d:Array Value) (eg:∀I w,(callFunc gf I).run prog w=.ok (.enter gf I) w) (T:Int→Bool)
  (hT:∀w',Qc (fun k=>k=g) w w'→∀y,Cl gf (#[.int .i64 y]++d) w' fun e af=>e=.returned (.bool (T y))∧w'=af):
  Cl 53 #[.slice (some ⟨g,0,none⟩) l.length cap,.func (.func gf) #[] d] w fun e w'=>∃n,e=.returned (.slice (some ⟨g,0,none⟩) n cap)∧Q6 w' (.slice (some ⟨g,0,none⟩) n cap) (l.filter fun y=>!T y)∧Qc (fun k=>k=g) w w':=by
 have HT:=O hT;have R:=O (Qkq hI hl gf d eg T (hT w (Zg _ _)));have c:=O (fun(i:Nat)(y:Int)(hy:l[i]? =some y)(h1:T y=true)(h2:∀(k:Nat)(z:Int),k<i→l[k]? =some z→T z=false)=>Vo.start hB hs hc hy h1 h2);have HI:=O hI;obtain⟨n,hn⟩:=Zx (l.length);have E:=O hn;have HM:=O hm;rw[←hn]at hl J R HI⊢;clear hT hI hB hs hc hn hm;go_enter func53,ntmps53;go_wp2_with fail;refine Zo R ?_;rintro e w1⟨ix,rfl,rfl,hf⟩;cases hf with
 |none ac=>
  have q:=O (show l.filter (fun y=>!T y)=l from List.filter_eq_self.2 fun z Z=>by
   obtain⟨k,hk,rfl⟩:=List.getElem_of_mem Z;rw[ac k _ (List.getElem?_eq_getElem hk)];rfl)
  clear ac;go_wp2;go_ret;exact⟨n,rfl,by rw[q.o];exact HI.o,Zg _ _⟩
 |some i y hy h1 h2=>
  have al:i<n:=by have:=E.o;have:=(Z1.1 hy).1;omega
  have ST:=O (c.o i y hy h1 h2);have e1:((i:Int)== -1)=false:=by simp
  have e2:decide ((i:Int)= -1)=false:=by simp
  have ew:IntKind.i64.wrap ((i:Int)+1)=(i:Int)+1:=by rw[IntWalk.i64_in _ (by omega)]
  clear hy h1 h2;go_wp2_with fail;go_loopw [5,6] (fun tj ti wr=>∃j i:Nat,tj=.int .i64 j∧ti=.int .i64 i∧i≤n∧j<i∧Vo w g cap l T i j wr) (fun _ ti _=>n-(intOf ti).toNat);case atStart=>exact⟨i,i+1,rfl,by rw[←Int.natCast_one,←Int.natCast_add],by omega,by omega,ST.o⟩
  case round=>
   obtain⟨j,k,rfl,rfl,ao,ae,hD⟩:=hrel;have B:=O hD;clear hD;by_cases hk:k<n
   ·have hd:decide ((k:Int)<(n:Int))=true:=by simp;omega
    have V:k<l.length:=by have:=E.o;omega
    obtain⟨z,Z⟩:∃z,l[k]? =some z:=⟨_,List.getElem?_eq_getElem V⟩;have aj:=B.o.cell Z;have HC:=O (HT.o wr B.o.chg z);have ai:IntKind.i64.wrap ((k:Int)+1)=(k:Int)+1:=by rw[IntWalk.i64_in _ (by omega)]
    have ah:IntKind.i64.wrap ((j:Int)+1)=(j:Int)+1:=by rw[IntWalk.i64_in _ (by omega)]
    cases hb:T z with
    |true=>
     have K:=O (B.o.skip Z hb);rw[hb]at HC;clear Z V hb;go_wp2_with fail;refine Zy HC ?_;rintro w1 rfl;go_wp2;go_roundw;case measure=>simp only[intOf];omega
     case rel=>exact⟨j,k+1,rfl,by rw[←Int.natCast_one,←Int.natCast_add],by omega,by omega,K.o⟩
    |false=>
     have K:=O (B.o.put (by have:=E.o;omega) Z hb);obtain⟨⟨u,hu⟩,ak⟩:=B.o.old (by omega);have an:decide ((j:Int)<(n:Int))=true:=by simp;omega
     rw[hb]at HC;clear Z V hb;go_wp2_with fail;refine Zy HC ?_;rintro w1 rfl;go_wp2;go_roundw;case measure=>simp only[intOf];omega
     case rel=>exact⟨j+1,k+1,by rw[←Int.natCast_one,←Int.natCast_add],by rw[←Int.natCast_one,←Int.natCast_add],by omega,by omega,K.o⟩
   ·have hd:decide ((k:Int)<(n:Int))=false:=by simp;omega
    have ab:k=n:=by omega
    subst ab;have am:j<k:=ae;have aa:=Lib.run_clear_slice (P:=prog) wr 46 3 0 (.int .i64 0) underlying46 Qjq rfl rfl g j (k-j) (cap-j) (by omega)
     (fun x hx=>by obtain⟨u,hu⟩:=B.o.oldA (show j+x<cap by omega);rw[hu];rfl) (fun x hx=>B.o.frozenA (j+x))
    have q:=O (B.o.fin0 E.o J HM.o (List.replicate (k-j) (.int .i64 0)));generalize wr.setCells g j (List.replicate (k-j) (.int .i64 0))=W at aa q;have ag:decide ((j:Int)≤(cap:Int))=true:=by simp;omega
    clear HT R c HI ST B;go_wp2_with fail;go_ret;exact⟨j,rfl,q.o⟩
theorem Qn9(g:Nat)(id y:Int)(w:World)(h:w.cell? ⟨g,0,none⟩=some (.int .i64 id)):
  Cl 174 (#[.int .i64 y]++#[ptr g]) w fun e w'=>e=.returned (.bool (decide (y=id)))∧w=w':=by
 show Cl 174 #[.int .i64 y,ptr g] w _;unfold ptr;go_enter func174,ntmps174;go_wp2;go_ret;exact⟨congrArg (fun b=>Ending.returned (Value.bool b)) (by by_cases e:y=id<;>simp[e]),rfl⟩
section
variable{w w':World}{F:Fp}{m:Nat}{vs:List (Int×Value)}{h:Qm}
theorem Y7.del(u:Y7 w F m vs h)(i:Int)(hi:h.aM i=[])(I:Xq w' m (Vu i vs))(hc:Qc (fun j=>j=m) w w'):Y7 w' F m (Vu i vs) h:=by
 have c:∀p,p∈Vu i vs→p∈vs:=fun p d=>(List.mem_filter.1 d).1;refine⟨I,u.bd.later hc,u.at_,fun p d=>(u.has p (c p d)).aB hc (fun k z e=>(u.own p (c p d) k z).2 e),fun p d=>u.own p (c p d),fun p d q J=>u.dis p (c p d) q (c q J),fun k z=>?_⟩;by_cases e:k=i;·rw[e];exact hi
 ·refine u.miss k fun p d=>?_;by_cases B:p.1=i;·intro E;exact e (E.symm.trans B)
  ·exact z p (List.mem_filter.2 ⟨d,by simpa using B⟩)
theorem Y7.same{h':Qm}(c:Y7 w F m vs h)(e:∀i,h'.aM i=h.aM i):Y7 w F m vs h':=
 ⟨c.map,c.bd,c.at_,fun p d=>by rw[e];exact c.has p d,c.own,c.dis,fun i hi=>by rw[e];exact c.miss i hi⟩
end
end
theorem Hu{k:Int}{v:Value}{q:Int×Value}:∀{l:List (Int×Value)},(l.map (·.1)).Nodup→q∈Oi k v l→q=(k,v)∨(q∈l∧q.1≠k)
 |[],_,c=>.inl (by simpa[Oi]using c)
 |p::l,hn,c=>by
  simp only[List.map_cons,List.nodup_cons]at hn;rw[Oi]at c;by_cases d:k=p.1
  ·rw[if_pos d]at c;rcases Zu.1 c with rfl|c;·exact .inl rfl
   ·refine .inr ⟨by simp[c],fun e=>hn.1 ?_⟩;rw[←d,←e];exact Z3.2 ⟨q,c,rfl⟩
  ·rw[if_neg d]at c;rcases Zu.1 c with rfl|c;·exact .inr ⟨by simp,fun e=>d e.symm⟩
   ·rcases Hu hn.2 c with h|h;·exact .inl h
    ·exact .inr ⟨by simp[h.1],h.2⟩
theorem Qbr(k:Int)(v:Value):∀(l:List (Int×Value)),(k,v)∈Oi k v l
 |[]=>by simp[Oi]
 |p::l=>by
  rw[Oi];split;·simp
  ·simp[Qbr k v l]
theorem Qbs{k:Int}{v:Value}{q:Int×Value}:∀{l:List (Int×Value)},q∈l→q.1≠k→q∈Oi k v l
 |p::l,c,hk=>by
  rw[Oi];rcases Zu.1 c with rfl|c;·rw[if_neg (fun e=>hk e.symm)];simp
  ·split;·simp[c]
   ·simp[Qbs c hk]
section
variable{w w':World}{F S:Fp}{m:Nat}{vs:List (Int×Value)}{h h':Qm}
theorem Y7.put(d:Y7 w F m vs h){i:Int}{v':Value}(hu:∀k,k≠i→h'.aM k=h.aM k)(hI:Q6 w' v' (h'.aM i))(z:∀k,v'.ownBlock=some k→(∃v,(i,v)∈vs∧v.ownBlock=some k)∨(w.heap.size≤k∧k<w'.heap.size))
  (hm:Xq w' m (Oi i v' vs)) (hc:Qc S w w') (hS:∀k,S k→k=m∨∃v,(i,v)∈vs∧v.ownBlock=some k):Y7 w' (Qn F w w') m (Oi i v' vs) h'∧Qc F w w':=by
 have hn:=d.map.nodup;have aa:=d.bd m d.at_;have E:∀p∈vs,p.1≠i→∀k,p.2.ownBlock=some k→F k∧k≠m∧k<w.heap.size∧∀v,(i,v)∈vs→v.ownBlock≠some k:=fun p c u k B=>
  ⟨(d.own p c k B).1,(d.own p c k B).2,d.bd k (d.own p c k B).1,fun v z e=>u (d.dis p c (i,v) z k B e)⟩
 refine⟨⟨hm,d.bd.ext hc,.inl d.at_,fun p c=>?_,fun p c k B=>?_,fun p c q R k J K=>?_,fun k B=>?_⟩,hc.sub fun k B=>?_⟩
 ·rcases Hu hn c with rfl|⟨c,u⟩;·exact hI
  ·rw[hu _ u];refine(d.has p c).aB hc fun k B hs=>?_;obtain⟨_,I,_,U⟩:=E p c u k B;rcases hS k hs with e|⟨v,z,e⟩;·exact I e
   ·exact U v z e
 ·rcases Hu hn c with rfl|⟨c,u⟩
  ·rcases z k B with⟨v,z,e⟩|⟨h1,I⟩;·exact⟨.inl (d.own _ z k e).1,(d.own _ z k e).2⟩
   ·exact⟨.inr ⟨h1,I⟩,by omega⟩
  ·obtain⟨h1,I,_⟩:=E p c u k B;exact⟨.inl h1,I⟩
 ·rcases Hu hn c with rfl|⟨c,u⟩
  ·rcases Hu hn R with rfl|⟨R,Z⟩;·rfl
   ·obtain⟨_,_,h3,U⟩:=E q R Z k K;rcases z k J with⟨v,z,e⟩|⟨h1,I⟩;·exact(U v z e).elim
    ·omega
  ·obtain⟨_,_,h3,U⟩:=E p c u k J;rcases Hu hn R with rfl|⟨R,Z⟩
   ·rcases z k K with⟨v,z,e⟩|⟨h1,I⟩;·exact(U v z e).elim
    ·omega
   ·exact d.dis p c q R k J K
 ·have V:k≠i:=fun e=>B _ (Qbr i v' vs) e.symm;rw[hu k V];refine d.miss k fun p c e=>?_;exact B p (Qbs c (by rw[e];exact V)) e
 ·rcases hS k B with rfl|⟨v,z,e⟩;·exact d.at_
  ·exact(d.own _ z k e).1
end
theorem Qm.aE{h:Qm}{i:Int}{c:Vm}(hc:h.at i=some c):c∈h∧c.sp.id=i:=by unfold Qm.at at hc;exact⟨List.mem_of_find?_eq_some hc,by simpa using List.find?_some hc⟩
theorem Qm.drop_eq{h:Qm}{i:Int}{c:Vm}(hc:h.at i=some c)(d:h.aM i=[]):h.drop i=h.filter fun x=>!decide (x.sp.id=i):=by
 have e:h.aP i=0:=by unfold Qm.aP;rw[hc];simp[d]
 unfold Qm.drop;rw[if_pos e]
theorem Qj7(l:List Vm)(i:Int):Vu i (Us l)=Us (l.filter fun x=>!decide (x.sp.id=i)):=by unfold Vu Us;rw[List.filter_map];congr 1
theorem Ij{h:Qm}{i k:Int}{c:Vm}(hn:(h.map Vm.id).Nodup)(hc:h.at i=some c)(R:k≠c.sp.par):Qm.aM (h.filter fun x=>!decide (x.sp.id=i)) k=h.aM k:=by
 rw[Ph];refine List.filter_eq_self.2 fun y V=>?_;obtain⟨x,U,rfl,d⟩:=Sx V;obtain⟨E,z⟩:=Qm.aE hc;by_cases e:x.sp.id=i
 ·have I:x=c:=by
   have:∀(l:List Vm),(l.map Vm.id).Nodup→x∈l→c∈l→x=c:=by
    intro l;induction l with
    |nil=>intro _ h;cases h
    |cons a l Z=>
     intro B K J;simp only[List.map_cons,List.nodup_cons]at B;rcases Zu.1 K with u|u
     ·rcases Zu.1 J with q|q;·rw[u,q]
      ·exact absurd (Z3.2 ⟨c,q,show c.sp.id=a.sp.id by rw[←u,z,e]⟩) B.1
     ·rcases Zu.1 J with q|q;·exact absurd (Z3.2 ⟨x,u,show x.sp.id=a.sp.id by rw[←q,z,e]⟩) B.1
      ·exact Z B.2 u q
   exact this h hn U E
  rw[I]at d;exact absurd d.symm R
 ·simp[e]
end Go.Proofs.YtnnhmpehkbihnaaGreat
