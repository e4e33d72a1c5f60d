/- A part of the proof: no condition. -/
import Derived.Test.YtnnhmpehkbihnaaGreatPp19
import Derived.Deep.WholeRow
import Derived.Laws.ResultCell
import Derived.Lib.SliceRun
namespace Go.Proofs.YtnnhmpehkbihnaaGreat
set_option linter.unusedVariables false
set_option maxRecDepth 100000
set_option maxHeartbeats 4000000
open Go.RowKit
open Go.Proofs.Tryz
section
attribute [local go_sem] Qq
attribute [local irreducible] Y4 Jm Jw
def Qih(x:Int):List Value:=[.int .i64 x]
abbrev Zw(w:World)(v:Value)(l:List Int):Prop:=Own Qih 1 3 w v l
def spA(s:Xm):Array Value:=#[.int .i64 s.id,.int .i64 s.par,.bool s.leaf,.int .u64 (s.real.f:Int),.int .u64 (s.real.l:Int),.int .u64 (s.real.r:Int),.int .u64 (s.share.f:Int),.int .u64 (s.share.l:Int),.int .u64 (s.share.r:Int),.int .u64 (s.upper.f:Int),.int .u64 (s.upper.l:Int),.int .u64 (s.upper.r:Int),.int .i64 s.pk,.int .i64 s.bt]
def Ei(c:Kk):Array Value:=#[.int .i64 c.sp.id,.int .i64 c.sp.par,.bool c.sp.leaf,.int .u64 (c.sp.real.f:Int),.int .u64 (c.sp.real.l:Int),.int .u64 (c.sp.real.r:Int),.int .u64 (c.sp.share.f:Int),.int .u64 (c.sp.share.l:Int),.int .u64 (c.sp.share.r:Int),.int .u64 (c.sp.upper.f:Int),.int .u64 (c.sp.upper.l:Int),.int .u64 (c.sp.upper.r:Int),.int .i64 c.sp.pk,.int .i64 c.sp.bt,.int .i64 (c.d:Int)]
def Qz9:Xm:={id:=0,par:=0,leaf:=false,real:=⟨0,0,0⟩,share:=⟨0,0,0⟩,upper:=⟨0,0,0⟩,pk:=0,bt:=0}
def Qyg:Kk:=⟨Qz9,0⟩
def V7(l:List Kk):List (Int×Value):=l.map fun c=>(c.id,.agg (Ei c))
structure Ya(w:World)(F:Fp)(m:Nat)(vs:List (Int×Value))(h:Qm):Prop where
 map:Xs w m vs
 bd:Bd F w
 at_:F m
 has:∀p∈vs,Zw w p.2 (h.under p.1)
 own:∀p∈vs,∀k,p.2.ownBlock=some k→F k∧k≠m
 dis:∀p∈vs,∀q∈vs,∀k,p.2.ownBlock=some k→q.2.ownBlock=some k→p.1=q.1
 miss:∀i,(∀p∈vs,p.1≠i)→h.under i=[]
theorem Zw.keep{w w':World}{S:Fp}{v:Value}{l:List Int}(h:Zw w v l)(hc:Qc S w w')(B:∀k,v.ownBlock=some k→¬S k):Zw w' v l:=by
 obtain⟨h1,d⟩:=h;refine⟨h1,?_⟩;rcases d with d|⟨g,cap,c,rfl,u,q,z⟩;·exact .inl d
 ·exact .inr ⟨g,cap,c,rfl,u,hc.heap q (B g rfl),z⟩
theorem Ya.keep{w w':World}{F S:Fp}{m:Nat}{vs:List (Int×Value)}{h:Qm}(c:Ya w F m vs h)(hc:Qc S w w')(d:Je F S):Ya w' F m vs h:=
 ⟨c.map.keep hc (d m c.at_),c.bd.later hc,c.at_,fun p q=>(c.has p q).keep hc (fun k u=>d k (c.own p q k u).1),c.own,c.dis,c.miss⟩
theorem Ya.good(m:Nat)(vs:List (Int×Value))(h:Qm):Hi (fun w F=>Ya w F m vs h) where
 bd:=fun h=>h.bd
 keep:=fun h hc u=>h.keep hc u
 more:=fun h hs q=>⟨h.map,q,hs _ h.at_,h.has,fun p d k c=>⟨hs k (h.own p d k c).1,(h.own p d k c).2⟩,h.dis,h.miss⟩
def Qwy(ma mu b:Nat)(l:List Kk)(vs:List (Int×Value))(h:Qm):List J7:=[Qa8 b #[.map (some ma),.map (some mu)] 92,Qtl ma (V7 l),fun w F=>Ya w F mu vs h]
theorem Hk(ma mu b:Nat)(l:List Kk)(vs:List (Int×Value))(h:Qm):∀P∈Qwy ma mu b l vs h,Hi P:=by
 intro P c;simp only[Qwy,List.mem_cons,List.not_mem_nil,or_false]at c;rcases c with rfl|rfl|rfl;·exact Yu _ _ _
 ·exact Qm3 _ _
 ·exact Ya.good _ _ _
def Zt(w:World)(F:Fp)(b:Nat)(h:Qm):Prop:=∃ma mu l vs,l.Perm h∧Hu (Qwy ma mu b l vs h) w F
theorem Zt.obj:Ky Zt where
 bd:=fun⟨ma,mu,l,vs,_,h⟩=>(Zm (Hk ma mu _ l vs _)).bd h
 own:=fun⟨ma,mu,l,vs,_,h⟩=>by obtain⟨G,h1,q⟩:=Z7 (Hk ma mu _ l vs _) 0 rfl h;exact q _ h1.2.1
 keep:=fun⟨ma,mu,l,vs,c,h⟩hc k=>⟨ma,mu,l,vs,c,(Zm (Hk ma mu _ l vs _)).keep h hc k⟩
 more:=fun⟨ma,mu,l,vs,c,h⟩hs d=>⟨ma,mu,l,vs,c,(Zm (Hk ma mu _ l vs _)).more h hs d⟩
theorem Qm.at_perm{l:List Kk}{h:Qm}(c:l.Perm h)(hn:(l.map Kk.id).Nodup)(i:Int):h.at i=Vp Kk.id i l:=(Qb9 c hn i).symm
theorem Qbg(l:List Kk):(V7 l).map (·.1)=l.map Kk.id:=by unfold V7;rw[List.map_map];rfl
theorem Gg(i:Int)(l:List Kk)(hn:(l.map Kk.id).Nodup):look i (V7 l)=(Vp Kk.id i l).map fun c=>.agg (Ei c):=by
 cases ha:Vp Kk.id i l with
 |some x=> obtain⟨d,rfl⟩:=Yh ha;have k:(Kk.id x,Value.agg (Ei x))∈V7 l:=List.mem_map.2 ⟨x,d,rfl⟩;rw[Dw (by rw[Qbg];exact hn) k];rfl
 |none=>
  rw[Ez];·rfl
  ·intro p q;obtain⟨x,d,rfl⟩:=List.mem_map.1 q;exact Dx ha x d
section
variable{w:World}{F:Fp}{b:Nat}{h:Qm}
theorem Zt.cells(d:Zt w F b h):∃ma mu l vs,l.Perm h∧(l.map Kk.id).Nodup∧Qh w b #[.map (some ma),.map (some mu)] 92∧Xs w ma (V7 l)∧∃G,Ya w G mu vs h:=by obtain⟨ma,mu,l,vs,q,hs⟩:=d;obtain⟨u,h0,_⟩:=Z7 (Hk ma mu b l vs h) 0 rfl hs;obtain⟨z,h1,_⟩:=Z7 (Hk ma mu b l vs h) 1 rfl hs;obtain⟨c,k,_⟩:=Z7 (Hk ma mu b l vs h) 2 rfl hs;exact⟨ma,mu,l,vs,q,by have:=h1.1.nodup;rwa[Qbg]at this,h0.1,h1.1,c,k⟩
theorem Ej(w:World):(zeroValue 87).run prog w=.ok (.agg (Ei Qyg)) w:=by go_simp;rfl
theorem Qwz(m:Nat)(w:World):(binOp .eql 89 (.map (some m)) (.map none)).run prog w=.ok (.bool false) w:=by kernel_rfl
attribute [local go_sem] Qwz
theorem O2(c:Zt w F b h):Cl 34 #[ptr b] w fun e w'=>e=.returned (.bool false)∧w=w':=by obtain⟨ma,mu,l,vs,u,hn,d,q,G,k⟩:=c.cells;obtain⟨z,a1⟩:=Qz d;unfold ptr;clear c u hn d q k;go_enter func34,ntmps34;go_wp2;go_ret;exact⟨rfl,rfl⟩
end
end
section
variable{P:Program}{w:World}{g:Nat}{cs vs:Array Value}{t:TypeId}
theorem Z1(h:Qh w g cs t)(hs:vs.size=cs.size)(h1:∀v∈vs.toList,v.oneCell'=true):
  ∃w',(storeCells ⟨g,0,none⟩ vs.toList 0).run P w=.ok () w'∧Qh w' g vs t∧Qc (fun k=>k=g) w w':=by
 have hr:=run_storeCells_at (P:=P) g 0 t vs.toList 0 cs w h (by simp;omega) h1;have e:(cs.toList.take (0+0)++vs.toList++cs.toList.drop (0+0+vs.toList.length)).toArray=vs:=by apply Array.ext';simp;omega
 rw[e]at hr;refine⟨_,hr,setRow_heap w g cs vs t (0,0) h,⟨rfl,rfl,rfl,by simp[World.setRow],fun k d c=>?_⟩⟩;simp only[World.setRow];rw[Array.getElem?_modify,if_neg (fun e=>c e.symm)]
end
section
attribute [local go_sem] Qq
attribute [local irreducible] Y4 Jm Jw
section
variable{w:World}{F:Fp}{b:Nat}{h:Qm}
def Qm.get(h:Qm)(i:Int):Kk:=(h.at i).getD Qyg
theorem Zt.look2(k:Zt w F b h):∃ma mu,Qh w b #[.map (some ma),.map (some mu)] 92∧∀i,(Instr.lookup 89 (.map (some ma)) (.int .i64 i) true).run prog w=.ok (.tuple #[.agg (Ei (h.get i)),.bool (h.at i).isSome]) w:=by obtain⟨ma,mu,l,vs,u,hn,q,d,G,z⟩:=k.cells;refine⟨ma,mu,q,fun i=>?_⟩;have c:=Up (P:=prog) d underlying89 underlying3 (Ej w) i;rw[Gg i l hn,←Qm.at_perm u hn]at c;rw[c];unfold Qm.get;cases h.at i<;>rfl
theorem Qab(c:Kk):∀v∈(Ei c).toList,v.oneCell'=true:=by intro v d;simp only[Ei,List.mem_cons,List.not_mem_nil,or_false]at d;rcases d with rfl|rfl|rfl|rfl|rfl|rfl|rfl|rfl|rfl|rfl|rfl|rfl|rfl|rfl|rfl<;>rfl
theorem Lc(c:Xm):∀v∈(spA c).toList,v.oneCell'=true:=by intro v d;simp only[spA,List.mem_cons,List.not_mem_nil,or_false]at d;rcases d with rfl|rfl|rfl|rfl|rfl|rfl|rfl|rfl|rfl|rfl|rfl|rfl|rfl|rfl<;>rfl
theorem Uy{w:World}{g:Nat}{c:Kk}{t:TypeId}(h:Qh w g (Ei c) t):w.cell? ⟨g,0,none⟩=some (.int .i64 c.sp.id)∧w.cell? ⟨g,1,none⟩=some (.int .i64 c.sp.par)∧w.cell? ⟨g,2,none⟩=some (.bool c.sp.leaf)∧w.cell? ⟨g,3,none⟩=some (.int .u64 (c.sp.real.f:Int))∧w.cell? ⟨g,4,none⟩=some (.int .u64 (c.sp.real.l:Int))∧w.cell? ⟨g,5,none⟩=some (.int .u64 (c.sp.real.r:Int))∧w.cell? ⟨g,6,none⟩=some (.int .u64 (c.sp.share.f:Int))∧w.cell? ⟨g,7,none⟩=some (.int .u64 (c.sp.share.l:Int))∧w.cell? ⟨g,8,none⟩=some (.int .u64 (c.sp.share.r:Int))∧w.cell? ⟨g,9,none⟩=some (.int .u64 (c.sp.upper.f:Int))∧w.cell? ⟨g,10,none⟩=some (.int .u64 (c.sp.upper.l:Int))∧w.cell? ⟨g,11,none⟩=some (.int .u64 (c.sp.upper.r:Int))∧w.cell? ⟨g,12,none⟩=some (.int .i64 c.sp.pk)∧w.cell? ⟨g,13,none⟩=some (.int .i64 c.sp.bt)∧w.cell? ⟨g,14,none⟩=some (.int .i64 (c.d:Int)):=
 ⟨h.cell 0,h.cell 1,h.cell 2,h.cell 3,h.cell 4,h.cell 5,h.cell 6,h.cell 7,h.cell 8,h.cell 9,h.cell 10,h.cell 11,h.cell 12,h.cell 13,h.cell 14⟩
theorem Qzo{w:World}{g:Nat}{t:TypeId}(h:Qh w g #[.int .i64 0,.int .i64 0,.bool false,.int .u64 0,.int .u64 0,.int .u64 0,.int .u64 0,.int .u64 0,.int .u64 0,.int .u64 0,.int .u64 0,.int .u64 0,.int .i64 0,.int .i64 0] t):w.cell? ⟨g,0,none⟩=some (.int .i64 0)∧w.cell? ⟨g,1,none⟩=some (.int .i64 0)∧w.cell? ⟨g,2,none⟩=some (.bool false)∧w.cell? ⟨g,3,none⟩=some (.int .u64 0)∧w.cell? ⟨g,4,none⟩=some (.int .u64 0)∧w.cell? ⟨g,5,none⟩=some (.int .u64 0)∧w.cell? ⟨g,6,none⟩=some (.int .u64 0)∧w.cell? ⟨g,7,none⟩=some (.int .u64 0)∧w.cell? ⟨g,8,none⟩=some (.int .u64 0)∧w.cell? ⟨g,9,none⟩=some (.int .u64 0)∧w.cell? ⟨g,10,none⟩=some (.int .u64 0)∧w.cell? ⟨g,11,none⟩=some (.int .u64 0)∧w.cell? ⟨g,12,none⟩=some (.int .i64 0)∧w.cell? ⟨g,13,none⟩=some (.int .i64 0):=
 ⟨h.cell 0,h.cell 1,h.cell 2,h.cell 3,h.cell 4,h.cell 5,h.cell 6,h.cell 7,h.cell 8,h.cell 9,h.cell 10,h.cell 11,h.cell 12,h.cell 13⟩
theorem Qw0{w:World}{g:Nat}{cs:Array Value}{t:TypeId}(h:Qh w g cs t):w.frozen? ⟨g,0,none⟩=false∧w.frozen? ⟨g,1,none⟩=false∧w.frozen? ⟨g,2,none⟩=false∧w.frozen? ⟨g,3,none⟩=false∧w.frozen? ⟨g,4,none⟩=false∧w.frozen? ⟨g,5,none⟩=false∧w.frozen? ⟨g,6,none⟩=false∧w.frozen? ⟨g,7,none⟩=false∧w.frozen? ⟨g,8,none⟩=false∧w.frozen? ⟨g,9,none⟩=false∧w.frozen? ⟨g,10,none⟩=false∧w.frozen? ⟨g,11,none⟩=false∧w.frozen? ⟨g,12,none⟩=false∧w.frozen? ⟨g,13,none⟩=false:=
 ⟨h.frozen 0,h.frozen 1,h.frozen 2,h.frozen 3,h.frozen 4,h.frozen 5,h.frozen 6,h.frozen 7,h.frozen 8,h.frozen 9,h.frozen 10,h.frozen 11,h.frozen 12,h.frozen 13⟩
theorem Gh(hh:Zt w F b h)(i:Int):Cl 13 #[ptr b,.int .i64 i] w fun e w'=>e=.returned (.tuple #[.agg (spA (h.get i).sp),.bool (h.at i).isSome])∧Qc Qb w w':=by
 have d:=O (fun w'(c:Qc Qb w w')=>Zt.obj.keep hh c (Je.none F));obtain⟨W,hW⟩:=Zx (w.alloc (.cells #[.int .i64 0,.int .i64 0,.bool false,.int .u64 0,.int .u64 0,.int .u64 0,.int .u64 0,.int .u64 0,.int .u64 0,.int .u64 0,.int .u64 0,.int .u64 0,.int .i64 0,.int .i64 0] 40));have E:Qc Qb w W:=by rw[hW];exact(Qc.refl _ _).alloc _
 have hN:=O (O2 (d.out W E));have I:Qh W w.heap.size #[.int .i64 0,.int .i64 0,.bool false,.int .u64 0,.int .u64 0,.int .u64 0,.int .u64 0,.int .u64 0,.int .u64 0,.int .u64 0,.int .u64 0,.int .u64 0,.int .i64 0,.int .i64 0] 40:=by rw[hW];exact Qh.new _ _ _
 obtain⟨ma,mu,hB,hL⟩:=(d.out W E).look2;have hr:=hL i;obtain⟨a0,a1⟩:=Qz hB;have Jl:w.heap.size<W.heap.size:=I.lt;obtain⟨c,hc⟩:=Zx (h.get i);rw[←hc]at hr⊢;generalize(h.at i).isSome=ok at hr⊢;obtain⟨W1,hW1⟩:=Zx (W.alloc (.cells #[.int .i64 0,.int .i64 0,.bool false,.int .u64 0,.int .u64 0,.int .u64 0,.int .u64 0,.int .u64 0,.int .u64 0,.int .u64 0,.int .u64 0,.int .u64 0,.int .i64 0,.int .i64 0,.int .i64 0] 87));have B:Qh W1 W.heap.size #[.int .i64 0,.int .i64 0,.bool false,.int .u64 0,.int .u64 0,.int .u64 0,.int .u64 0,.int .u64 0,.int .u64 0,.int .u64 0,.int .u64 0,.int .u64 0,.int .i64 0,.int .i64 0,.int .i64 0] 87:=by rw[hW1];exact Qh.new _ _ _
 have V:Qc Qb W W1:=by rw[hW1];exact(Qc.refl _ _).alloc _
 obtain⟨Z,s2,z,R⟩:=Z1 (P:=prog) (vs:=Ei c) B rfl (Qab c);have q:Qh Z w.heap.size #[.int .i64 0,.int .i64 0,.bool false,.int .u64 0,.int .u64 0,.int .u64 0,.int .u64 0,.int .u64 0,.int .u64 0,.int .u64 0,.int .u64 0,.int .u64 0,.int .i64 0,.int .i64 0] 40:=R.blk (V.blk I (fun h=>h)) (by intro e;omega);obtain⟨e0,e1,e2,e3,e4,e5,e6,e7,e8,e9,ab,ac,af,aj,an⟩:=Uy z;obtain⟨z0,z1,z2,z3,z4,z5,z6,z7,z8,z9,ak,ag,ai,aa⟩:=Qzo q;obtain⟨f0,f1,f2,f3,f4,f5,f6,f7,f8,f9,al,am,ah,ae⟩:=Qw0 q;have U:Hid (Qc Qb w ((((((((((((((Z.setCell ⟨w.heap.size,0,none⟩ (.int .i64 c.sp.id)).setCell ⟨w.heap.size,1,none⟩ (.int .i64 c.sp.par)).setCell ⟨w.heap.size,2,none⟩ (.bool c.sp.leaf)).setCell ⟨w.heap.size,3,none⟩ (.int .u64 (c.sp.real.f:Int))).setCell ⟨w.heap.size,4,none⟩ (.int .u64 (c.sp.real.l:Int))).setCell ⟨w.heap.size,5,none⟩ (.int .u64 (c.sp.real.r:Int))).setCell ⟨w.heap.size,6,none⟩ (.int .u64 (c.sp.share.f:Int))).setCell ⟨w.heap.size,7,none⟩ (.int .u64 (c.sp.share.l:Int))).setCell ⟨w.heap.size,8,none⟩ (.int .u64 (c.sp.share.r:Int))).setCell ⟨w.heap.size,9,none⟩ (.int .u64 (c.sp.upper.f:Int))).setCell ⟨w.heap.size,10,none⟩ (.int .u64 (c.sp.upper.l:Int))).setCell ⟨w.heap.size,11,none⟩ (.int .u64 (c.sp.upper.r:Int))).setCell ⟨w.heap.size,12,none⟩ (.int .i64 c.sp.pk)).setCell ⟨w.heap.size,13,none⟩ (.int .i64 c.sp.bt))):=O (by
  have K:Qc Qb W Z:=V.trans R (fun k e=>.inr (by omega));have J:=E.trans' K;iterate 14 refine Qc.setCell ?_ _ (.inr (Nat.le_refl _))
  exact J)
 clear hL hB hh hc B V z R q I Jl E;subst hW1;unfold ptr at*;go_enter func13,ntmps13;go_wp2_with fail;rw[←hW];clear hW;refine hN.out.mono ?_;rintro e w1⟨rfl,rfl⟩;go_wp2_with fail;refine bodyPost_ret (v:=.tuple #[.agg (spA c.sp),.bool ok]) (by rw[results_cell_tmp (p:=4) (u:=5) (ty:=40) (by kernel_rfl)];go_simp;rfl) rfl ?_;exact⟨rfl,U.out⟩
end
section
variable{w:World}{F:Fp}{b:Nat}{h:Qm}
theorem Qm.depth_zero:h.depth 0=1:=by unfold Qm.depth;simp
theorem Qm.depth_none{i:Int}(hi:i≠0)(ha:h.at i=none):h.depth i=0:=by unfold Qm.depth;rw[if_neg hi,ha]
theorem Qm.depth_some{i:Int}{c:Kk}(hi:i≠0)(ha:h.at i=some c):h.depth i=if c.sp.leaf||decide (8≤c.d)then 0 else c.d+1:=by unfold Qm.depth;rw[if_neg hi,ha]
theorem Qk9(d:Zt w F b h):Cl 122 #[ptr b,.int .i64 0] w fun e w'=>e=.returned (.int .i64 (h.depth 0:Int))∧Qc Qb w w':=by rw[Qm.depth_zero];unfold ptr;clear d;have c:=O (Qc.refl Qb w);go_enter func122,ntmps122;go_wp2;go_ret;exact⟨rfl,c.out⟩
theorem Qn1(U:Zt w F b h)(i:Int):Cl 122 #[ptr b,.int .i64 i] w fun e w'=>e=.returned (.int .i64 (h.depth i:Int))∧Qc Qb w w':=by
 by_cases hi:i=0;·subst hi;exact Qk9 U
 obtain⟨ma,mu,R,V⟩:=U.look2;have hr:=V i;obtain⟨a0,a1⟩:=Qz R;have Jl:b<w.heap.size:=R.lt;obtain⟨c,hc⟩:=Zx (h.get i);obtain⟨W1,hW1⟩:=Zx (w.alloc (.cells #[.int .i64 0,.int .i64 0,.bool false,.int .u64 0,.int .u64 0,.int .u64 0,.int .u64 0,.int .u64 0,.int .u64 0,.int .u64 0,.int .u64 0,.int .u64 0,.int .i64 0,.int .i64 0,.int .i64 0] 87));have I:Qh W1 w.heap.size #[.int .i64 0,.int .i64 0,.bool false,.int .u64 0,.int .u64 0,.int .u64 0,.int .u64 0,.int .u64 0,.int .u64 0,.int .u64 0,.int .u64 0,.int .u64 0,.int .i64 0,.int .i64 0,.int .i64 0] 87:=by rw[hW1];exact Qh.new _ _ _
 have C1:Qc Qb w W1:=by rw[hW1];exact(Qc.refl _ _).alloc _
 obtain⟨W2,s2,E,Z⟩:=Z1 (P:=prog) (vs:=Ei c) I rfl (Qab c);obtain⟨q,e1,e2,e3,e4,e5,e6,e7,e8,e9,ab,ac,ae,ah,aj⟩:=Uy E;have B:Hid (Qc Qb w W2):=O (C1.trans Z (fun k e=>.inr (by omega)));have af:(i==0)=false:=by simp[hi]
 have z:Hid ((h.at i=none→h.depth i=0)∧(∀c',h.at i=some c'→c=c'∧h.depth i=if c'.sp.leaf||decide (8≤c'.d)then 0 else c'.d+1)):=O ⟨fun e=>Qm.depth_none hi e,fun c' e=>⟨by rw[hc];unfold Qm.get;rw[e];rfl,Qm.depth_some hi e⟩⟩;rw[←hc]at hr;generalize h.depth i=ag at z⊢;cases d:h.at i with
 |none=> have q:=z.out.1 d;subst q;rw[d]at hr;dsimp only[Option.isSome]at hr;clear V R U hc I C1 E Z Jl z d;subst hW1;unfold ptr at*;go_enter func122,ntmps122;go_wp2;go_ret;exact⟨rfl,B.out⟩
 |some c'=>
  obtain⟨rfl,q⟩:=z.out.2 c' d;rw[d]at hr;dsimp only[Option.isSome]at hr;clear V R U hc I C1 E Z Jl z d;subst hW1;unfold ptr at*;cases u:c.sp.leaf with
  |true=> rw[u]at e2 q;simp only[Bool.true_or,if_true]at q;subst q;clear u;go_enter func122,ntmps122;go_wp2;go_ret;exact⟨rfl,B.out⟩
  |false=>
   rw[u]at e2 q;by_cases J:8≤c.d
   ·simp only[J,decide_true,Bool.or_true,if_true]at q;subst q;have aa:decide ((c.d:Int)≥8)=true:=by simp;omega
    have K:decide (8≤(c.d:Int))=true:=by simp;omega
    have HD:=O J;clear u J;go_enter func122,ntmps122;go_wp2;go_ret;exact⟨rfl,B.out⟩
   ·simp only[J,decide_false,Bool.or_false,Bool.false_eq_true,if_false]at q;have aa:decide ((c.d:Int)≥8)=false:=by simp;omega
    have K:decide (8≤(c.d:Int))=false:=by simp;omega
    have ai:IntKind.i64.wrap ((c.d:Int)+1)=(c.d:Int)+1:=by rw[IntWalk.i64_in _ (by omega)]
    have E0:=O q;have HD:=O J;clear u J q;go_enter func122,ntmps122;go_wp2;go_ret;rw[E0.out];exact⟨rfl,B.out⟩
end
theorem Que(m:Nat)(L:List (Int×Value)){w:World}(h:Xs w m L):Qtl m L w (fun k=>k=m):=⟨h,rfl,fun k e=>e▸h.lt⟩
theorem Quf(w:World):Cl 65 #[] w fun e w'=>∃b,e=.returned (ptr b)∧Zt w' (Qn Qb w w') b []∧Qc Qb w w':=by
 have B:=@run_makeMap prog;have q:Hid (∀w',w'=((w.alloc (.map #[] 0)).alloc (.map #[] 0)).alloc (.cells #[.map (some w.heap.size),.map (some (w.heap.size+1))] 92)→Zt w' (Qn Qb w w') (w.heap.size+1+1) []∧Qc Qb w w'):=O (by
  rintro w' rfl;obtain⟨W,hW⟩:=Zx (((w.alloc (.map #[] 0)).alloc (.map #[] 0)).alloc (.cells #[.map (some w.heap.size),.map (some (w.heap.size+1))] 92));have hc:Qc Qb w W:=by rw[hW];exact(((Qc.refl _ _).alloc _).alloc _).alloc _
  have z:Qh W (w.heap.size+1+1) #[.map (some w.heap.size),.map (some (w.heap.size+1))] 92:=by rw[hW];exact Qh.new' _ _ (by simp)
  have d:Xs W w.heap.size []:=by rw[hW];exact(Xs.new w).keep (((Qc.refl Qb _).alloc _).alloc _) (fun h=>h)
  have c:Xs W (w.heap.size+1) []:=by
   rw[hW];have:=(Xs.new (w.alloc (.map #[] 0))).keep ((Qc.refl Qb _).alloc (.cells #[.map (some w.heap.size),.map (some (w.heap.size+1))] 92)) (fun h=>h);have e:(w.alloc (.map #[] 0)).heap.size=w.heap.size+1:=by simp
   rwa[e]at this
  rw[←hW];have Jl:=z.lt;refine⟨⟨w.heap.size,w.heap.size+1,[],[],List.Perm.refl _,?_⟩,hc⟩;refine Zl (G:=fun k=>k=w.heap.size+1+1) (H:=fun k=>k=w.heap.size∨k=w.heap.size+1) ⟨z,rfl,fun k e=>e▸Jl⟩ ?_ ?_ ?_ ?_ (Qcg _ _)
  ·refine Zl (G:=fun k=>k=w.heap.size) (H:=fun k=>k=w.heap.size+1) (Que _ _ d) (Yv ⟨c,fun k e=>e▸c.lt,rfl,nofun,nofun,nofun,fun _ _=>rfl⟩ (fun k e=>e▸c.lt)) ?_ (fun k e=>.inl e) (fun k e=>.inr e) ?_;·rintro k rfl e;have u:w.heap.size=w.heap.size+1:=e;omega
   ·rintro k(e|e);·exact e▸d.lt
    ·exact e▸c.lt
  ·rintro k rfl(e|e);·have u:w.heap.size+1+1=w.heap.size:=e;omega
   ·have u:w.heap.size+1+1=w.heap.size+1:=e;omega
  ·rintro k rfl;exact(Qt _).2 ⟨by omega,Jl⟩
  ·rintro k(rfl|rfl);·exact(Qt _).2 ⟨by omega,d.lt⟩
   ·exact(Qt _).2 ⟨by omega,c.lt⟩)
 unfold ptr;go_enter func65,ntmps65;go_wp2;go_ret;exact⟨_,rfl,q.out _ rfl⟩
end
section
attribute [local go_sem] Qq
attribute [local irreducible] Y4 Jm Jw
theorem Qn2(x:Int):(Qih x).length=1:=rfl
theorem intT:Qkf prog Qih 1 46 3 8 (0:Int) where
 ht:=underlying46
 hi:=Lu (by kernel_rfl)
 pos:=by decide
 hc:=Qn2
 one:=by intro x u c;simp only[Qih,List.mem_cons,List.not_mem_nil,or_false]at c;rcases c with rfl;rfl
theorem Qak:prog.eqGuardType prog.depth 46=false:=by kernel_rfl
theorem Qch:prog.stoodInHeld 46=false:=by kernel_rfl
attribute [local go_sem] Qak Qch
theorem Qeg(v:Value)(K:List Int)(w:World)(R:Own Qih 1 3 w v K)(hl:K.length<1099511627776):
  Cl 81 #[v] w fun e w'=>∃v',e=.returned v'∧Own Qih 1 3 w' v' K∧Qc Qb w w'∧(∀k,v'.ownBlock=some k→w.heap.size≤k)∧(v=.slice none 0 0→v'=.slice none 0 0):=by
 obtain⟨a,cap,rfl,z,h0,d⟩:=R.row intT.hc;have HR:=O d;have HK:=O R;clear d R;have I:=fun(W:World)=>Lib.run_eql_slice_nil (P:=prog) W 46 3 a K.length cap 0 0 underlying46;cases a with
 |none=>
  obtain rfl:=h0 rfl;have u:K.length=0:=by omega
  obtain rfl:=List.eq_nil_of_length_eq_zero u;have C0:=O (Qc.refl Qb w);simp only[List.length_nil,Option.isNone_none]at I;clear z h0 hl u;go_enter func81,ntmps81;go_wp2;go_ret;exact⟨_,rfl,Own.nil _ _ _ _,C0.out,nofun,fun _=>rfl⟩
 |some ad=>
  clear h0;go_enter func81,ntmps81;go_wp2_with (at_builtin;refine Jf intT rfl (.tmp 5) (.tmp 6) rfl _ ([]:List Int) rfl (Own.empty (Qh.new' _ _ (by simp))) _ _ K rfl ?a2 ?a3 ?a4 ?a5 ?a6);case a2=>intro h;cases h
  case a3=>exact HR.out.keep ((Qc.refl Qb w).alloc _) (fun _ _ h=>h)
  case a4=>simp[maxLen];omega
  case a5=>simp;omega
  case a6=>
   intro v' w1 c B E;have V:Qc Qb w w1:=((Qc.refl Qb w).alloc (.cells #[] 3)).trans B fun j Z=>.inr (by simp[Value.ownBlock]at Z;omega);have U:∀k,v'.ownBlock=some k→w.heap.size≤k:=by
    intro k J;rcases E with h|h;·rw[h]at J;simp[Value.ownBlock]at J;omega
    ·rw[h]at J;have:=Option.some.inj J;have hz:(w.alloc (.cells #[] 3)).heap.size=w.heap.size+1:=by simp
     omega
   have q:=O (And.intro c (And.intro V U));clear c V U B E;go_wp2;go_ret;exact⟨_,rfl,q.out.1,q.out.2.1,q.out.2.2,nofun⟩
section
variable{w:World}{F:Fp}{b:Nat}{h:Qm}
theorem Qug(w:World):(zeroValue 46).run prog w=.ok (.slice none 0 0) w:=by go_simp
theorem Zw.nil(w:World):Zw w (.slice none 0 0) []:=Own.nil _ _ _ _
theorem Ya.look{m:Nat}{vs:List (Int×Value)}(d:Ya w F m vs h)(i:Int):
  ∃v,(Instr.lookup 90 (.map (some m)) (.int .i64 i) false).run prog w=.ok v w∧Zw w v (h.under i)∧((v=.slice none 0 0∧∀p∈vs,p.1≠i)∨(i,v)∈vs):=by
 have k:=U3 (P:=prog) d.map underlying90 underlying3 (Qug w) i;refine⟨_,k,?_⟩;by_cases hi:∃p∈vs,p.1=i;·obtain⟨⟨j,v⟩,c,rfl⟩:=hi;rw[Dw d.map.nodup c];exact⟨d.has _ c,.inr c⟩
 ·have hn:∀p∈vs,p.1≠i:=fun p c e=>hi ⟨p,c,e⟩;rw[Ez hn];refine⟨?_,.inl ⟨rfl,hn⟩⟩;rw[d.miss i hn];exact Zw.nil w
theorem Qeh(c:Zt w F b h)(i:Int)(hl:(h.under i).length<1099511627776):
  Cl 35 #[ptr b,.int .i64 i] w fun e w'=>∃v,e=.returned v∧Zw w' v (h.under i)∧(∀k,v.ownBlock=some k→w.heap.size≤k)∧Qc Qb w w':=by
 have J:=O (O2 c);obtain⟨ma,mu,l,vs,R,hn,E,K,G,q⟩:=c.cells;obtain⟨v,hr,z,_⟩:=q.look i;have I:=O (Qeg v _ w z hl);obtain⟨U,a1⟩:=Qz E;unfold ptr at*;clear c R hn E K q z;go_enter func35,ntmps35;go_wp2_with fail;refine J.out.mono ?_;rintro e w1⟨rfl,rfl⟩;go_wp2_with fail;refine I.out.mono ?_;rintro e w1⟨v',rfl,h1,u,B,_⟩;have d:=O (And.intro h1 (And.intro B u));clear h1 u B;go_wp2;go_ret;exact⟨_,rfl,d.out⟩
end
end
section
attribute [local go_sem] Qq
attribute [local irreducible] Y4 Jm Jw
theorem Quh(x:Int)(w:World):Cl 207 #[.int .i64 x] w fun e w'=>e=.returned (.bool false)∧w=w':=by go_enter func207,ntmps207;go_wp2;go_ret;exact⟨by simp,rfl⟩
theorem Qqx(x:Int)(w:World):Cl 184 #[.int .i64 x] w fun e w'=>e=.returned (.bool false)∧w=w':=by go_enter func184,ntmps184;go_wp2;go_ret;exact⟨by simp,rfl⟩
theorem Qw1(x y:Int)(w:World):Cl 149 #[.int .i64 x,.int .i64 y] w fun e w'=>e=.returned (.bool (decide (x<y)))∧w=w':=by have H:=O (Quh x w);go_enter func149,ntmps149;go_wp2_with fail;refine H.out.mono ?_;rintro e w1⟨rfl,rfl⟩;go_wp2;go_ret;exact⟨rfl,rfl⟩
structure Uh(x:Int)(l:List Int)(i j:Nat):Prop where
 le:i≤j
 len:j≤l.length
 lo:∀k v,k<i→l[k]? =some v→v<x
 hi:∀k v,j≤k→l[k]? =some v→x≤v
theorem Uh.start(x:Int)(l:List Int):Uh x l 0 l.length:=⟨Nat.zero_le _,Nat.le_refl _,fun k v h=>absurd h (by omega),fun k v h e=>by rw[List.getElem?_eq_none (by omega)]at e;cases e⟩
theorem Uh.up{x:Int}{l:List Int}{i j m:Nat}{y:Int}(h:Uh x l i j)(hs:l.Pairwise (· ≤ ·))(hi:i≤m)(B:m<j)(u:l[m]? =some y)(Jl:y<x):Uh x l (m+1) j:=
 ⟨by omega,h.len,fun k v E c=>by
  rcases Nat.lt_or_ge k m with h1|h1;·have d:k<l.length:=(List.getElem?_eq_some_iff.1 c).1;have q:m<l.length:=(List.getElem?_eq_some_iff.1 u).1;have:=List.pairwise_iff_getElem.1 hs k m d q h1;rw[List.getElem?_eq_getElem d]at c;rw[List.getElem?_eq_getElem q]at u;have e1:=Option.some.inj c;have z:=Option.some.inj u;omega
  ·have:k=m:=by omega
   subst this;rw[u]at c;have:=Option.some.inj c;omega,h.hi⟩
theorem Uh.down{x:Int}{l:List Int}{i j m:Nat}{y:Int}(h:Uh x l i j)(hs:l.Pairwise (· ≤ ·))(hi:i≤m)(I:m<j)(u:l[m]? =some y)(z:¬y<x):Uh x l i m:=
 ⟨hi,by have:=h.len;omega,h.lo,fun k v B c=>by
  rcases Nat.lt_or_ge m k with h1|h1;·have d:k<l.length:=(List.getElem?_eq_some_iff.1 c).1;have q:m<l.length:=(List.getElem?_eq_some_iff.1 u).1;have:=List.pairwise_iff_getElem.1 hs m k q d h1;rw[List.getElem?_eq_getElem d]at c;rw[List.getElem?_eq_getElem q]at u;have e1:=Option.some.inj c;have E:=Option.some.inj u;omega
  ·have:k=m:=by omega
   subst this;rw[u]at c;have:=Option.some.inj c;omega⟩
theorem Zw.cells{w:World}{v:Value}{l:List Int}(h:Zw w v l):(v=.slice none 0 0∧l=[])∨∃g cap,v=.slice (some ⟨g,0,none⟩) l.length cap∧l.length≤cap∧∀(k:Nat)(x:Int),l[k]? =some x→w.cell? ⟨g,k,none⟩=some (.int .i64 x):=by
 have h1:=h.1;rcases h.2 with⟨rfl,z⟩|⟨g,cap,d,rfl,J,u,hc,I,hs,ht⟩;·exact .inl ⟨rfl,List.eq_nil_of_length_eq_zero z⟩
 ·refine .inr ⟨g,cap,rfl,hc,fun k x q=>?_⟩;have hf:Zr Qih l=l.map fun x=>Value.int .i64 x:=by
   clear h1 ht hc q h;induction l with
   |nil=>rfl
   |cons a l B=>exact congrArg (Value.int .i64 a:: ·) B
  rw[hf]at ht;have c:w.cell? ⟨g,k,none⟩=d[k]? :=by simp[World.cell?,u]
  rw[c];have E:k<l.length:=(List.getElem?_eq_some_iff.1 q).1;have e:(d.toList.take (l.length*1))[k]? =(l.map fun x=>Value.int .i64 x)[k]? :=by rw[ht]
  rw[List.getElem?_take,if_pos (by omega),List.getElem?_map,q]at e;simpa using e
theorem Qui{w:World}{v:Value}{l:List Int}(h:Zw w v l)(hs:l.Pairwise (· ≤ ·))(hl:l.length<1099511627776)(x:Int):
  Cl 123 #[v,.int .i64 x] w fun e w'=>∃(p:Nat)(f:Bool),e=.returned (.tuple #[.int .i64 (p:Int),.bool f])∧w=w'∧Uh x l p p:=by
 have ST:=O (Uh.start x l);have ai:=O (fun y=>Qw1 y x w);have HN:=O (fun y=>Qqx y w);have HS:=O hs;clear hs;obtain⟨n,hn⟩:=Zx (l.length);have V:=O hn;obtain⟨a,cap,hv,q,aj⟩:∃a cap,v=.slice a n cap∧(∀(k:Nat)(y:Int),l[k]? =some y→∃g,a=some ⟨g,0,none⟩∧w.cell? ⟨g,k,none⟩=some (.int .i64 y))∧n≤cap:=by
  rcases h.cells with⟨rfl,ac⟩|⟨g,cap,rfl,hc,hk⟩;·subst ac;exact⟨none,0,by rw[hn];rfl,fun k y e=>(by cases e),by rw[hn];exact Nat.le_refl _⟩
  ·exact⟨_,cap,by rw[hn],fun k y e=>⟨g,rfl,hk k y e⟩,by omega⟩
 subst hv;have z:=O q;have an:n<1099511627776:=by omega
 rw[←hn]at ST;clear h hn q hl;go_enter func123,ntmps123;go_wp2_with fail;go_loopw [7,8] (fun lo hi wr=>∃i j:Nat,lo=.int .i64 (i:Int)∧hi=.int .i64 (j:Int)∧wr=w∧j≤n∧Uh x l i j) (fun lo hi _=>(intOf hi).toNat-(intOf lo).toNat);case atStart=>exact⟨0,n,rfl,rfl,rfl,Nat.le_refl _,ST.out⟩
 case round=>
  obtain⟨i,j,rfl,rfl,rfl,ah,E⟩:=hrel;have d:=O E;clear E;by_cases aq:i<j
  ·have hd:decide ((i:Int)<(j:Int))=true:=by simp;omega
   obtain⟨m,hm⟩:=Zx ((i+j)/2);have J:i≤m:=by omega
   have U:m<j:=by omega
   have Z:m<l.length:=by have:=V.out;omega
   obtain⟨y,B⟩:∃y,l[m]? =some y:=⟨_,List.getElem?_eq_getElem Z⟩;obtain⟨g,rfl,af⟩:=z.out m y B;have am:((i:Int)+(j:Int))/2=(m:Int):=by rw[hm];omega
   have HY:=O B;have aa:=O (ai.out y);have ao:m<n:=by omega
   have al:decide ((m:Int)<(n:Int))=true:=by simp;omega
   have HM:=O hm;clear hm B Z;go_wp2_with fail;refine aa.out.mono ?_;rintro e w1⟨rfl,rfl⟩;by_cases c:y<x
   ·have ab:decide (y<x)=true:=by simp[c]
    have ew:IntKind.i64.wrap ((m:Int)+1)=((m+1:Nat):Int):=by rw[IntWalk.i64_in _ (by omega)];omega
    have u:=O (d.out.up HS.out J U HY.out c);have R:=O c;clear c;go_wp2;go_roundw;case measure=>simp only[intOf];omega
    case rel=>exact⟨m+1,j,by rw[←Int.natCast_one,←Int.natCast_add],rfl,trivial,ah,u.out⟩
   ·have ab:decide (y<x)=false:=by simp[c]
    have u:=O (d.out.down HS.out J U HY.out c);have R:=O c;clear c;go_wp2;go_roundw;case measure=>simp only[intOf];omega
    case rel=>exact⟨i,m,rfl,rfl,trivial,by omega,u.out⟩
  ·have hd:decide ((i:Int)<(j:Int))=false:=by simp;omega
   have K:i=j:=by have:=d.out.le;omega
   subst K;by_cases ak:i<n
   ·have I:i<l.length:=by have:=V.out;omega
    obtain⟨y,B⟩:∃y,l[i]? =some y:=⟨_,List.getElem?_eq_getElem I⟩;obtain⟨g,rfl,af⟩:=z.out i y B;have ae:decide ((i:Int)<(n:Int))=true:=by simp;omega
    have ag:=O (HN.out y);clear B I;by_cases c:y=x;·subst c;go_wp2_with fail;go_ret2;exact⟨i,_,rfl,rfl,d.out⟩
    ·have ar:(y==x)=false:=by simp[c]
     have ap:decide (y=x)=false:=by simp[c]
     have R:=O c;clear c;go_wp2_with fail;refine ag.out.mono ?_;rintro e w1⟨rfl,rfl⟩;go_wp2_with fail;go_ret2;exact⟨i,_,rfl,rfl,d.out⟩
   ·have ae:decide ((i:Int)<(n:Int))=false:=by simp;omega
    go_wp2_with fail;go_ret2;exact⟨i,_,rfl,rfl,d.out⟩
end
def Qci(x:Int):List Int→List Int
 |[]=>[x]
 |y::l=>if x<y then x::y::l else y::Qci x l
abbrev Ld(h:Qm):Prop:=h.Pairwise fun a b=>a.sp.id<b.sp.id
theorem Quj(i:Int):Qm.under [] i=[]:=rfl
theorem Uv(x:Kk)(h:Qm)(i:Int):Qm.under (x::h) i=if x.sp.par=i then x.sp.id::Qm.under h i else Qm.under h i:=by
 unfold Qm.under;rw[List.filter_cons];by_cases c:x.sp.par=i;·simp[c]
 ·simp[c]
theorem Qac{h:Qm}{i y:Int}(c:y∈h.under i):∃x∈h,x.sp.id=y∧x.sp.par=i:=by unfold Qm.under at c;obtain⟨x,d,rfl⟩:=List.mem_map.1 c;have:=List.mem_filter.1 d;exact⟨x,this.1,rfl,by simpa using this.2⟩
theorem Qw2{x:Int}:∀{l:List Int},(∀y∈l,x<y)→Qci x l=x::l
 |[],_=>rfl
 |y::l,h=>by rw[Qci,if_pos (h y (by simp))]
theorem Qdj(c:Kk):∀{h:Qm}(i:Int),Ld h→Qm.under (Qbb c h) i=if c.sp.par=i then Qci c.sp.id (Qm.under h i)else Qm.under h i
 |[],i,_=>by rw[Qbb,Uv,Quj];rfl
 |x::l,i,hs=>by
  have d:=List.pairwise_cons.1 hs;rw[Qbb];by_cases Jl:c.sp.id<x.sp.id
  ·rw[if_pos Jl,Uv c];by_cases hc:c.sp.par=i
   ·rw[if_pos hc,if_pos hc,Qw2];intro y u;obtain⟨z,q,rfl,_⟩:=Qac u;rcases List.mem_cons.1 q with rfl|q;·exact Jl
    ·exact Int.lt_trans Jl (d.1 z q)
   ·rw[if_neg hc,if_neg hc]
  ·rw[if_neg Jl,Uv x,Qdj c i d.2,Uv x];by_cases hc:c.sp.par=i
   ·rw[if_pos hc,if_pos hc];by_cases k:x.sp.par=i;·rw[if_pos k,if_pos k,Qci,if_neg Jl]
    ·rw[if_neg k,if_neg k]
   ·rw[if_neg hc,if_neg hc]
theorem Qsi{x:Int}:∀{l:List Int}{p:Nat},Uh x l p p→x∉l→Qci x l=l.take p++x::l.drop p
 |[],p,h,hx=>by simp[Qci]
 |y::l,0,h,hx=>by have h1:=h.hi 0 y (Nat.le_refl _) rfl;have:x≠y:=fun e=>hx (by simp[e]);rw[Qci,if_pos (by omega)];rfl
 |y::l,p+1,h,hx=>by have h1:=h.lo 0 y (by omega) rfl;rw[Qci,if_neg (by omega),Qsi (p:=p) ⟨Nat.le_refl _,by have:=h.len;simp at this;omega,fun k v d c=>h.lo (k+1) v (by omega) (by simpa using c),fun k v d c=>h.hi (k+1) v (by omega) (by simpa using c)⟩ (fun h=>hx (by simp[h]))];rfl
theorem Le{h:Qm}(hs:Ld h)(i:Int):(h.under i).Pairwise (· < ·):=by unfold Qm.under;exact List.pairwise_map.2 (hs.filter _)
theorem Lf(h:Qm)(d i:Int):Qm.under (h.filter fun x=>!decide (x.sp.id=d)) i=(h.under i).filter fun y=>!decide (y=d):=by unfold Qm.under;rw[List.filter_map,List.filter_filter,List.filter_filter];congr 1;exact List.filter_congr fun x _=>by simp[Function.comp,Bool.and_comm]
theorem Qei(h:Qm)(s:Xm)(i:Int):Qm.under (h.map fun x=>if x.sp.id=s.id then⟨x.sp.renew s,x.d⟩else x) i=h.under i:=by
 induction h with
 |nil=>rfl
 |cons x l d=>
  rw[List.map_cons,Uv,Uv,d];by_cases c:x.sp.id=s.id;·have e:(if x.sp.id=s.id then(⟨x.sp.renew s,x.d⟩:Kk)else x)=⟨x.sp.renew s,x.d⟩:=if_pos c;rw[e];rfl
  ·simp only[c,if_false]
theorem Gi(c:Kk):∀(h:Qm),(Qbb c h).Perm (h++[c])
 |[]=>List.Perm.refl _
 |x::l=>by
  rw[Qbb];by_cases Jl:c.sp.id<x.sp.id;·rw[if_pos Jl];exact List.perm_append_comm (l₁:=[c]) (l₂:=x::l)
  ·rw[if_neg Jl];exact(Gi c l).cons x
theorem Qg3(c:Kk):∀{h:Qm},Ld h→(∀x∈h,x.sp.id≠c.sp.id)→Ld (Qbb c h)
 |[],_,_=>by simp[Qbb,Ld]
 |x::l,hs,hn=>by
  have k:=List.pairwise_cons.1 hs;rw[Qbb];by_cases Jl:c.sp.id<x.sp.id
  ·rw[if_pos Jl];refine List.pairwise_cons.2 ⟨fun y d=>?_,hs⟩;rcases List.mem_cons.1 d with rfl|d;·exact Jl
   ·exact Int.lt_trans Jl (k.1 y d)
  ·rw[if_neg Jl];refine List.pairwise_cons.2 ⟨fun y d=>?_,Qg3 c k.2 fun z q=>hn z (by simp[q])⟩;have:=(Gi c l).mem_iff.1 d;rcases List.mem_append.1 this with d|d;·exact k.1 y d
   ·have e:y=c:=by simpa using d
    have:=hn x (by simp);rw[e];omega
section
attribute [local go_sem] Qq
attribute [local irreducible] Y4 Jm Jw
inductive Qe0(T:Int→Bool)(l:List Int):Int→Prop
 |none:(∀(k:Nat)(y:Int),l[k]? =some y→T y=false)→Qe0 T l (-1)
 |some (i:Nat) (y:Int):l[i]? =some y→T y=true→(∀(k:Nat)(z:Int),k<i→l[k]? =some z→T z=false)→Qe0 T l (i:Int)
theorem Qqy{w:World}{v:Value}{l:List Int}(h:Zw w v l)(hl:l.length<1099511627776)(g:FuncId)(q:Array Value)(eg:∀u w,(callFunc g u).run prog w=.ok (.enter g u) w)(T:Int→Bool)
  (hT:∀y,Cl g (#[.int .i64 y]++q) w fun e w'=>e=.returned (.bool (T y))∧w=w'):
  Cl 112 #[v,.func (.func g) #[] q] w fun e w'=>∃i,e=.returned (.int .i64 i)∧w=w'∧Qe0 T l i:=by
 have HT:=O hT;obtain⟨n,hn⟩:=Zx (l.length);have R:=O hn;obtain⟨a,cap,hv,c,ab⟩:∃a cap,v=.slice a n cap∧(∀(k:Nat)(y:Int),l[k]? =some y→∃g,a=some ⟨g,0,none⟩∧w.cell? ⟨g,k,none⟩=some (.int .i64 y))∧n≤cap:=by
  rcases h.cells with⟨rfl,Z⟩|⟨g,cap,rfl,hc,E⟩;·subst Z;exact⟨none,0,by rw[hn];rfl,fun k y e=>(by cases e),by rw[hn];exact Nat.le_refl _⟩
  ·exact⟨_,cap,by rw[hn],fun k y e=>⟨g,rfl,E k y e⟩,by omega⟩
 subst hv;have J:=O c;have af:n<1099511627776:=by omega
 clear h hn c hl hT;go_enter func112,ntmps112;go_wp2_with fail;go_loopw [8] (fun ix wr=>∃i:Nat,ix=.int .i64 (i:Int)∧wr=w∧i≤n∧∀(k:Nat)(z:Int),k<i→l[k]? =some z→T z=false) (fun ix _=>n-(intOf ix).toNat);case atStart=>exact⟨0,rfl,rfl,Nat.zero_le _,fun k z E=>absurd E (by omega)⟩
 case round=>
  obtain⟨i,rfl,rfl,ac,d⟩:=hrel;have HB:=O d;clear d;by_cases ag:i<n
  ·have hd:decide ((i:Int)<(n:Int))=true:=by simp;omega
   have K:i<l.length:=by have:=R.out;omega
   obtain⟨y,V⟩:∃y,l[i]? =some y:=⟨_,List.getElem?_eq_getElem K⟩;obtain⟨g,rfl,ae⟩:=J.out i y V;have HY:=O V;have U:=O (HT.out y);clear V K;cases I:T y with
   |true=> rw[I]at U;have B:=O I;clear I;go_wp2_with fail;refine U.out.mono ?_;rintro e w1⟨rfl,rfl⟩;go_wp2;go_ret;exact⟨_,rfl,rfl,.some i y HY.out B.out HB.out⟩
   |false=>
    rw[I]at U;have B:=O I;have ew:IntKind.i64.wrap ((i:Int)+1)=(i:Int)+1:=by rw[IntWalk.i64_in _ (by omega)]
    clear I;go_wp2_with fail;refine U.out.mono ?_;rintro e w1⟨rfl,rfl⟩;go_wp2;go_roundw;case measure=>simp only[intOf];omega
    case rel=>exact⟨i+1,by rw[←Int.natCast_one,←Int.natCast_add],trivial,by omega,fun k z E hz=>by
     rcases Nat.lt_or_ge k i with h1|h1;·exact HB.out k z h1 hz
     ·have:k=i:=by omega
      subst this;rw[HY.out]at hz;rw[←Option.some.inj hz];exact B.out⟩
  ·have hd:decide ((i:Int)<(n:Int))=false:=by simp;omega
   have aa:Hid (Qe0 T l (-1)):=O (.none fun k y E=>HB.out k y (by have:=R.out;have:=(List.getElem?_eq_some_iff.1 E).1;omega) E);go_wp2;go_ret;exact⟨_,rfl,rfl,aa.out⟩
end
def flT(T:Int→Bool)(l:List Int)(i:Nat):List Int:=(l.take i).filter fun y=>!T y
theorem Qg4(T:Int→Bool){l:List Int}{i:Nat}{y:Int}(c:l[i]? =some y):flT T l (i+1)=flT T l i++if T y then[]else[y]:=by unfold flT;rw[List.take_add_one,c,List.filter_append];cases d:T y<;>simp[d]
structure Vy(w0:World)(g cap:Nat)(l:List Int)(T:Int→Bool)(i j:Nat)(wr:World):Prop where
 chg:Qc (fun k=>k=g) w0 wr
 ex:∃cur,Qh wr g cur 3∧cur.size=cap∧(∀(k:Nat)(y:Int),(flT T l i)[k]? =some y→cur[k]? =some (.int .i64 y))∧(∀(k:Nat)(y:Int),i≤k→l[k]? =some y→cur[k]? =some (.int .i64 y))
 len:(flT T l i).length=j
 lt:j<i
section
variable{w0 wr:World}{g cap i j:Nat}{l:List Int}{T:Int→Bool}
theorem Vy.skip(h:Vy w0 g cap l T i j wr){y:Int}(B:l[i]? =some y)(z:T y=true):Vy w0 g cap l T (i+1) j wr:=by
 obtain⟨c,h1,q,u,d⟩:=h.ex;have e:flT T l (i+1)=flT T l i:=by rw[Qg4 T B,z];simp
 exact⟨h.chg,⟨c,h1,q,by rw[e];exact u,fun k y E=>d k y (by omega)⟩,by rw[e];exact h.len,by have:=h.lt;omega⟩
theorem Vy.put(h:Vy w0 g cap l T i j wr)(hc:l.length≤cap){y:Int}(u:l[i]? =some y)(K:T y=false):Vy w0 g cap l T (i+1) (j+1) (wr.setCell ⟨g,j,none⟩ (.int .i64 y)):=by
 obtain⟨q,h1,E,J,R⟩:=h.ex;have e:flT T l (i+1)=flT T l i++[y]:=by rw[Qg4 T u,K];simp
 have Jl:=h.lt;have U:i<l.length:=(List.getElem?_eq_some_iff.1 u).1;refine⟨h.chg.setCell _ (.inl rfl),⟨q.setIfInBounds j (.int .i64 y),h1.set j _,by simp[E],fun k z c=>?_,fun k z c I=>?_⟩,by rw[e];simp[h.len],by omega⟩
 ·rw[e]at c;rw[Array.getElem?_setIfInBounds];by_cases d:j=k;·subst d;rw[List.getElem?_append_right (by rw[h.len];exact Nat.le_refl _),h.len]at c;simp at c;rw[if_pos rfl,if_pos (by omega),c]
  ·rw[if_neg d];have:k<(flT T l i).length:=by have B:=(List.getElem?_eq_some_iff.1 c).1;simp[h.len]at B;rw[h.len];omega
   rw[List.getElem?_append_left this]at c;exact J k z c
 ·rw[Array.getElem?_setIfInBounds_ne (by omega)];exact R k z (by omega) I
theorem Vy.cell(h:Vy w0 g cap l T i j wr){y:Int}(k:l[i]? =some y):wr.cell? ⟨g,i,none⟩=some (.int .i64 y):=by obtain⟨c,h1,q,u,d⟩:=h.ex;rw[h1.cell];exact d i y (Nat.le_refl _) k
theorem Vy.old(h:Vy w0 g cap l T i j wr)(k:j<cap):(∃u,wr.cell? ⟨g,j,none⟩=some u)∧wr.frozen? ⟨g,j,none⟩=false:=by
 obtain⟨c,h1,q,z,B⟩:=h.ex;have d:j<c.size:=by omega
 exact⟨⟨c[j],by rw[h1.cell,Array.getElem?_eq_getElem d]⟩,h1.frozen j⟩
theorem Qcj{t:TypeId}:∀(vs:List Value)(o:Nat)(w:World)(cs:Array Value),Qh w g cs t→∃cs',Qh (w.setCells g o vs) g cs' t∧cs'.size=cs.size∧(∀k,k<o→cs'[k]? =cs[k]?)∧Qc (fun k=>k=g) w (w.setCells g o vs)
 |[],o,w,cs,h=>⟨cs,h,rfl,fun _ _=>rfl,Qc.refl _ _⟩
 |v::vs,o,w,cs,h=>by
  obtain⟨cs',h1,q,d,c⟩:=Qcj vs (o+1) (w.setCell ⟨g,o,none⟩ v) _ (h.set o v);refine⟨cs',h1,by rw[q];simp,fun k u=>?_,?_⟩;·rw[d k (by omega),Array.getElem?_setIfInBounds_ne (by omega)]
  ·have hc:Qc (fun k=>k=g) w (w.setCell ⟨g,o,none⟩ v):=(Qc.refl _ _).setCell _ (.inl rfl);exact hc.trans' c
theorem Vy.fin(h:Vy w0 g cap l T l.length j wr)(hc:l.length≤cap)(z:cap≤maxLen)(vs:List Value):Zw (wr.setCells g j vs) (.slice (some ⟨g,0,none⟩) j cap) (l.filter fun y=>!T y)∧Qc (fun k=>k=g) w0 (wr.setCells g j vs):=by
 obtain⟨q,h1,I,u,R⟩:=h.ex;obtain⟨cs',k1,k2,E,B⟩:=Qcj vs j wr q h1;have e:flT T l l.length=l.filter fun y=>!T y:=by unfold flT;rw[List.take_length]
 have c:=h.len;have Jl:=h.lt;rw[e]at c u;have hf:∀L:List Int,Zr Qih L=L.map fun x=>Value.int .i64 x:=fun L=>by
  induction L with
  |nil=>rfl
  |cons a L J=>exact congrArg (Value.int .i64 a:: ·) J
 refine⟨⟨by rw[hf];simp,.inr ⟨g,cap,cs',by rw[c],Nat.zero_le _,k1,by rw[c];omega,z,by rw[k2,I];simp,?_⟩⟩,h.chg.trans' B⟩;rw[hf,c];apply List.ext_getElem?;intro k;rw[List.getElem?_take,List.getElem?_map];by_cases K:k<j
 ·rw[if_pos (by omega)];have d:k<(l.filter fun y=>!T y).length:=by omega
  rw[List.getElem?_eq_getElem d];have:=u k _ (List.getElem?_eq_getElem d);rw[←E k K]at this;simpa using this
 ·rw[if_neg (by omega),List.getElem?_eq_none (by omega)];rfl
end
section
attribute [local go_sem] Qq
attribute [local irreducible] Y4 Jm Jw
theorem Vy.start{w:World}{g cap i:Nat}{l:List Int}{T:Int→Bool}{c:Array Value}(J:Qh w g c 3)(hs:c.size=cap)(hc:∀(k:Nat)(y:Int),l[k]? =some y→c[k]? =some (.int .i64 y)){y:Int}(E:l[i]? =some y)(K:T y=true)(I:∀(k:Nat)(z:Int),k<i→l[k]? =some z→T z=false):Vy w g cap l T (i+1) i w:=by
 have e1:flT T l i=l.take i:=by
  unfold flT;refine List.filter_eq_self.2 fun z u=>?_;obtain⟨k,d,rfl⟩:=List.getElem_of_mem u;have q:k<i:=by simp at d;omega
  have B:k<l.length:=by simp at d;omega
  rw[List.getElem_take];rw[I k _ q (List.getElem?_eq_getElem B)];rfl
 have e:flT T l (i+1)=l.take i:=by rw[Qg4 T E,K,e1];simp
 have R:i<l.length:=(List.getElem?_eq_some_iff.1 E).1;refine⟨Qc.refl _ _,⟨c,J,hs,fun k z d=>?_,fun k z _ u=>hc k z u⟩,by rw[e];simp;omega,by omega⟩;rw[e,List.getElem?_take]at d;split at d;·exact hc k z d
 ·cases d
theorem Qw3(w:World):(zeroValue 3).run prog w=.ok (.int .i64 0) w:=by go_simp
theorem Vy.oldA{w0 wr:World}{g cap i j k:Nat}{l:List Int}{T:Int→Bool}(h:Vy w0 g cap l T i j wr)(q:k<cap):∃u,wr.cell? ⟨g,k,none⟩=some u:=by
 obtain⟨c,h1,z,_⟩:=h.ex;have d:k<c.size:=by omega
 exact⟨c[k],by rw[h1.cell,Array.getElem?_eq_getElem d]⟩
theorem Vy.frozenA{w0 wr:World}{g cap i j:Nat}{l:List Int}{T:Int→Bool}(h:Vy w0 g cap l T i j wr)(k:Nat):wr.frozen? ⟨g,k,none⟩=false:=by obtain⟨c,h1,_⟩:=h.ex;exact h1.frozen k
theorem Vy.fin0{w0 wr:World}{g cap j n:Nat}{l:List Int}{T:Int→Bool}(h:Vy w0 g cap l T n j wr)(hn:n=l.length)(hc:n≤cap)(c:cap≤maxLen)(vs:List Value):Zw (wr.setCells g j vs) (.slice (some ⟨g,0,none⟩) j cap) (l.filter fun y=>!T y)∧Qc (fun k=>k=g) w0 (wr.setCells g j vs):=by subst hn;exact h.fin hc c vs
theorem Qla{w:World}{g cap:Nat}{l:List Int}{Z:Array Value}(hB:Qh w g Z 3)(hs:Z.size=cap)(hc:∀(k:Nat)(y:Int),l[k]? =some y→Z[k]? =some (.int .i64 y))(J:l.length≤cap)(hm:cap≤maxLen)(hI:Zw w (.slice (some ⟨g,0,none⟩) l.length cap) l)(hl:l.length<1099511627776)
  (gf:FuncId) (c:Array Value) (eg:∀I w,(callFunc gf I).run prog w=.ok (.enter gf I) w) (T:Int→Bool)
  (hT:∀w',Qc (fun k=>k=g) w w'→∀y,Cl gf (#[.int .i64 y]++c) w' fun e ae=>e=.returned (.bool (T y))∧w'=ae):
  Cl 53 #[.slice (some ⟨g,0,none⟩) l.length cap,.func (.func gf) #[] c] w fun e w'=>∃n,e=.returned (.slice (some ⟨g,0,none⟩) n cap)∧Zw w' (.slice (some ⟨g,0,none⟩) n cap) (l.filter fun y=>!T y)∧Qc (fun k=>k=g) w w':=by
 have HT:=O hT;have K:=O (Qqy hI hl gf c eg T (hT w (Qc.refl _ _)));have d:=O (fun(i:Nat)(y:Int)(hy:l[i]? =some y)(h1:T y=true)(h2:∀(k:Nat)(z:Int),k<i→l[k]? =some z→T z=false)=>Vy.start hB hs hc hy h1 h2);have HI:=O hI;obtain⟨n,hn⟩:=Zx (l.length);have E:=O hn;have HM:=O hm;rw[←hn]at hl J K HI⊢;clear hT hI hB hs hc hn hm;go_enter func53,ntmps53;go_wp2_with fail;refine K.out.mono ?_;rintro e w1⟨ix,rfl,rfl,hf⟩;cases hf with
 |none ab=>
  have B:=O (show l.filter (fun y=>!T y)=l from List.filter_eq_self.2 fun z U=>by
   obtain⟨k,hk,rfl⟩:=List.getElem_of_mem U;rw[ab k _ (List.getElem?_eq_getElem hk)];rfl)
  clear ab;go_wp2;go_ret;exact⟨n,rfl,by rw[B.out];exact HI.out,Qc.refl _ _⟩
 |some i y hy h1 h2=>
  have am:i<n:=by have:=E.out;have:=(List.getElem?_eq_some_iff.1 hy).1;omega
  have ST:=O (d.out i y hy h1 h2);have e1:((i:Int)== -1)=false:=by simp
  have e2:decide ((i:Int)= -1)=false:=by simp
  have ew:IntKind.i64.wrap ((i:Int)+1)=(i:Int)+1:=by rw[IntWalk.i64_in _ (by omega)]
  clear hy h1 h2;go_wp2_with fail;go_loopw [5,6] (fun tj ti wr=>∃j i:Nat,tj=.int .i64 (j:Int)∧ti=.int .i64 (i:Int)∧i≤n∧j<i∧Vy w g cap l T i j wr) (fun _ ti _=>n-(intOf ti).toNat);case atStart=>exact⟨i,i+1,rfl,by rw[←Int.natCast_one,←Int.natCast_add],by omega,by omega,ST.out⟩
  case round=>
   obtain⟨j,k,rfl,rfl,ai,af,hD⟩:=hrel;have q:=O hD;clear hD;by_cases hk:k<n
   ·have hd:decide ((k:Int)<(n:Int))=true:=by simp;omega
    have V:k<l.length:=by have:=E.out;omega
    obtain⟨z,U⟩:∃z,l[k]? =some z:=⟨_,List.getElem?_eq_getElem V⟩;have aj:=q.out.cell U;have HC:=O (HT.out wr q.out.chg z);have ao:IntKind.i64.wrap ((k:Int)+1)=(k:Int)+1:=by rw[IntWalk.i64_in _ (by omega)]
    have al:IntKind.i64.wrap ((j:Int)+1)=(j:Int)+1:=by rw[IntWalk.i64_in _ (by omega)]
    cases hb:T z with
    |true=>
     have R:=O (q.out.skip U hb);rw[hb]at HC;clear U V hb;go_wp2_with fail;refine HC.out.mono ?_;rintro e w1⟨rfl,rfl⟩;go_wp2;go_roundw;case measure=>simp only[intOf];omega
     case rel=>exact⟨j,k+1,rfl,by rw[←Int.natCast_one,←Int.natCast_add],by omega,by omega,R.out⟩
    |false=>
     have R:=O (q.out.put (by have:=E.out;omega) U hb);obtain⟨⟨u,hu⟩,ah⟩:=q.out.old (by omega);have an:decide ((j:Int)<(n:Int))=true:=by simp;omega
     rw[hb]at HC;clear U V hb;go_wp2_with fail;refine HC.out.mono ?_;rintro e w1⟨rfl,rfl⟩;go_wp2;go_roundw;case measure=>simp only[intOf];omega
     case rel=>exact⟨j+1,k+1,by rw[←Int.natCast_one,←Int.natCast_add],by rw[←Int.natCast_one,←Int.natCast_add],by omega,by omega,R.out⟩
   ·have hd:decide ((k:Int)<(n:Int))=false:=by simp;omega
    have ac:k=n:=by omega
    subst ac;have ak:j<k:=af;have aa:=Lib.run_clear_slice (P:=prog) wr 46 3 0 (.int .i64 0) underlying46 Qw3 rfl rfl g j (k-j) (cap-j) (by omega)
     (fun x hx=>by obtain⟨u,hu⟩:=q.out.oldA (show j+x<cap by omega);rw[hu];rfl) (fun x hx=>q.out.frozenA (j+x))
    have B:=O (q.out.fin0 E.out J HM.out (List.replicate (k-j) (.int .i64 0)));generalize wr.setCells g j (List.replicate (k-j) (.int .i64 0))=W at aa B;have ag:decide ((j:Int)≤(cap:Int))=true:=by simp;omega
    clear HT K d HI ST q;go_wp2_with fail;go_ret;exact⟨j,rfl,B.out⟩
theorem Quk(g:Nat)(id y:Int)(w:World)(h:w.cell? ⟨g,0,none⟩=some (.int .i64 id)):
  Cl 174 (#[.int .i64 y]++#[ptr g]) w fun e w'=>e=.returned (.bool (decide (y=id)))∧w=w':=by
 show Cl 174 #[.int .i64 y,ptr g] w _;unfold ptr;go_enter func174,ntmps174;go_wp2;go_ret;exact⟨congrArg (fun b=>Ending.returned (Value.bool b)) (by by_cases e:y=id<;>simp[e]),rfl⟩
section
variable{w w':World}{F:Fp}{m:Nat}{vs:List (Int×Value)}{h:Qm}
theorem Ya.del(u:Ya w F m vs h)(i:Int)(hi:h.under i=[])(I:Xs w' m (Kx i vs))(hc:Qc (fun j=>j=m) w w'):Ya w' F m (Kx i vs) h:=by
 have c:∀p,p∈Kx i vs→p∈vs:=fun p d=>(List.mem_filter.1 d).1;refine⟨I,u.bd.later hc,u.at_,fun p d=>(u.has p (c p d)).keep hc (fun k z e=>(u.own p (c p d) k z).2 e),fun p d=>u.own p (c p d),fun p d q J=>u.dis p (c p d) q (c q J),fun k z=>?_⟩;by_cases e:k=i;·rw[e];exact hi
 ·refine u.miss k fun p d=>?_;by_cases B:p.1=i;·intro E;exact e (E.symm.trans B)
  ·exact z p (List.mem_filter.2 ⟨d,by simpa using B⟩)
theorem Ya.same{h':Qm}(c:Ya w F m vs h)(e:∀i,h'.under i=h.under i):Ya w F m vs h':=
 ⟨c.map,c.bd,c.at_,fun p d=>by rw[e];exact c.has p d,c.own,c.dis,fun i hi=>by rw[e];exact c.miss i hi⟩
end
end
theorem Vj{k:Int}{v:Value}{q:Int×Value}:∀{l:List (Int×Value)},(l.map (·.1)).Nodup→q∈Ht k v l→q=(k,v)∨(q∈l∧q.1≠k)
 |[],_,c=>.inl (by simpa[Ht]using c)
 |p::l,hn,c=>by
  simp only[List.map_cons,List.nodup_cons]at hn;rw[Ht]at c;by_cases d:k=p.1
  ·rw[if_pos d]at c;rcases List.mem_cons.1 c with rfl|c;·exact .inl rfl
   ·refine .inr ⟨by simp[c],fun e=>hn.1 ?_⟩;rw[←d,←e];exact List.mem_map.2 ⟨q,c,rfl⟩
  ·rw[if_neg d]at c;rcases List.mem_cons.1 c with rfl|c;·exact .inr ⟨by simp,fun e=>d e.symm⟩
   ·rcases Vj hn.2 c with h|h;·exact .inl h
    ·exact .inr ⟨by simp[h.1],h.2⟩
theorem Qg5(k:Int)(v:Value):∀(l:List (Int×Value)),(k,v)∈Ht k v l
 |[]=>by simp[Ht]
 |p::l=>by
  rw[Ht];split;·simp
  ·simp[Qg5 k v l]
theorem Qg6{k:Int}{v:Value}{q:Int×Value}:∀{l:List (Int×Value)},q∈l→q.1≠k→q∈Ht k v l
 |p::l,c,hk=>by
  rw[Ht];rcases List.mem_cons.1 c with rfl|c;·rw[if_neg (fun e=>hk e.symm)];simp
  ·split;·simp[c]
   ·simp[Qg6 c hk]
section
variable{w w':World}{F S:Fp}{m:Nat}{vs:List (Int×Value)}{h h':Qm}
theorem Ya.put(d:Ya w F m vs h){i:Int}{v':Value}(hu:∀k,k≠i→h'.under k=h.under k)(hI:Zw w' v' (h'.under i))(z:∀k,v'.ownBlock=some k→(∃v,(i,v)∈vs∧v.ownBlock=some k)∨(w.heap.size≤k∧k<w'.heap.size))
  (hm:Xs w' m (Ht i v' vs)) (hc:Qc S w w') (hS:∀k,S k→k=m∨∃v,(i,v)∈vs∧v.ownBlock=some k):Ya w' (Qn F w w') m (Ht i v' vs) h'∧Qc F w w':=by
 have hn:=d.map.nodup;have aa:=d.bd m d.at_;have E:∀p∈vs,p.1≠i→∀k,p.2.ownBlock=some k→F k∧k≠m∧k<w.heap.size∧∀v,(i,v)∈vs→v.ownBlock≠some k:=fun p c u k B=>
  ⟨(d.own p c k B).1,(d.own p c k B).2,d.bd k (d.own p c k B).1,fun v z e=>u (d.dis p c (i,v) z k B e)⟩
 refine⟨⟨hm,d.bd.ext hc,.inl d.at_,fun p c=>?_,fun p c k B=>?_,fun p c q R k J I=>?_,fun k B=>?_⟩,hc.sub fun k B=>?_⟩
 ·rcases Vj hn c with rfl|⟨c,u⟩;·exact hI
  ·rw[hu _ u];refine(d.has p c).keep hc fun k B hs=>?_;obtain⟨_,K,_,U⟩:=E p c u k B;rcases hS k hs with e|⟨v,z,e⟩;·exact K e
   ·exact U v z e
 ·rcases Vj hn c with rfl|⟨c,u⟩
  ·rcases z k B with⟨v,z,e⟩|⟨h1,K⟩;·exact⟨.inl (d.own _ z k e).1,(d.own _ z k e).2⟩
   ·exact⟨.inr ⟨h1,K⟩,by omega⟩
  ·obtain⟨h1,K,_⟩:=E p c u k B;exact⟨.inl h1,K⟩
 ·rcases Vj hn c with rfl|⟨c,u⟩
  ·rcases Vj hn R with rfl|⟨R,Z⟩;·rfl
   ·obtain⟨_,_,h3,U⟩:=E q R Z k I;rcases z k J with⟨v,z,e⟩|⟨h1,K⟩;·exact(U v z e).elim
    ·omega
  ·obtain⟨_,_,h3,U⟩:=E p c u k J;rcases Vj hn R with rfl|⟨R,Z⟩
   ·rcases z k I with⟨v,z,e⟩|⟨h1,K⟩;·exact(U v z e).elim
    ·omega
   ·exact d.dis p c q R k J I
 ·have V:k≠i:=fun e=>B _ (Qg5 i v' vs) e.symm;rw[hu k V];refine d.miss k fun p c e=>?_;exact B p (Qg6 c (by rw[e];exact V)) e
 ·rcases hS k B with rfl|⟨v,z,e⟩;·exact d.at_
  ·exact(d.own _ z k e).1
end
theorem Qm.at_mem{h:Qm}{i:Int}{c:Kk}(hc:h.at i=some c):c∈h∧c.sp.id=i:=by unfold Qm.at at hc;exact⟨List.mem_of_find?_eq_some hc,by simpa using List.find?_some hc⟩
theorem Qm.drop_eq{h:Qm}{i:Int}{c:Kk}(hc:h.at i=some c)(d:h.under i=[]):h.drop i=h.filter fun x=>!decide (x.sp.id=i):=by
 have e:h.dropE i=0:=by unfold Qm.dropE;rw[hc];simp[d]
 unfold Qm.drop;rw[if_pos e]
theorem Qqz(l:List Kk)(i:Int):Kx i (V7 l)=V7 (l.filter fun x=>!decide (x.sp.id=i)):=by unfold Kx V7;rw[List.filter_map];congr 1
theorem Qej{h:Qm}{i k:Int}{c:Kk}(hn:(h.map Kk.id).Nodup)(hc:h.at i=some c)(V:k≠c.sp.par):Qm.under (h.filter fun x=>!decide (x.sp.id=i)) k=h.under k:=by
 rw[Lf];refine List.filter_eq_self.2 fun y K=>?_;obtain⟨x,R,rfl,d⟩:=Qac K;obtain⟨E,z⟩:=Qm.at_mem hc;by_cases e:x.sp.id=i
 ·have I:x=c:=by
   have:∀(l:List Kk),(l.map Kk.id).Nodup→x∈l→c∈l→x=c:=by
    intro l;induction l with
    |nil=>intro _ h;cases h
    |cons a l U=>
     intro B Z J;simp only[List.map_cons,List.nodup_cons]at B;rcases List.mem_cons.1 Z with u|u
     ·rcases List.mem_cons.1 J with q|q;·rw[u,q]
      ·exact absurd (List.mem_map.2 ⟨c,q,show c.sp.id=a.sp.id by rw[←u,z,e]⟩) B.1
     ·rcases List.mem_cons.1 J with q|q;·exact absurd (List.mem_map.2 ⟨x,u,show x.sp.id=a.sp.id by rw[←q,z,e]⟩) B.1
      ·exact U B.2 u q
   exact this h hn R E
  rw[I]at d;exact absurd d.symm V
 ·simp[e]
section
variable{w w':World}{F:Fp}{b:Nat}{h:Qm}
theorem Zt.opn(hh:Zt w F b h):∃ma mu l vs G,l.Perm h∧(l.map Kk.id).Nodup∧Qh w b #[.map (some ma),.map (some mu)] 92∧Xs w ma (V7 l)∧Ya w G mu vs h∧F b∧F ma∧(∀k,G k→F k)∧¬G b∧¬G ma∧b≠ma∧Bd F w∧
  ∀w' l' q h',l'.Perm h'→Xs w' ma (V7 l')→Ya w' (Qn G w w') mu q h'→Qc (fun k=>k=ma∨G k) w w'→Zt w' (Qn F w w') b h'∧Qc F w w':=by
 obtain⟨ma,mu,l,vs,hp,R,G0,R0,J,⟨ae,G1,R1,E,⟨ag,z,R2,g2,_,_,V,_⟩,d1,s2,s3⟩,d0,s0,s1⟩:=hh;have nb:b≠ma:=fun e=>d0 b J.2.1 (e▸s2 _ E.2.1);have Z:∀k,z k→F k:=fun k c=>s1 _ (s3 _ (V _ c));have nG:¬z b:=fun c=>d0 b J.2.1 (s3 _ (V _ c));have nA:¬z ma:=fun c=>d1 ma E.2.1 (V _ c);have fb:=s0 _ J.2.1;have U:=s1 _ (s2 _ E.2.1);refine⟨ma,mu,l,vs,z,hp,by have:=E.1.nodup;rwa[Qbg]at this,J.1,E.1,g2,fb,U,Z,nG,nA,nb,R,fun w' l' q h' ab u d I=>?_⟩;have B:Qc F w w':=I.sub fun k c=>c.elim (fun e=>e▸U) (Z k);have ac:=R _ fb;have af:=R _ U;have aa:Bd (Qn F w w') w':=R.ext B;have K:Qh w' b #[.map (some ma),.map (some mu)] 92:=I.blk J.1 (fun c=>c.elim nb nG);refine⟨⟨ma,mu,l',q,ab,?_⟩,B⟩;refine Zl (G:=fun k=>k=b) (H:=fun k=>k=ma∨Qn z w w' k) ⟨K,rfl,fun k e=>e▸K.lt⟩ ?_ ?_ (fun k e=>.inl (e▸fb)) ?_ aa
 ·refine Zl (G:=fun k=>k=ma) (H:=Qn z w w') ⟨u,rfl,fun k e=>e▸u.lt⟩ (Yv d d.bd) ?_ (fun k e=>.inl e) (fun k c=>.inr c) ?_
  ·rintro k rfl c;rcases c with c|c;·exact nA c
   ·omega
  ·rintro k(e|c);·exact e▸u.lt
   ·exact d.bd k c
 ·rintro k rfl(e|c|c);·exact nb e
  ·exact nG c
  ·omega
 ·rintro k(e|c);·exact .inl (e▸U)
  ·exact Qn.mono Z k c
end
section
variable{w:World}{v:Value}{l:List Int}
theorem Qg7(l:List Int):Zr Qih l=l.map fun x=>Value.int .i64 x:=by
 induction l with
 |nil=>rfl
 |cons x l c=> rw[Ko,c];rfl
theorem Zw.opn(h:Zw w v l)(hl:l≠[]):∃g cap c,v=.slice (some ⟨g,0,none⟩) l.length cap∧Qh w g c 3∧c.size=cap∧(∀(k:Nat)(y:Int),l[k]? =some y→c[k]? =some (.int .i64 y))∧l.length≤cap∧cap≤maxLen:=by
 obtain⟨h0,h1|⟨g,cap,c,rfl,I,z,hn,q,B,d⟩⟩:=h;·exact absurd (List.eq_nil_of_length_eq_zero h1.2) hl
 ·refine⟨g,cap,c,rfl,z,by omega,fun k y u=>?_,hn,q⟩;have E:k<l.length:=(List.getElem?_eq_some_iff.1 u).1;have e:(c.toList.take (l.length*1))[k]? =(l.map fun x=>Value.int .i64 x)[k]? :=by rw[d,Qg7]
  rw[List.getElem?_take_of_lt (by omega),List.getElem?_map,u]at e;simpa using e
end
end Go.Proofs.YtnnhmpehkbihnaaGreat
