/- A part of the proof: no condition. -/
import Derived.Test.YtnnhmpehkbihnaaGreatPk48
namespace Go.Proofs.YtnnhmpehkbihnaaGreat
set_option linter.unusedVariables false
set_option maxRecDepth 100000
set_option maxHeartbeats 4000000
open Go.RowKit
open Go.Proofs.Tryz
section
variable{s:Qf}{N t:Nat}
theorem Qxb:∀(l:List Int),(∀x∈l,0≤x)→0≤l.sum
 |[],_=>by simp
 |x::l,h=>by rw[List.sum_cons];have:=h x List.mem_cons_self;have:=Qxb l fun y c=>h y (Zr _ c);omega
theorem Qxh(i:Int):0≤s.many i:=by unfold Qf.many;refine Qxb _ fun x c=>?_;obtain⟨y,_,rfl⟩:=Z3.1 c;omega
def Qf.cnt(s:Qf)(l:List Int):Nat:=(l.filter fun i=>!decide (s.many i=0)).length
theorem Qw6{l:List Int}{k:Nat}{x:Int}(d:l[k]? =some x):s.cnt (l.take (k+1))=s.cnt (l.take k)+(if 0<s.many x then 1 else 0):=by
 unfold Qf.cnt;rw[Qv8 d,List.length_append];have:=Qxh (s:=s) x;by_cases h:s.many x=0
 ·have c:¬0<s.many x:=by omega
  simp[h]
 ·have c:0<s.many x:=by omega
  simp[h,c]
structure Qxi(s:Qf)(t:Nat)(q:List Gl)(hd:List Int):Prop where
 wait:∀(i:Nat)x,q[i]? =some x→¬s.many x.c=0
 up:∀(i:Nat)x y,q[i]? =some x→q[i+1]? =some y→x.c<y.c
 rule:∀(i j:Nat)x y,q[i]? =some x→q[j]? =some y→x.r=y.r
 free:∀(i m:Nat)x z,q[i]? =some x→hd[m]? =some z→¬z=x.c
 le:hd.length≤s.cnt (s.tree.aI 0)
 all:hd.length=s.cnt (s.tree.aI 0)↔q.length=0
 ql:q.length≤64
 hl:hd.length≤64
theorem V6{l:List Int}{r i:Nat}{x:Gl}(h:(Dx l r)[i]? =some x):∃y,l[i]? =some y∧x=⟨y,r⟩:=by
 unfold Dx at h;rw[List.getElem?_map]at h;cases c:l[i]? with
 |none=>rw[c]at h;cases h
 |some y=>rw[c]at h;exact⟨y,rfl,(Zs h).symm⟩
theorem Qww(ok:Xp N s)(ht:t<Qq)(K:(Dx (s.opts t).1 (s.opts t).2).length≤64):Qxi s t (Dx (s.opts t).1 (s.opts t).2) (s.held t):=by
 have I:s.cnt (s.tree.aI 0)=s.waits.length:=rfl;refine⟨fun i x k=>?_,fun i x y k u=>?_,fun i j x y k u=>?_,fun i m x z k R e=>?_,?_,?_,K,?_⟩;·obtain⟨c,hc,rfl⟩:=V6 k;have:=(List.mem_filter.1 (Qwk ok ht (List.mem_of_getElem? hc)).1).2;simpa using this
 ·obtain⟨c,hc,rfl⟩:=V6 k;obtain⟨d,B,rfl⟩:=V6 u;obtain⟨h1,e1⟩:=Z1.1 hc;obtain⟨q,J⟩:=Z1.1 B;have:=List.pairwise_iff_getElem.1 (Qw1 ok ht) i (i+1) h1 q (by omega);rw[e1,J]at this;exact this
 ·obtain⟨c,hc,rfl⟩:=V6 k;obtain⟨d,B,rfl⟩:=V6 u;rfl
 ·obtain⟨c,hc,rfl⟩:=V6 k;have h1:=(Qwk ok ht (List.mem_of_getElem? hc)).2;have q:=(List.mem_filter.1 (List.mem_of_getElem? R)).2;rw[e]at q;rw[show s.heldB t c=true from q]at h1;cases h1
 ·rw[I];exact Qxf s t
 ·rw[I,Qwq ok ht,Qld];have hs:=Qwl ok ok.sr.pick ht;cases E:(s.opts t).1 with
  |nil=>
   refine⟨fun _=>rfl,fun _=>?_⟩;cases k:s.who t with
   |none=>rfl
   |some x=>exact absurd E (hs.2 ⟨x,k⟩)
  |cons a l=>
   obtain⟨x,k⟩:=hs.1 (by rw[E];exact List.cons_ne_nil _ _);refine⟨fun h=>?_,fun h=>?_⟩;·rw[k]at h;cases h
   ·cases h
 ·exact Zp (List.length_filter_le _ _) (Qqq ok)
end
section
attribute [local go_sem] Qp
attribute [local irreducible] Kl J9 Xo
theorem Qwr(most:Int)(tk:Nat)(l:List Yy)(a:Option Addr)(cap:Nat)(W)(hl:l.length≤maxLen)(hr:Kb Yy.cells 20 W a l)(hw:∀x∈l,x.wf):
  Cl 7 #[.int .i64 most,.slice a l.length cap,.int .u64 tk] W fun e w'=>e=.returned (.bool true)∧Qc Qb W w':=by
 have AW:=O (P4 W);have LG:=O (fun w=>F3 l.length a cap w);by_cases ap:150<l.length;·rw[decide_eq_true ap]at LG;clear hr hw hl;go_enter func7,ntmps7;go_wp2_with fail;refine Zy AW ?_;intro w1 c1;have C1:=O c1;clear c1;go_wp2_with fail;refine Zz (LG.o w1) ?_;rintro w2 rfl;go_wp2;go_ret;exact⟨rfl,C1.o⟩
 ·have PL:=O (fun w1(c:Qc Qb W w1)=>P5 most l a cap w1 (by omega) (hr.below c.below) hw);rw[decide_eq_false ap]at LG;clear hr hw hl;go_enter func7,ntmps7;go_wp2_with fail;refine Zy AW ?_;intro w1 c1;have C1:=O c1;clear c1;go_wp2_with fail;refine Zz (LG.o w1) ?_;rintro ce rfl;go_wp2_with fail;refine(PL.o w1 C1.o).mono ?_;rintro e w2(⟨rfl,c2⟩|⟨sb,s,now,rfl,hS,ok,b4,c2⟩);·have C2:=O (C1.o.aA c2);clear c2;go_wp2;go_ret;exact⟨rfl,C2.o⟩
  ·have C2:=O (C1.o.aA c2);obtain⟨A,ak⟩:=hS;generalize Qn Qb w1 w2=F2 at ak;have HK:=O (fun w'(c:Qc Qb w2 w')=>(Qi.obj A).aB ak c (Jl.none _));have au:=O (Qbo ak ok);have HO:=O (fun w'(c:Qc Qb w2 w')(T:Nat)=>P3 (HK.o w' c) ok (by omega) T _ rfl);have HH:=O (fun w'(c:Qc Qb w2 w')(T:Nat)=>Qwa (HK.o w' c) ok (by omega) T _ rfl);have bd:=O (fun w'(c:Qc Qb w2 w')(i:Int)=>Dn (HK.o w' c) ok i);have bh:=O (fun w'(c:Qc Qb w2 w')=>Uu (HK.o w' c) ok);have bi:=O (fun w(G:Fp)(hb:Nat)(hh:Q9 w G hb s.tree)=>Ot ok.tree 9 hh 0 (by omega));have aj:=O (show(s.tree.aI 0).length≤64 from Zp (Db _ _) ok.tree.many);have bj:=O (fun(T:Nat)=>Qww (t:=min T 9223372036854775807) ok (M3 T) (by rw[Qld];exact Qwt ok (M3 T)));clear c2 ok ak;generalize s.tick=ag at au;unfold ptr at*;go_wp2_with fail;refine Zy au ?_;intro w3 c3;obtain⟨W4,al⟩:=Zx (w3.alloc (.cells #[.int .u64 now,.int .u64 tk,.int .u64 ag] 29));have C4:=O (show Qc Qb w2 W4 from by rw[al];exact c3.alloc _);have B4:=O (show Qh W4 w3.heap.size #[.int .u64 now,.int .u64 tk,.int .u64 ag] 29 from by rw[al];exact Qh.new _ _ _);clear c3 au;go_wp2_with fail;rw[←al];clear al;go_loopw [10] (fun a6 wr=>∃k:Nat,a6=.int .i64 k∧k≤3∧Qc Qb W4 wr) (fun a6 _=>3-(intOf a6).toNat);case atStart=>exact⟨0,rfl,by omega,Zg _ _⟩
   case round=>
    obtain⟨k,rfl,hk,hc⟩:=hrel;obtain⟨V,hV⟩:=Zx wr;rw[←hV]at hc⊢;clear hV;have HC:=O hc;clear hc;by_cases Xg:k<3
    ·have hd:decide ((k:Int)<3)=true:=by simp;omega
     obtain⟨T,hT⟩:∃T:Nat,∀w',Qc Qb W4 w'→w'.cell? ⟨w3.heap.size,k,none⟩=some (.int .u64 T):=by
      rcases(show k=0∨k=1∨k=2 by omega)with rfl|rfl|rfl;·exact⟨now,fun w' c=>(c.blk B4.o (fun h=>h)).at 0 rfl⟩
      ·exact⟨tk,fun w' c=>(c.blk B4.o (fun h=>h)).at 1 rfl⟩
      ·exact⟨ag,fun w' c=>(c.blk B4.o (fun h=>h)).at 2 rfl⟩
     have ao:=O (fun w'(c:Qc Qb V w')=>hT w' (HC.o.aA c));have ar:=O (fun w'(c:Qc Qb V w')=>HO.o w' (C4.o.aA (HC.o.aA c)) T);have aq:=O (fun w'(c:Qc Qb V w')=>HH.o w' (C4.o.aA (HC.o.aA c)) T);have P:=O (bj.o T);generalize Dx (s.opts (min T 9223372036854775807)).1 (s.opts (min T 9223372036854775807)).2=q at ar P;generalize s.held (min T 9223372036854775807)=hd at aq P;have i0:(0:Int)≤(k:Int):=by omega
     have i1:(k:Int)<3:=by omega
     have b9:IntKind.i64.wrap ((k:Int)+1)=(k:Int)+1:=by rw[IntWalk.i64_in _ (by omega)]
     have ai:=O Xg;clear Xg hk hT;go_wp2_with fail;go_region_held3 (fun w':World=>w'.cell? ⟨w3.heap.size,k,none⟩=some (.int .u64 T)) (exact ao.o _ (by(repeat' (first|(with_reducible first|exact Zg _ _|assumption|refine Zh ?_ _|refine Zi ?_ _|refine Zj ?_|refine Zk ?_ _ ?_|(apply Or.inl;rfl))|(apply Or.inl;simp;done)|(apply Or.inr;simp;first|done|omega))))) (first|(go_at_call 22;with_reducible refine(ar.o _ (by(repeat' (first|(with_reducible first|exact Zg _ _|assumption|refine Zh ?_ _|refine Zi ?_ _|refine Zj ?_|refine Zk ?_ _ ?_|(apply Or.inl;rfl))|(apply Or.inl;simp;done)|(apply Or.inr;simp;first|done|omega))))).mono ?_;rintro e w5⟨v1,rfl,hQ,bu,d5⟩;have c5:Qc Qb V w5:=Qc.aA (by(repeat' (first|(with_reducible first|exact Zg _ _|assumption|refine Zh ?_ _|refine Zi ?_ _|refine Zj ?_|refine Zk ?_ _ ?_|(apply Or.inl;rfl))|(apply Or.inl;simp;done)|(apply Or.inr;simp;first|done|omega)))) d5)|(go_at_call 25;with_reducible refine(aq.o _ (by(repeat' (first|(with_reducible first|exact Zg _ _|assumption|refine Zh ?_ _|refine Zi ?_ _|refine Zj ?_|refine Zk ?_ _ ?_|(apply Or.inl;rfl))|(apply Or.inl;simp;done)|(apply Or.inr;simp;first|done|omega))))).mono ?_;rintro e w6⟨v2,rfl,hI,bv,d6⟩;have c6:Qc Qb V w6:=Qc.aA (by(repeat' (first|(with_reducible first|exact Zg _ _|assumption|refine Zh ?_ _|refine Zi ?_ _|refine Zj ?_|refine Zk ?_ _ ?_|(apply Or.inl;rfl))|(apply Or.inl;simp;done)|(apply Or.inr;simp;first|done|omega)))) d6));have D6:=O c6;have HQ:=hQ.aB d6 (fun _ _ h=>h);obtain⟨a1,b1,rfl,_,_,ac⟩:=HQ.row optT.hc;have QR:=O (fun w'(c:Qc Qb w6 w')(i:Nat)(x:Gl)(hx:q[i]? =some x)=>(show∃g o,a1=some ⟨g,o,none⟩∧w'.cell? ⟨g,o+i*2,none⟩=some (.int .i64 x.c)∧w'.cell? ⟨g,o+i*2+1,none⟩=some (.int .u8 x.r)from by
      obtain⟨h,e⟩:=Z1.1 hx;obtain⟨g,o,e1,hj⟩:=ac i h;rw[e]at hj;exact⟨g,o,e1,c.same (hj 0 _ rfl),c.same (hj 1 _ rfl)⟩))
     obtain⟨a2,b2,rfl,_,ae⟩:=hI.row1 (S:=Qb) (fun _ _ h=>h);have HR:=O ae;clear hQ HQ ac hI ae bu bv c5 c6 d5 d6 ar aq ao;obtain⟨nq,a5⟩:=Zx (q.length);obtain⟨d,a4⟩:=Zx (hd.length);rw[←a5,←a4];have NQ:=O a5;have NH:=O a4;have cb:(0:Int)≤(nq:Int):=by omega
     clear a5 a4;go_wp2_with fail;go_loopw [13] (fun a7 wr=>∃i:Nat,a7=.int .i64 i∧i≤nq∧Qc Qb w6 wr) (fun a7 _=>nq-(intOf a7).toNat);case atStart=>exact⟨0,rfl,by omega,Zg _ _⟩
     case round=>
      obtain⟨i,rfl,hi,hc⟩:=hrel;obtain⟨V2,bf⟩:=Zx wr;rw[←bf]at hc⊢;clear bf;have U:=O hc;clear hc;by_cases ab:i<nq
      ·have bl:decide ((i:Int)<(nq:Int))=true:=by simp;omega
       have bm:decide (i<nq)=true:=by simpa using ab
       obtain⟨x,hx⟩:∃x,q[i]? =some x:=⟨_,List.getElem?_eq_getElem (by have:=NQ.o;omega)⟩;obtain⟨x0,an⟩:∃x0,q[0]? =some x0:=⟨_,List.getElem?_eq_getElem (by have:=NQ.o;omega)⟩;obtain⟨g,o,rfl,q0,q1⟩:=QR.o V2 U.o i x hx;have C7:=O (C4.o.aA (HC.o.aA (D6.o.aA U.o)));have bc:=O (bd.o V2 C7.o x.c);have i2:(0:Int)≤(i:Int):=by omega
       have cc:(0:Int)<(nq:Int):=by omega
       have cd:0<nq:=by omega
       have i3:(i:Int)<(nq:Int):=by omega
       have b7:IntKind.i64.wrap ((i:Int)+1)=(i:Int)+1:=by rw[IntWalk.i64_in _ (by have:=P.o.ql;have:=NQ.o;omega)]
       go_wp2_with fail;refine Zy bc ?_;intro w8 c8;have C8:=O (U.o.aA c8);have HX:=O hx;have R:=O ab;have QX:=O (fun w'(c:Qc Qb w8 w')=>(show w'.cell? ⟨g,o+i*2,none⟩=some (.int .i64 x.c)from by
        obtain⟨g',o',e',p0,_⟩:=QR.o w' (C8.o.aA c) i x HX.o;injection e' with e';injection e' with e4 e5;subst e4 e5;exact p0))
       have aw:=O (fun(j:Nat)(y:Gl)(hy:q[j]? =some y)=>(show w8.cell? ⟨g,o+j*2,none⟩=some (.int .i64 y.c)∧w8.cell? ⟨g,o+j*2+1,none⟩=some (.int .u8 y.r)from by
        obtain⟨g',o',e',p0,p1⟩:=QR.o w8 C8.o j y hy;injection e' with e';injection e' with e4 e5;subst e4 e5;exact⟨p0,p1⟩))
       obtain⟨s0,s1⟩:=aw.o i x hx;obtain⟨r0,r1⟩:=aw.o 0 x0 an;simp only[Nat.zero_mul,Nat.add_zero]at r0 r1;have er:=P.o.rule i 0 x x0 hx an;rw[←er]at r1;have mn:=P.o.wait i x hx;have bw:decide (s.many x.c=0)=false:=by simpa using mn
       have bz:(s.many x.c==0)=false:=by simpa using mn
       generalize s.many x.c=my at bw bz⊢;generalize s.bytes x.c=b5 at*;clear c8 q0 q1 bc er mn ab;by_cases K:i=0
       ·have z1:decide ((i:Int)>0)=false:=by simp;omega
        have z2:decide (0<i)=false:=by simp;omega
        clear hx an K;go_wp2_with fail;refine Qj [(0,0),(0,1),(0,2),(0,3),(0,4),(0,5),(0,6),(0,7),(0,8),(0,9),(0,10),(0,11),(0,12),(0,13),(0,14),(0,15),(0,16),(0,17),(0,18),(0,19),(0,20),(0,21),(0,22),(0,23),(0,24),(0,25),(0,26),(0,27),(0,28),(0,29),(0,30),(0,31)] Zq (by kernel_rfl) (fun _ _ _ _ _ h=>h) ?_;simp only[Jk,Zf,Ze,Zd];iterate 6 (refine Jq (by kernel_rfl) (by go_simp;try rfl) ?_)
        try simp only[Act.put,Za,Zc,Zb]
        iterate 12 (first|(refine Qs8 (by kernel_rfl) ?_)|(refine Qmz (by kernel_rfl) ?_)|(refine Qs7 (by kernel_rfl) ?_);try simp only[Act.put,Za,Zc,Zb])
        try simp only[Act.put,Za,Zc,Zb]
        iterate 3 (refine Jq (by kernel_rfl) (by go_simp;try rfl) ?_)
        try simp only[Act.put,Za,Zc,Zb]
        iterate 6 (refine Jq (by kernel_rfl) (by go_simp;try rfl) ?_)
        try simp only[Act.put,Za,Zc,Zb]
        iterate 5 (refine Jq (by kernel_rfl) (by go_simp;try rfl) ?_)
        try simp only[Act.put,Za,Zc,Zb]
        refine Jo ?_;go_wp2_with fail;go_loopw [16] (fun J wr=>∃m:Nat,J=.int .i64 m∧m≤d∧Qc Qb w8 wr) (fun J _=>d-(intOf J).toNat);case atStart=>exact⟨0,rfl,by omega,(Zg Qb w8).drew⟩
        case round=>
         obtain⟨m,rfl,hm,hc⟩:=hrel;obtain⟨V4,Z⟩:=Zx wr;rw[←Z]at hc⊢;clear Z;have B:=O hc;clear hc;have C9:=O (C8.o.aA B.o);by_cases aa:m<d
         ·have ay:decide ((m:Int)<(d:Int))=true:=by simp;omega
          have az:decide (m<d)=true:=by simpa using aa
          obtain⟨z,K⟩:∃z,hd[m]? =some z:=⟨_,List.getElem?_eq_getElem (by have:=NH.o;omega)⟩;obtain⟨g2,rfl,ax⟩:=HR.o V4 C9.o m z K;have q2:=QX.o V4 B.o;have I:=P.o.free i m x z HX.o K;have br:decide (z=x.c)=false:=by simpa using I
          have bs:(z==x.c)=false:=by simpa using I
          have m0:(0:Int)≤(m:Int):=by omega
          have m1:(m:Int)<(d:Int):=by omega
          have bk:IntKind.i64.wrap ((m:Int)+1)=(m:Int)+1:=by rw[IntWalk.i64_in _ (by have:=P.o.hl;have:=NH.o;omega)]
          clear K I;go_wp2_with fail;refine Qj [(0,0),(0,1),(0,2),(0,3),(0,4),(0,5),(0,6),(0,7),(0,8),(0,9)] Zq (by kernel_rfl) (fun _ _ _ _ _ h=>h) ?_;simp only[Jk,Zf,Ze,Zd];iterate 5 (refine Jq (by kernel_rfl) (by go_simp;try rfl) ?_)
          try simp only[Act.put,Za,Zc,Zb]
          iterate 5 (refine Jq (by kernel_rfl) (by go_simp;try rfl) ?_)
          try simp only[Act.put,Za,Zc,Zb]
          refine Jo ?_;go_wp2_with fail;go_roundw;case measure=>simp only[intOf];omega
          case rel=>exact⟨m+1,by rw[←Int.natCast_one,←Int.natCast_add],by omega,B.o.drew⟩
         ·have ay:decide ((m:Int)<(d:Int))=false:=by simp;omega
          have az:decide (m<d)=false:=by simpa using aa
          go_wp2;go_roundw;case measure=>simp only[intOf];have:=R.o;omega
          case rel=>exact⟨i+1,by rw[←Int.natCast_one,←Int.natCast_add],by have:=R.o;omega,C9.o⟩
       ·obtain⟨y,hy⟩:∃y,q[i-1]? =some y:=⟨_,List.getElem?_eq_getElem (by have:=NQ.o;have:=R.o;omega)⟩;obtain⟨u0,_⟩:=aw.o (i-1) y hy;have bt:=P.o.up (i-1) y x hy (by rw[show i-1+1=i by omega];exact hx);have z1:decide ((i:Int)>0)=true:=by simp;omega
        have z2:decide (0<i)=true:=by simp;omega
        have z3:decide (x.c≤y.c)=false:=by simp;omega
        have z4:decide (y.c≥x.c)=false:=by simp;omega
        have ca:IntKind.i64.wrap ((i:Int)-1)=(i:Int)-1:=by rw[IntWalk.i64_in _ (by have:=P.o.ql;have:=NQ.o;have:=R.o;omega)]
        have tn:((i:Int)-1).toNat=i-1:=by omega
        have i7:(0:Int)≤(i:Int)-1:=by omega
        have i8:(i:Int)-1<(nq:Int):=by omega
        have f1:(1:Int)≤(i:Int):=by omega
        have f2:1≤i:=by omega
        have f3:(i:Int)≤(nq:Int):=by omega
        have f4:i≤nq:=by omega
        have f5:0<i:=by omega
        have f6:(0:Int)<(i:Int):=by omega
        clear hx an K hy bt;go_wp2_with fail;refine Qj [(0,0),(0,1),(0,2),(0,3),(0,4),(0,5),(0,6),(0,7),(0,8),(0,9),(0,10),(0,11),(0,12),(0,13),(0,14),(0,15),(0,16),(0,17),(0,18),(0,19),(0,20),(0,21),(0,22),(0,23),(0,24),(0,25),(0,26),(0,27),(0,28),(0,29),(0,30),(0,31)] Zq (by kernel_rfl) (fun _ _ _ _ _ h=>h) ?_;simp only[Jk,Zf,Ze,Zd];iterate 6 (refine Jq (by kernel_rfl) (by go_simp;try rfl) ?_)
        try simp only[Act.put,Za,Zc,Zb]
        iterate 6 (refine Jq (by kernel_rfl) (by go_simp;try rfl) ?_)
        try simp only[Act.put,Za,Zc,Zb]
        iterate 6 (refine Jq (by kernel_rfl) (by go_simp;try rfl) ?_)
        try simp only[Act.put,Za,Zc,Zb]
        iterate 3 (refine Jq (by kernel_rfl) (by go_simp;try rfl) ?_)
        try simp only[Act.put,Za,Zc,Zb]
        iterate 6 (refine Jq (by kernel_rfl) (by go_simp;try rfl) ?_)
        try simp only[Act.put,Za,Zc,Zb]
        iterate 5 (refine Jq (by kernel_rfl) (by go_simp;try rfl) ?_)
        try simp only[Act.put,Za,Zc,Zb]
        refine Jo ?_;go_wp2_with fail;go_loopw [16] (fun J wr=>∃m:Nat,J=.int .i64 m∧m≤d∧Qc Qb w8 wr) (fun J _=>d-(intOf J).toNat);case atStart=>exact⟨0,rfl,by omega,(Zg Qb w8).drew⟩
        case round=>
         obtain⟨m,rfl,hm,hc⟩:=hrel;obtain⟨V4,Z⟩:=Zx wr;rw[←Z]at hc⊢;clear Z;have B:=O hc;clear hc;have C9:=O (C8.o.aA B.o);by_cases aa:m<d
         ·have ay:decide ((m:Int)<(d:Int))=true:=by simp;omega
          have az:decide (m<d)=true:=by simpa using aa
          obtain⟨z,K⟩:∃z,hd[m]? =some z:=⟨_,List.getElem?_eq_getElem (by have:=NH.o;omega)⟩;obtain⟨g2,rfl,ax⟩:=HR.o V4 C9.o m z K;have q2:=QX.o V4 B.o;have I:=P.o.free i m x z HX.o K;have br:decide (z=x.c)=false:=by simpa using I
          have bs:(z==x.c)=false:=by simpa using I
          have m0:(0:Int)≤(m:Int):=by omega
          have m1:(m:Int)<(d:Int):=by omega
          have bk:IntKind.i64.wrap ((m:Int)+1)=(m:Int)+1:=by rw[IntWalk.i64_in _ (by have:=P.o.hl;have:=NH.o;omega)]
          clear K I;go_wp2_with fail;refine Qj [(0,0),(0,1),(0,2),(0,3),(0,4),(0,5),(0,6),(0,7),(0,8),(0,9)] Zq (by kernel_rfl) (fun _ _ _ _ _ h=>h) ?_;simp only[Jk,Zf,Ze,Zd];iterate 5 (refine Jq (by kernel_rfl) (by go_simp;try rfl) ?_)
          try simp only[Act.put,Za,Zc,Zb]
          iterate 5 (refine Jq (by kernel_rfl) (by go_simp;try rfl) ?_)
          try simp only[Act.put,Za,Zc,Zb]
          refine Jo ?_;go_wp2_with fail;go_roundw;case measure=>simp only[intOf];omega
          case rel=>exact⟨m+1,by rw[←Int.natCast_one,←Int.natCast_add],by omega,B.o.drew⟩
         ·have ay:decide ((m:Int)<(d:Int))=false:=by simp;omega
          have az:decide (m<d)=false:=by simpa using aa
          go_wp2;go_roundw;case measure=>simp only[intOf];have:=R.o;omega
          case rel=>exact⟨i+1,by rw[←Int.natCast_one,←Int.natCast_add],by have:=R.o;omega,C9.o⟩
      ·have bl:decide ((i:Int)<(nq:Int))=false:=by simp;omega
       have bm:decide (i<nq)=false:=by simpa using ab
       have C7:=O (C4.o.aA (HC.o.aA (D6.o.aA U.o)));have a9:=O (bh.o V2 C7.o);clear ab;go_wp2_with fail;refine Zo a9 ?_;rintro e w7⟨hb,rfl,hH,c7⟩;have ba:=O (bi.o w7 _ hb hH);clear hH a9;unfold ptr at*;go_wp2_with fail;refine Zo ba ?_;rintro e w8⟨v3,rfl,be,_,c8⟩;obtain⟨a3,b3,rfl,_,af⟩:=be.row1 (S:=Qb) (fun _ _ h=>h);have bb:=O af;have C8:=O (c7.aA c8);obtain⟨L,hL⟩:=Zx (s.tree.aI 0);have E:=O P.o.le;have u:=O P.o.all;rw[←hL]at bb E u aj;rw[←hL];obtain⟨nl,am⟩:=Zx (L.length);rw[←am];rw[←am]at aj;have NL:=O am;clear be af c7 c8 ba hL am;go_wp2_with fail;go_loopw [18,19] (fun b0 a8 wr=>∃j:Nat,a8=.int .i64 j∧b0=.int .i64 ((s.cnt (L.take j):Nat):Int)∧j≤nl∧Qc Qb w8 wr) (fun _ a8 _=>nl-(intOf a8).toNat);case atStart=>exact⟨0,rfl,rfl,by omega,Zg _ _⟩
       case round=>
        obtain⟨j,rfl,rfl,hj,hc⟩:=hrel;obtain⟨V3,bg⟩:=Zx wr;rw[←bg]at hc⊢;clear bg;have ah:=O hc;clear hc;by_cases a0:j<nl
        ·have bo:decide ((j:Int)<(nl:Int))=true:=by simp;omega
         have bp:decide (j<nl)=true:=by simpa using a0
         obtain⟨y,hy⟩:∃y,L[j]? =some y:=⟨_,List.getElem?_eq_getElem (by have:=NL.o;omega)⟩;obtain⟨g,rfl,ax⟩:=bb.o V3 ah.o j y hy;have av:=O (bd.o V3 (C7.o.aA (C8.o.aA ah.o)) y);have i4:(0:Int)≤(j:Int):=by omega
         have i5:(j:Int)<(nl:Int):=by omega
         have b8:IntKind.i64.wrap ((j:Int)+1)=(j:Int)+1:=by rw[IntWalk.i64_in _ (by have:=aj.o;omega)]
         have ST:=O (Qw6 (s:=s) hy);have CB:=O (show s.cnt (L.take j)≤64 from Zp (List.length_filter_le _ _) (by rw[List.length_take];have:=aj.o;omega));generalize s.cnt (L.take j)=cj at ST CB⊢;have b6:IntKind.i64.wrap ((cj:Int)+1)=(cj:Int)+1:=by rw[IntWalk.i64_in _ (by have:=CB.o;omega)]
         generalize s.many y=my at av ST;clear hy;go_wp2_with fail;refine Zy av ?_;intro w9 c9;have C9:=O (ah.o.aA c9);clear c9 ax av;by_cases hm:0<my
         ·have bq:decide (0<my)=true:=by simpa using hm
          rw[if_pos hm]at ST;clear hm;go_wp2;go_roundw;case measure=>simp only[intOf];omega
          case rel=>exact⟨j+1,by rw[←Int.natCast_one,←Int.natCast_add],by rw[ST.o];rfl,by omega,C9.o⟩
         ·have bq:decide (0<my)=false:=by simpa using hm
          rw[if_neg hm]at ST;clear hm;go_wp2;go_roundw;case measure=>simp only[intOf];omega
          case rel=>exact⟨j+1,by rw[←Int.natCast_one,←Int.natCast_add],by rw[ST.o];rfl,by omega,C9.o⟩
        ·have bo:decide ((j:Int)<(nl:Int))=false:=by simp;omega
         have bp:decide (j<nl)=false:=by simpa using a0
         have TK:L.take j=L:=by rw[show j=L.length by have:=NL.o;omega,List.take_length]
         have E:=E.o;have u:=u.o;rw[TK];generalize s.cnt L=cn at E u⊢;have h1:=NH.o;have h2:=NQ.o;rw[←h1]at E u;rw[←h2]at u;have FF:=O (HC.o.aA (D6.o.aA (U.o.aA (C8.o.aA ah.o))));have e1:decide ((d:Int)>(cn:Int))=false:=by simp;omega
         have e2:decide (cn<d)=false:=by simp;omega
         clear TK h1 h2 a0;by_cases K:nq=0
         ·have e3:d=cn:=u.2 K;subst e3 K;clear E u;go_wp2;go_roundw;case measure=>simp only[intOf];have:=ai.o;omega
          case rel=>exact⟨k+1,by rw[←Int.natCast_one,←Int.natCast_add],by have:=ai.o;omega,FF.o⟩
         ·have e3:¬d=cn:=fun h=>K (u.1 h);have e4:decide (d<cn)=true:=by simp;omega
          have e5:decide ((d:Int)<(cn:Int))=true:=by simp;omega
          have e6:((nq:Int)==0)=false:=by simp;omega
          have e7:((d:Int)==(cn:Int))=false:=by simp;omega
          clear E u;go_wp2;go_roundw;case measure=>simp only[intOf];have:=ai.o;omega
          case rel=>exact⟨k+1,by rw[←Int.natCast_one,←Int.natCast_add],by have:=ai.o;omega,FF.o⟩
    ·have hd:decide ((k:Int)<3)=false:=by simp;omega
     have FF:=O (C2.o.aA (C4.o.aA HC.o));go_wp2;go_ret;exact⟨rfl,FF.o⟩
end
end Go.Proofs.YtnnhmpehkbihnaaGreat
