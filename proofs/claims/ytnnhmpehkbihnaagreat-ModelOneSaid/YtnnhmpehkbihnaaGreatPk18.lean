/- A part of the proof: no condition. -/
import Derived.Test.YtnnhmpehkbihnaaGreatPk13
import Derived.WalkMore
import Derived.Deep.LoopGhost
namespace Go.Proofs.YtnnhmpehkbihnaaGreat
set_option linter.unusedVariables false
set_option maxRecDepth 100000
set_option maxHeartbeats 4000000
open Go.RowKit
open Go.Proofs.Tryz
section
attribute [local go_sem] Qp
attribute [local go_sem ↓] X8 Yd
theorem Own.cells2{e:TypeId}{w}{a:Option Addr}{n cap:Nat}{l:Uw}(h:Own V9 2 e w (.slice a n cap) l)(i:Nat)(hi:i<l.length):
  ∃g,a=some ⟨g,0,none⟩∧w.cell? ⟨g,i*2,none⟩=some (.int .u64 (l[i].1:Int))∧w.cell? ⟨g,i*2+1,none⟩=some (.int .u64 (l[i].2:Int)):=by
 obtain⟨E,u,c,_,_,d⟩:=h.row J5;simp only[Value.slice.injEq]at c;obtain⟨rfl,_,_⟩:=c;obtain⟨_,h⟩:=h;rcases h with⟨h1,J⟩|⟨g,z,B,h1,_⟩;·omega
 ·simp only[Value.slice.injEq]at h1;obtain⟨rfl,_,_⟩:=h1;obtain⟨I,K,c,hc⟩:=d i hi;simp only[Option.some.injEq,Addr.mk.injEq]at c;obtain⟨rfl,rfl,_⟩:=c;have k:=hc 0 _ rfl;have q:=hc 1 _ rfl;simp only[Nat.zero_add,Nat.add_zero]at k q;exact⟨g,rfl,k,q⟩
theorem Own.len{T:Type}{cells:T→List Value}{sz:Nat}{e:TypeId}{w}{a:Option Addr}{n cap:Nat}{l:List T}(hc:∀x,(cells x).length=sz)(h:Own cells sz e w (.slice a n cap) l):n=l.length∧n≤cap:=by obtain⟨k,c,d,h1,_,_⟩:=h.row hc;simp only[Value.slice.injEq]at d;omega
theorem Own.dropLast{T:Type}{cells:T→List Value}{sz:Nat}{e:TypeId}{w}{a:Option Addr}{n cap:Nat}{l:List T}(hc:∀x,(cells x).length=sz)(h:Own cells sz e w (.slice a n cap) l)(hl:l≠[]):Own cells sz e w (.slice a (n-1) cap) l.dropLast:=by
 have hn:=(h.len hc).1;obtain⟨h0,h⟩:=h;have q:=List.length_pos_iff.2 hl;refine⟨by rw[Yh hc],?_⟩;rcases h with⟨h1,k⟩|⟨g,d,c,h1,k,u,I,z,B,E⟩;·omega
 ·simp only[Value.slice.injEq]at h1;obtain⟨rfl,_,rfl⟩:=h1;refine .inr ⟨g,cap,c,by rw[List.length_dropLast,hn],k,u,by rw[List.length_dropLast];omega,z,B,?_⟩;have e1:l.dropLast=l.take (l.length-1):=List.dropLast_eq_take;rw[List.length_dropLast,e1,←Wn hc,←E,List.take_take];congr 1;have:(l.length-1)*sz≤l.length*sz:=Nat.mul_le_mul_right _ (by omega);omega
theorem Qtg(m n:Nat):decide ((0:Int)≤Io m n)=decide (n≤m):=by
 unfold Io;by_cases h1:m<n;·rw[if_pos h1];simp;omega
 ·rw[if_neg h1];split<;>simp<;>omega
theorem Qth(m n:Nat):decide (Io m n≤(0:Int))=decide (m≤n):=by
 unfold Io;by_cases h1:m<n;·rw[if_pos h1];simp;omega
 ·rw[if_neg h1];split<;>simp<;>omega
structure Quo(c:Jy)(X:Nat)(L:Uw)(W2:World)(gk:Nat)(v i:Value)(wr:World):Prop where
 ex:∃(j:Nat)(out:Uw)(a:Option Addr)(cap:Nat),j+gk=L.length∧i=.int .i64 j∧v=.slice a out.length cap∧Own V9 2 369 wr (.slice a out.length cap) out∧out=(L.take j).foldl (Ux c X) []∧
  out.length≤j∧(∀z∈out,z.1≤X∧z.2≤Xw)∧(∀k,(Value.slice a out.length cap).ownBlock=some k→W2.heap.size≤k)∧Qc Qb W2 wr
structure Qup(c:Jy)(X:Nat)(k:Nat×Nat)(P:Uw)(W2 W3:World)(q B:Nat)(gk:Nat)(v n:Value)(wi:World):Prop where
 ex:∃(o:Uw)(a:Option Addr)(cap:Nat),o.length=gk∧n=.int .i64 o.length∧v=.slice a o.length cap∧Own V9 2 369 wi (.slice a o.length cap) o∧U8 c X k o.length o=P∧o.length≤B∧(∀z∈o,z.1≤X∧z.2≤Xw)∧
  (∀g,(Value.slice a o.length cap).ownBlock=some g→W2.heap.size≤g∧g≠q)∧Qc Qb W3 wi
theorem Ws{o:Uw}{m:Nat}(h:o.length=m+1):∃z,o.getLast? =some z∧z∈o∧∃c:m<o.length,o[m]=z:=by
 have c:m<o.length:=by omega
 refine⟨o[m],?_,List.getElem_mem c,c,rfl⟩;rw[List.getLast?_eq_getElem?,h,Nat.add_sub_cancel,List.getElem?_eq_getElem c]
theorem Qi6{w}{F:Fp}{b:Nat}{r:Xh}(h:Hh w F b r)(hn:r.l.length<549755813888)(x y:Nat)(V:x<18446744073709551616)(hy:y<18446744073709551616):
  Cl 327 #[ptr b,.int .u64 x,.int .u64 y] w fun e w'=>e=.returned (.tuple #[])∧Hh w' (Qn F w w') b (r.start x y)∧Qc F w w':=by
 have Z:=h.may;have d:=h.ok.last;have c0:=Yz;have dc:=Yf;obtain⟨X,hX⟩:=Zx (max (min x Qq) (Ji r.l));obtain⟨Y,hY⟩:=Zx (min y Xw);obtain⟨v0,K,hB,hO,hS,hV⟩:=h.ex;have b0:Ji (r.start x y).l=X:=by rw[hX];exact Of _ _ _
 have bg:Ys r.c X (Qbj r.c X (K++[(X,Y)])) (r.start x y).l:=by have:=Qp6 (Nat.le_of_not_lt h.sag) hS h.rise h.ok.rise x y;rw[hX,hY];rw[Of]at this;exact this
 have cx:K.length<549755813888:=Nat.lt_of_le_of_lt hS.len hn;have bp:∀k∈K++[(X,Y)],k.1≤X∧k.2≤Xw:=fun k J=>by
  rcases Zl.1 J with J|J;·exact⟨Zp (h.ok.rise k (hS.1.subset J)) (by rw[hX];omega),h.ok.cap k (hS.1.subset J)⟩
  ·obtain rfl:k=(X,Y):=by simpa using J
   exact⟨Zv _,by rw[hY];exact Nat.min_le_right _ _⟩
 have dw:X≤9223372036854775808:=by rw[hX];omega
 have dx:Y≤4611686018427387904:=by rw[hY];omega
 have cy:max (min (x:Int) 9223372036854775808) (Ji r.l:Int)=(X:Int):=by omega
 have dy:min (y:Int) 4611686018427387904=(Y:Int):=by omega
 obtain⟨ka,kc,rfl,_,_,ci⟩:=hO.row J5;have bi:∀(w')(v:Value),Qh w' b (Pq r.c (r.l.length+1:Int) X v) 300→Own V9 2 369 w' v (Qbj r.c X (K++[(X,Y)]))→(∀k,v.ownBlock=some k→w.heap.size≤k)→Qc (fun k=>k=b) w w'→Hh w' (Qn F w w') b (r.start x y)∧Qc F w w':=fun w' v hb ho hv hc=>by
  have cc:Qc F w w':=hc.sub (fun k J=>by rw[J];exact h.own);refine⟨⟨h.bd.ext cc,.inl h.own,Z,h.sag,h.ok.start x y,h.rise.start h.ok x y,v,_,?_,ho,by rw[b0];exact bg,fun k J=>⟨.inr ⟨hv k J,ho.lt k J⟩,by have:=hv k J;have:=hB.lt;omega⟩⟩,cc⟩;rw[b0];have e4:((r.start x y).l.length:Int)=(r.l.length+1:Int):=by simp[Xh.start,Dg]
  rw[e4];exact hb
 obtain⟨L,hL⟩:=Zx (K++[(X,Y)]);rw[←hL]at bi bp;have an:L.length=K.length+1:=by rw[hL];simp
 have dt:L.length<549755813889:=by omega
 have dr:=O an;have HL:=O hL;have HF:=O bi;have HC:=O (fun w'(hc:Qc (fun k=>k=b) w w')=>Ig _ K w' (hO.aB hc (fun k J e=>(hV k J).2 e)) (by omega));have cr:=O bp;have B0:=O hB;have d0:=hB.lt;have ar:=O Z;obtain⟨x0,ck⟩:=Zx (Ji r.l);rw[←ck]at cy B0;obtain⟨n0,cf⟩:=Zx (r.l.length);rw[←cf]at HF B0 hn;obtain⟨c,cd⟩:=Zx (r.c);rw[←cd]at HF B0 ar;unfold ptr at*;obtain⟨a0,a1,a2,a3,a4,a5,a6⟩:=Tu B0.o;have z0:=B0.o.frozen;clear bi bp hL an bg b0 hX hY ck cf cd hB hO hS hV ci Z d c0 dc h;go_enter func327,ntmps327;go_wp2;go_step3;go_wp2;go_step3;go_wp2;obtain⟨W,hW⟩:=Zx ((w.setCell ⟨b,5,none⟩ (.int .u64 X)).setCell ⟨b,4,none⟩ (.int .i64 ((n0:Int)+1)));have B1:=O ((B0.o.set' 5 (.int .u64 X) (cs':=Pq c n0 X (.slice ka K.length kc)) rfl).set' 4 (.int .i64 ((n0:Int)+1)) (cs':=Pq c ((n0:Int)+1) X (.slice ka K.length kc)) rfl);have C1:=O (((Zg (fun k=>k=b) w).setCell (a:=⟨b,5,none⟩) (.int .u64 X) (.inl rfl)).setCell (a:=⟨b,4,none⟩) (.int .i64 ((n0:Int)+1)) (.inl rfl));rw[←hW]at B1 C1⊢;clear hW a0 a1 a2 a3 a4 a5 a6 z0 B0;have dg:=C1.o.size;have bj:=O (fun w'(hc:Qc Qb W w')=>HC.o w' (C1.o.aA hc.none));clear HC;go_cut [50,51,52] (fun dh di dj wz=>∃a cap,dh=.slice a L.length cap∧di=.int .i64 L.length∧dj=.int .i64 0∧Own V9 2 369 wz (.slice a L.length cap) L∧(∀k,(Value.slice a L.length cap).ownBlock=some k→W.heap.size≤k)∧Qc Qb W wz)
 case first=>
  have E:=fun x=>Tu (Qk (S:=Qb) B1.o (fun h=>h) x);try dsimp only[Pq]at E
  refine Qcb [0,1,2,3,5,6,7,8,9,10,11,15] [4,12] [13,14] [] (Qz (Qb) (W)) Zq (by kernel_rfl) (fun _ _ _ _ _ h=>h) (Qd (by(repeat' (first|(with_reducible first|exact Zg _ _|assumption|refine Zh ?_ _|refine Zi ?_ _|refine Zj ?_|refine Zk ?_ _ ?_|(apply Or.inl;rfl))|(apply Or.inl;simp;done)|(apply Or.inr;simp;first|done|omega))))) ?_;simp only[pick,Zf,Ze,Zd];iterate 12 (refine Ql (fun K hK=>?_);go_simp;refine hK _ ?_;clear hK K)
  refine Qg ?_;intro _ ab;obtain⟨xo,U⟩:=ab;subst U;have c3:=O (Qv Qb W xo);generalize Qz Qb W xo=w3 at c3⊢;clear E;refine Qmy (by decide) rfl rfl ?_ ?_
  ·go_wp2_with fail;refine(bj.o _ c3.o).mono ?_;rintro e w4⟨v4,rfl,o4,d4,n4,_⟩;have c4:=O (c3.o.aA d4);have O4:=O o4;have N4:=O n4;clear d4 o4 n4;go_wp2;refine⟨Qd c4.o,?_⟩;go_wp2;refine⟨Qd (c4.o.alloc _),?_⟩;simp only[Jd];go_wp2_with (at_builtin;refine Jj startT rfl (.tmp 41) (.tmp 49) rfl _ K rfl (O4.o.aB ((Zg Qb _).alloc _) (fun _ _ h=>h)) _ _ [(X,Y)] rfl ?a2 ?a3 ?a4 ?a5 ?a6);case a2=>intro h;cases h
   case a3=>exact RowBlk.row J5 (show RowBlk V9 (w4.alloc (.cells #[.int .u64 X,.int .u64 Y] 369)) w4.heap.size [(X,Y)] 369 from Qh.new _ _ _)
   case a4=>simp[maxLen];omega
   case a5=>simp;omega
   intro v5 w5 o5 d5 n5;rw[←HL.o]at o5;have c5:Qc Qb W w5:=(c4.o.alloc (.cells #[.int .u64 X,.int .u64 Y] 369)).trans d5 fun k J=>.inr (by have q0:=N4.o k J;have q1:=c3.o.size;(try simp at q0);omega);have ax:∀k,v5.ownBlock=some k→W.heap.size≤k:=fun k J=>by
    have df:=c3.o.size;rcases n5 with h|h;·rw[h]at J;have:=N4.o k J;omega
    ·rw[h]at J;have q1:=Zs J;have q2:=(c4.o.alloc (.cells #[.int .u64 X,.int .u64 Y] 369)).size;try simp at q1
     try simp at q2
     omega
   obtain⟨a5,al,rfl,cz,bo,_⟩:=o5.row J5;have O5:=O (Zt o5 (Zt ax c5));clear o5 ax d5 n5 c5 bo;go_wp2;refine⟨Qd O5.o.2.2,?_⟩;go_wp2;refine⟨Qd O5.o.2.2,?_⟩;go_wp2_with fail;go_meet;exact⟨a5,al,rfl,rfl,rfl,O5.o.1,O5.o.2.1,O5.o.2.2⟩
  ·go_wp2_with fail;refine⟨Qd (c3.o.alloc _),?_⟩;have R3:=O (Qh.new w3 #[.int .u64 X,.int .u64 Y] 369);go_wp2_with fail;refine(bj.o _ (c3.o.alloc _)).mono ?_;rintro e w4⟨v4,rfl,o4,d4,n4,_⟩;have c4:=O ((c3.o.alloc (.cells #[.int .u64 X,.int .u64 Y] 369)).aA d4);have R4:=O (d4.blk R3.o (fun h=>h));have O4:=O o4;have N4:=O n4;clear d4 o4 n4 R3;go_wp2;refine⟨Qd c4.o,?_⟩;simp only[Jd];go_wp2_with (at_builtin;refine Jj startT rfl (.tmp 41) (.tmp 49) rfl _ K rfl O4.o _ _ [(X,Y)] rfl ?b2 ?b3 ?b4 ?b5 ?b6);case b2=>intro h;cases h
   case b3=>exact RowBlk.row J5 (show RowBlk V9 w4 w3.heap.size [(X,Y)] 369 from R4.o)
   case b4=>simp[maxLen];omega
   case b5=>simp;omega
   intro v5 w5 o5 d5 n5;rw[←HL.o]at o5;have c5:Qc Qb W w5:=c4.o.trans d5 fun k J=>.inr (by have q0:=N4.o k J;have q1:=c3.o.size;(try simp at q0);omega);have ax:∀k,v5.ownBlock=some k→W.heap.size≤k:=fun k J=>by
    have df:=c3.o.size;rcases n5 with h|h;·rw[h]at J;have:=N4.o k J;simp at this;omega
    ·rw[h]at J;have q1:=Zs J;have q2:=c4.o.size;try simp at q1
     try simp at q2
     omega
   obtain⟨a5,al,rfl,cz,bo,_⟩:=o5.row J5;have O5:=O (Zt o5 (Zt ax c5));clear o5 ax d5 n5 c5 bo;go_wp2;refine⟨Qd O5.o.2.2,?_⟩;go_wp2;refine⟨Qd O5.o.2.2,?_⟩;go_wp2_with fail;go_meet;exact⟨a5,al,rfl,rfl,rfl,O5.o.1,O5.o.2.1,O5.o.2.2⟩
 case rest=>
  obtain⟨la,dq,rfl,rfl,rfl,oL,nL,cW⟩:=hcut;obtain⟨W2,hW2⟩:=Zx wc;rw[←hW2]at oL cW⊢;have B2:=O (cW.blk B1.o (fun h=>h));have C2:=O (C1.o.aA (Qc.none cW));have OL:=O oL;have NL:=O nL;have dp:=cW.size;have dz:=B2.o.lt;clear hW2 oL nL cW bj C1 B1 dg;go_wp2;go_loopg [6,52] L.length (fun gk v i wr=>Quo c X L W2 gk v i wr);case atStart=>exact⟨0,[],none,0,by omega,rfl,rfl,Own.nil _ _ _ _,by simp,Nat.zero_le _,nofun,fun k J=>by simp[Value.ownBlock]at J,Zg _ _⟩
  case round=>
   obtain⟨j,out,oa,bh,hj,rfl,rfl,hO,ac,cg,R,u,B⟩:=hrel;have bq:=hO.len J5;by_cases Xg:j<L.length
   ·obtain⟨g,hg,l0,l1⟩:=(OL.o.aB B (fun _ _ h=>h)).cells2 j Xg;obtain⟨k,J⟩:=Zx (L[j]);rw[←J]at l0 l1;have ai:=cr.o k (J▸List.getElem_mem Xg);have au:(L.take (j+1)).foldl (Ux c X) []=Ux c X out k:=by rw[List.take_succ_eq_append_getElem Xg,List.foldl_append,←ac,←J];rfl
    have bm:=O au;have af:((j+1:Nat):Int)=(j:Int)+1:=by omega
    have du:(L.length:Int)≤9223372036854775807:=by omega
    obtain⟨W3,br⟩:=Zx (wr.alloc (.cells #[.int .u64 k.1,.int .u64 k.2] 369));have BK:=O (Qh.new wr #[.int .u64 k.1,.int .u64 k.2] 369);have CK:=O ((Zg Qb wr).alloc (.cells #[.int .u64 k.1,.int .u64 k.2] 369));obtain⟨q,hq⟩:=Zx (wr.heap.size);have ce:∀x,(Value.slice oa out.length bh).ownBlock=some x→x≠q:=fun x V=>by have:=hO.lt x V;omega
    rw[←br]at BK CK;rw[←hq]at BK;have O3:=O (hO.aB CK.o (fun _ _ h=>h));have C3:=O (B.aA CK.o);have B3:=O (C3.o.blk B2.o (fun h=>h));have ba:=O u;have ct:=O R;have cq:=O ce;have HQ:=O hq;obtain rfl:=hg;clear ac hO R u B J au ce OL;go_wp2;rw[←br,←hq];clear br hq;have bv:L.length-(j+1)<gk:=by omega
    have ap:j+1+(L.length-(j+1))=L.length:=by omega
    go_loopg [6,9] out.length (fun g v n wi=>Qup c X k (U8 c X k out.length out) W2 W3 q j g v n wi);case atStart=>exact⟨out,oa,bh,rfl,rfl,rfl,O3.o,rfl,cg,ct.o,fun x V=>⟨ba.o x V,cq.o x V⟩,Zg _ _⟩
    case round=>
     obtain⟨o,a,cap,ho,rfl,rfl,hO,hP,de,R,u,B⟩:=hrel;obtain⟨wi,cj⟩:=Zx wr;rw[←cj]at hO B⊢;clear cj;have ae:=(hO.len J5).2;by_cases hz:o.length=0
     ·obtain rfl:=List.eq_nil_of_length_eq_zero hz;have bl:Hi (U8 c X k out.length out=[]):=O (by rw[←hP];rfl);have Ki:=O (B.blk BK.o (fun h=>h));have Ci:=O (C3.o.aA B);have HO:=O hO;have be:=O u;clear hP hz ho hO R u B ae de;rw[List.length_nil]at HO be⊢;go_wp2;go_quiet (fail);obtain⟨a8,av⟩:=Zx (wi.drewN nq);have s3:=O (show Qc Qb wi a8 by rw[av];exact(Zg _ _).drewN _);rw[←av];clear av;go_wp2;go_quiet (fail);obtain⟨a9,aw⟩:=Zx (a8.drewN nq);have t3:=O (show Qc Qb a8 a9 by rw[aw];exact(Zg _ _).drewN _);rw[←aw];clear aw;obtain⟨u0,u1⟩:=Q4 (t3.o.blk (s3.o.blk Ki.o (fun h=>h)) (fun h=>h));have C6:=O ((Ci.o.aA s3.o).aA t3.o);have R6:=O ((HO.o.aB s3.o (fun _ _ h=>h)).aB t3.o (fun _ _ h=>h));go_wp2_with (at_builtin;refine Jj startT rfl (.tmp 114) (.tmp 116) rfl _ ([]:Uw) rfl (R6.o.aB ((Zg Qb _).alloc _) (fun _ _ h=>h)) _ _ [k] rfl ?d2 ?d3 ?d4 ?d5 ?d6);case d2=>intro h;cases h
      case d3=>exact RowBlk.row J5 (show RowBlk V9 (a9.alloc (.cells #[.int .u64 k.1,.int .u64 k.2] 369)) a9.heap.size [k] 369 from Qh.new _ _ _)
      case d4=>simp[maxLen]
      case d5=>simp
      intro v7 w7 o7 d7 n7;have u:=be.o;have c7:Qc Qb W2 w7:=(C6.o.alloc (.cells #[.int .u64 k.1,.int .u64 k.2] 369)).trans d7 fun x V=>.inr (u x V).1;have ay:∀x,v7.ownBlock=some x→W2.heap.size≤x:=fun x V=>by
       rcases n7 with h|h;·rw[h]at V;exact(u x V).1
       ·rw[h]at V;have q1:=Zs V;have q2:=C6.o.size;(try simp at q1);omega
      obtain⟨a7,am,rfl,_,_,_⟩:=o7.row J5;have O7:=O (Zt o7 (Zt ay c7));clear o7 ay c7 d7 n7 u;go_wp2;go_roundg (L.length-(j+1))
      case rel=>
       refine⟨j+1,[k],a7,am,ap,by rw[af],rfl,O7.o.1,?_,by simp,fun z hz=>?_,O7.o.2.1,O7.o.2.2⟩;·rw[bm.o];unfold Ux;simp only[bl.o];rfl
       ·obtain rfl:z=k:=by simpa using hz
        exact ai
      case measure=>exact bv
     ·obtain⟨m,Z⟩:∃m,o.length=m+1:=⟨o.length-1,by omega⟩;obtain⟨z,d,bc,aj,ak⟩:=Ws Z;obtain⟨g2,rfl,l2,l3⟩:=hO.cells2 m aj;rw[ak]at l2 l3;obtain⟨b1,b7⟩:=R z bc;have R0:∀x,Own V9 2 369 (Qz Qb wi x) (.slice (some ⟨g2,0,none⟩) o.length cap) o:=fun x=>hO.aB (Qv Qb wi x) (fun _ _ h=>h);have E1:∀x,(Qz Qb wi x).cell? ⟨g2,m*2,none⟩=some (.int .u64 z.1)∧(Qz Qb wi x).cell? ⟨g2,m*2+1,none⟩=some (.int .u64 z.2):=fun x=>by obtain⟨g3,bu,p0,p1⟩:=(R0 x).cells2 m aj;cases bu;rw[ak]at p0 p1;exact⟨p0,p1⟩
      have Bi:=O (B.blk B3.o (fun h=>h));have Ki:=O (B.blk BK.o (fun h=>h));have E2:=fun x=>Tu (Qk (S:=Qb) Bi.o (fun h=>h) x);have E3:=fun x=>Q4 (Qk (S:=Qb) Ki.o (fun h=>h) x);try dsimp only[Pq]at E2
      have E4:=True.intro;have A1:=O (fun w'(hc:Qc Qb wi w')=>Qee ar.o (hc.blk Bi.o (fun h=>h)) z X b1 (by omega) b7);have A2:=O (fun w'(hc:Qc Qb wi w')=>Qee ar.o (hc.blk Bi.o (fun h=>h)) k X ai.1 (by omega) ai.2);have AC:=O (fun w'=>Qb5 (Hg c X z) (Hg c X k) w');have A3:=O (fun w'(hc:Qc Qb wi w')=>Qbv ar.o (hc.blk Bi.o (fun h=>h)) z X b1 (by omega) b7);have A4:=O (fun w'(hc:Qc Qb wi w')=>Qbv ar.o (hc.blk Bi.o (fun h=>h)) k X ai.1 (by omega) ai.2);have AD:=O (fun w'=>Qb5 (Ug c X z) (Ug c X k) w');have HD:=O (Zt (Qtg (Hg c X z) (Hg c X k)) (Qth (Ug c X z) (Ug c X k)));unfold kV ptr at A1 A2 A3 A4;unfold Qek at A1 A2 A3 A4;have db:((o.length:Nat):Int)=(m:Int)+1:=by omega
      have ch:(0:Int)<(o.length:Int):=by omega
      rw[Z];rw[Z]at hP hO ae;have ec:IntKind.i64.wrap (m:Int)=(m:Int):=IntWalk.i64_in _ (by omega);have d8:(m:Int)<(m:Int)+1:=by omega
      have d1:(0:Int)≤(m:Int):=by omega
      have co:((m+1:Nat):Int)=(m:Int)+1:=by omega
      have bf:U8 c X k (m+1) o=if Hg c X k≤Hg c X z then U8 c X k m o.dropLast else o:=by rw[U8,d]
      have ag:=O (Zt bf hP);have I:=O (Zt d (Zt Z (Zt R (Zt u B))));have HO:=O hO;have ea:m+1≤cap:=ae;have d9:m+1≤j:=by omega
      generalize Hg c X z=p1 at*;generalize Hg c X k=p2 at*;obtain⟨q1,bw⟩:=Zx (Ug c X z);obtain⟨q2,bz⟩:=Zx (Ug c X k);rw[←bw]at A3 AD HD;rw[←bz]at A4 AD HD;have cu:=O bw;have cv:=O bz;clear bw bz;generalize Io p1 p2=cm at*;generalize Io q1 q2=cn at*;generalize((p1/18446744073709551616:Nat):Int)=ed at*;generalize((p1%18446744073709551616:Nat):Int)=ee at*;generalize((p2/18446744073709551616:Nat):Int)=ef at*;generalize((p2%18446744073709551616:Nat):Int)=eg at*;generalize((q1/18446744073709551616:Nat):Int)=eh at*;generalize((q1%18446744073709551616:Nat):Int)=ei at*;generalize((q2/18446744073709551616:Nat):Int)=ej at*;generalize((q2%18446744073709551616:Nat):Int)=ek at*;clear Z d bc ak bf hP R u B hO hz db ch l2 l3 b1 b7 aj;have bs:(0:Int)≤cm↔p2≤p1:=by have:=HD.o.1;simpa using this
      have bt:cn≤(0:Int)↔q1≤q2:=by have:=HD.o.2;simpa using this
      by_cases hh:p2≤p1
      ·have c8:(0:Int)≤cm:=bs.2 hh;have HH:=O hh;clear bs bt hh;have cw:=O R0;clear R0;go_wp2;refine Qu [] [0,1,2,3,4,5,6,7,8,9,10,11,12,14,15,16,17,18,19] [13,20,21,22,23] [] (Qz (Qb) (wi)) Zq (by kernel_rfl) (fun _ _ _ _ _ h=>h) (Qd (by(repeat' (first|(with_reducible first|exact Zg _ _|assumption|refine Zh ?_ _|refine Zi ?_ _|refine Zj ?_|refine Zk ?_ _ ?_|(apply Or.inl;rfl))|(apply Or.inl;simp;done)|(apply Or.inr;simp;first|done|omega))))) ?_;simp only[pick,Zf,Ze,Zd];refine Qg ?_;iterate 19 (refine Ql (fun K hK=>?_);go_simp;refine hK _ ?_;clear hK K)
       refine Qg ?_;intro _ ab;obtain⟨xo,U⟩:=ab;subst U;simp only[Jd];have s3:=O (Qv Qb wi xo);generalize Qz Qb wi xo=a8 at s3⊢;clear E1 E2 E3 E4;go_wp2_with fail;with_reducible refine Zz ((A1).o _ s3.o) ?_
       intro dk d4;have s4:=O (s3.o.aA d4);clear d4;go_wp2;refine⟨Qd s4.o,?_⟩;go_wp2_with fail;with_reducible refine Zz ((A2).o _ s4.o) ?_
       intro dl d5;have s5:=O (s4.o.aA d5);clear d5;go_wp2;refine⟨Qd s5.o,?_⟩;go_wp2_with fail;with_reducible refine Zz ((AC).o _) ?_
       intro cl d6;have s6:=O (s5.o.aA d6);clear d6;go_wp2;refine⟨Qd s6.o,?_⟩;go_wp2;refine⟨Qd s6.o,?_⟩;go_wp2;refine⟨Qd s6.o,?_⟩;go_wp2;obtain⟨d,Z,R,u,B⟩:=I.o;have ao:o.dropLast.length=m:=by rw[List.length_dropLast,Z];rfl
       have dd:o≠[]:=fun h=>by rw[h]at Z;cases Z
       have c1:m<gk:=by omega
       go_roundg m
       case rel=>
        refine⟨o.dropLast,some ⟨g2,0,none⟩,cap,ao,by rw[ao],by rw[ao],?_,?_,by omega,fun z hz=>R z (List.dropLast_subset _ hz),fun x V=>u x V,B.aA s6.o⟩;·rw[ao];exact(HO.o.aB s6.o (fun _ _ h=>h)).dropLast J5 dd
        ·rw[ao,←ag.o.2,ag.o.1,if_pos HH.o]
       case measure=>exact c1
      ·have c8:cm<(0:Int):=by omega
       have bl:Hi (U8 c X k out.length out=o):=O (by rw[←ag.o.2,ag.o.1,if_neg hh]);have b8:=O bt;clear bs bt hh;have cw:=O R0;clear R0;go_wp2;refine Qu [] [0,1,2,3,4,5,6,7,8,9,10,11,12,14,15,16,17,18,19] [13,20,21,22,23] [] (Qz (Qb) (wi)) Zq (by kernel_rfl) (fun _ _ _ _ _ h=>h) (Qd (by(repeat' (first|(with_reducible first|exact Zg _ _|assumption|refine Zh ?_ _|refine Zi ?_ _|refine Zj ?_|refine Zk ?_ _ ?_|(apply Or.inl;rfl))|(apply Or.inl;simp;done)|(apply Or.inr;simp;first|done|omega))))) ?_;simp only[pick,Zf,Ze,Zd];refine Qg ?_;iterate 19 (refine Ql (fun K hK=>?_);go_simp;refine hK _ ?_;clear hK K)
       refine Qg ?_;intro _ ab;obtain⟨xo,U⟩:=ab;subst U;simp only[Jd];have s3:=O (Qv Qb wi xo);generalize Qz Qb wi xo=a8 at s3⊢;clear E1 E2 E3 E4;go_wp2_with fail;with_reducible refine Zz ((A1).o _ s3.o) ?_
       intro dk d4;have s4:=O (s3.o.aA d4);clear d4;go_wp2;refine⟨Qd s4.o,?_⟩;go_wp2_with fail;with_reducible refine Zz ((A2).o _ s4.o) ?_
       intro dl d5;have s5:=O (s4.o.aA d5);clear d5;go_wp2;refine⟨Qd s5.o,?_⟩;go_wp2_with fail;with_reducible refine Zz ((AC).o _) ?_
       intro cl d6;have s6:=O (s5.o.aA d6);clear d6;go_wp2;refine⟨Qd s6.o,?_⟩;go_wp2;refine⟨Qd s6.o,?_⟩;go_wp2;refine⟨Qd s6.o,?_⟩;obtain⟨w9,az⟩:=Zx cl;have R9:Own V9 2 369 w9 (.slice (some ⟨g2,0,none⟩) (m+1) cap) o:=by rw[az];exact HO.o.aB s6.o (fun _ _ h=>h)
       have B9:=O (s6.o.blk Bi.o (fun h=>h));have K9:=O (s6.o.blk Ki.o (fun h=>h));have C9:=O (I.o.2.2.2.2.aA s6.o);rw[←az]at B9 K9 C9;have P9:∀w',Qc Qb w9 w'→Qc Qb wi w':=fun w' h=>s6.o.aA (by rw[←az];exact h);obtain⟨d,Z,R,u,B⟩:=I.o;obtain⟨z',aa,bc,aj,ak⟩:=Ws Z;obtain rfl:z'=z:=by rw[d]at aa;exact(Zs aa).symm
       have E1:∀x,(Qz Qb w9 x).cell? ⟨g2,m*2,none⟩=some (.int .u64 z'.1)∧(Qz Qb w9 x).cell? ⟨g2,m*2+1,none⟩=some (.int .u64 z'.2):=fun x=>by obtain⟨g3,bu,p0,p1⟩:=(R9.aB (Qv Qb w9 x) (fun _ _ h=>h)).cells2 m aj;cases bu;rw[ak]at p0 p1;exact⟨p0,p1⟩
       have E2:=fun x=>Tu (Qk (S:=Qb) B9.o (fun h=>h) x);have E3:=fun x=>Q4 (Qk (S:=Qb) K9.o (fun h=>h) x);try dsimp only[Pq]at E2
       have E4:=True.intro;have A5:=O (fun w' hc=>A3.o w' (P9 w' hc));have A6:=O (fun w' hc=>A4.o w' (P9 w' hc));have cb:=O R9;have ah:Ux c X out k=if q1≤q2 then o else o++[k]:=by unfold Ux;simp only[bl.o,d];rw[←cu.o,←cv.o]
       have ca:=O ah;rw[←az];clear az P9 R9 d Z R u B bc aj ak aa ah;by_cases aq:q1≤q2
       ·have c9:cn≤(0:Int):=b8.o.2 aq;have bk:=O aq;clear aq;go_wp2;refine Qu [] [0,1,2,3,4,5,6,7,8,9,10,11,12,14,15,16,17,18,19] [13,20,21,22,23] [] (Qz (Qb) (w9)) Zq (by kernel_rfl) (fun _ _ _ _ _ h=>h) (Qd (by(repeat' (first|(with_reducible first|exact Zg _ _|assumption|refine Zh ?_ _|refine Zi ?_ _|refine Zj ?_|refine Zk ?_ _ ?_|(apply Or.inl;rfl))|(apply Or.inl;simp;done)|(apply Or.inr;simp;first|done|omega))))) ?_;simp only[pick,Zf,Ze,Zd];refine Qg ?_;iterate 19 (refine Ql (fun K hK=>?_);go_simp;refine hK _ ?_;clear hK K)
        refine Qg ?_;intro _ ab;obtain⟨xo,U⟩:=ab;subst U;simp only[Jd];have t3:=O (Qv Qb w9 xo);generalize Qz Qb w9 xo=a9 at t3⊢;clear E1 E2 E3 E4;go_wp2_with fail;with_reducible refine Zz ((A5).o _ t3.o) ?_
        intro dm d4;have t4:=O (t3.o.aA d4);clear d4;go_wp2;refine⟨Qd t4.o,?_⟩;go_wp2_with fail;with_reducible refine Zz ((A6).o _ t4.o) ?_
        intro dn d5;have t5:=O (t4.o.aA d5);clear d5;go_wp2;refine⟨Qd t5.o,?_⟩;go_wp2_with fail;with_reducible refine Zz ((AD).o _) ?_
        intro bd d6;have t6:=O (t5.o.aA d6);clear d6;go_wp2;refine⟨Qd t6.o,?_⟩;go_wp2;refine⟨Qd t6.o,?_⟩;go_wp2;refine⟨Qd t6.o,?_⟩;go_wp2;obtain⟨d,Z,R,u,B⟩:=I.o;go_roundg (L.length-(j+1))
        case rel=>
         refine⟨j+1,o,some ⟨g2,0,none⟩,cap,ap,by rw[af],by rw[Z],?_,?_,by omega,R,fun x V=>(u x V).1,(C3.o.aA C9.o).aA t6.o⟩;·rw[Z];exact cb.o.aB t6.o (fun _ _ h=>h)
         ·rw[bm.o,ca.o,if_pos bk.o]
        case measure=>exact bv
       ·have c9:(0:Int)<cn:=by have:=b8.o;omega
        have bk:=O aq;clear aq;go_wp2;refine Qu [] [0,1,2,3,4,5,6,7,8,9,10,11,12,14,15,16,17,18,19] [13,20,21,22,23] [] (Qz (Qb) (w9)) Zq (by kernel_rfl) (fun _ _ _ _ _ h=>h) (Qd (by(repeat' (first|(with_reducible first|exact Zg _ _|assumption|refine Zh ?_ _|refine Zi ?_ _|refine Zj ?_|refine Zk ?_ _ ?_|(apply Or.inl;rfl))|(apply Or.inl;simp;done)|(apply Or.inr;simp;first|done|omega))))) ?_;simp only[pick,Zf,Ze,Zd];refine Qg ?_;iterate 19 (refine Ql (fun K hK=>?_);go_simp;refine hK _ ?_;clear hK K)
        refine Qg ?_;intro _ ab;obtain⟨xo,U⟩:=ab;subst U;simp only[Jd];have t3:=O (Qv Qb w9 xo);generalize Qz Qb w9 xo=a9 at t3⊢;clear E1 E2 E3 E4;go_wp2_with fail;with_reducible refine Zz ((A5).o _ t3.o) ?_
        intro dm d4;have t4:=O (t3.o.aA d4);clear d4;go_wp2;refine⟨Qd t4.o,?_⟩;go_wp2_with fail;with_reducible refine Zz ((A6).o _ t4.o) ?_
        intro dn d5;have t5:=O (t4.o.aA d5);clear d5;go_wp2;refine⟨Qd t5.o,?_⟩;go_wp2_with fail;with_reducible refine Zz ((AD).o _) ?_
        intro bd d6;have t6:=O (t5.o.aA d6);clear d6;go_wp2;refine⟨Qd t6.o,?_⟩;go_wp2;refine⟨Qd t6.o,?_⟩;go_wp2;refine⟨Qd t6.o,?_⟩;obtain⟨u0,u1⟩:=Q4 (t6.o.blk K9.o (fun h=>h));have c6:=(C3.o.aA C9.o).aA t6.o;have C6:=O c6;have RK:=O (Qh.new bd #[.int .u64 k.1,.int .u64 k.2] 369);have eb:o.length<549755813889:=by have:=I.o.2.1;omega
        have bb:=I.o.2.1;have R6:=O (cb.o.aB t6.o (fun _ _ h=>h));rw[←bb]at R6;have ds:=O bb;have e0:(Value.slice (some ⟨g2,0,none⟩) (m+1) cap)=.slice (some ⟨g2,0,none⟩) o.length cap:=by rw[bb]
        have cp:=O e0;clear e0 bb c6;go_wp2_with (at_builtin;refine Jj startT rfl (.tmp 114) (.tmp 116) rfl _ o cp.o (R6.o.aB ((Zg Qb _).alloc _) (fun _ _ h=>h)) _ _ [k] rfl ?c2 ?c3 ?c4 ?c5 ?c6);case c2=>intro h;cases h
        case c3=>exact RowBlk.row J5 (show RowBlk V9 (bd.alloc (.cells #[.int .u64 k.1,.int .u64 k.2] 369)) bd.heap.size [k] 369 from Qh.new _ _ _)
        case c4=>simp[maxLen];omega
        case c5=>simp;omega
        intro v7 w7 o7 d7 n7;have u:=I.o.2.2.2.1;have c7:Qc Qb W2 w7:=(C6.o.alloc (.cells #[.int .u64 k.1,.int .u64 k.2] 369)).trans d7 fun x V=>.inr (u x V).1;have ay:∀x,v7.ownBlock=some x→W2.heap.size≤x:=fun x V=>by
         rcases n7 with h|h;·rw[h]at V;exact(u x V).1
         ·rw[h]at V;have q1:=Zs V;have q2:=C6.o.size;(try simp at q1);omega
        obtain⟨a7,am,rfl,_,_,_⟩:=o7.row J5;have O7:=O (Zt o7 (Zt ay c7));clear o7 ay c7 d7 n7 u;go_wp2;obtain⟨d,Z,R,u,B⟩:=I.o;go_roundg (L.length-(j+1))
        case rel=>
         refine⟨j+1,o++[k],a7,am,ap,by rw[af],rfl,O7.o.1,?_,?_,fun z hz=>?_,O7.o.2.1,O7.o.2.2⟩;·rw[bm.o,ca.o,if_neg bk.o]
         ·rw[List.length_append,Z];simp;omega
         ·rcases Zl.1 hz with hz|hz;·exact R z hz
          ·obtain rfl:z=k:=by simpa using hz
           exact ai
        case measure=>exact bv
   ·have da:j=L.length:=by omega
    subst da;rw[List.take_length]at ac;have b9:=O ac;have HO:=O hO;have ba:=O u;have B9:=O (B.blk B2.o (fun h=>h));have C9:=O (C2.o.aA (Qc.none B));obtain⟨a0,a1,a2,a3,a4,a5,a6⟩:=Tu B9.o;have z0:=B9.o.frozen;have dv:=C2.o.size;clear ac hO R u B hj cg bq;go_wp2;rw[Exit.noGoto_normal];refine bodyPost_end (results_none rfl _ _ _) rfl ⟨rfl,HF.o _ _ (B9.o.set' 6 _ rfl) ?_ (fun x V=>by have:=ba.o x V;omega) (C9.o.setCell _ (.inl rfl))⟩;rw[←(show out=Qbj c X L from b9.o)];exact HO.o.aB ((Zg (fun k=>k=b) wr).setCell (a:=⟨b,6,none⟩) _ (.inl rfl)) (fun x V e=>by have:=ba.o x V;omega)
end
section
attribute [local go_sem] Qp
structure Yv(w:World)(F:Fp)(b:Nat)(r:Xh):Prop where
  bd:Bd F w
  own:F b
  may:r.c.May
  ok:Uj r.l
  rise:Ew r.l
  ex:∃(k:Nat)(G:Fp),(∀x,G x→F x∧x≠b)∧
    ((r.c.r < r.c.f ∧ Ve w G k r ∧ Qh w b #[.int .u64 r.c.f, .int .u64 r.c.l, .int .u64 r.c.r, .iface 271 (.agg #[.pointer (some ⟨k, 0, none⟩)])] 219) ∨
     (¬ r.c.r < r.c.f ∧ Hh w G k r ∧ Qh w b #[.int .u64 r.c.f, .int .u64 r.c.l, .int .u64 r.c.r, .iface 276 (.agg #[.pointer (some ⟨k, 0, none⟩)])] 219))
theorem runP:Hf Yv where
 bd h:=h.bd
 own h:=h.own
 aB h hc hd:=⟨h.bd.later hc,h.own,h.may,h.ok,h.rise,by
  obtain⟨k,G,c,h1⟩:=h.ex;refine⟨k,G,c,?_⟩;have q:=Jl.subL hd fun x u=>(c x u).1;rcases h1 with⟨d,h1,z⟩|⟨d,h1,z⟩;·exact .inl ⟨d,bentP.aB h1 hc q,hc.blk z (hd _ h.own)⟩
  ·exact .inr ⟨d,sagP.aB h1 hc q,hc.blk z (hd _ h.own)⟩⟩
 more h hs d:=⟨d,hs _ h.own,h.may,h.ok,h.rise,by
  obtain⟨k,G,c,h1⟩:=h.ex;exact⟨k,G,fun x u=>⟨hs x (c x u).1,(c x u).2⟩,h1⟩⟩
theorem Nv{w}{b:Nat}{v0 v1 v2:Value}{t:TypeId}{v:Value}(c:Qh w b #[v0,v1,v2,.iface t v] 219):
  Cl 190 #[ptr b] w fun e w'=>e=.returned (.iface t v)∧w=w':=by
 obtain⟨d,a1,k,q⟩:=X9 c;unfold ptr;clear c;go_enter func190,ntmps190;go_wp2;go_ret;exact⟨rfl,rfl⟩
theorem Qty(k:Nat)(w):(method 481 271 (.agg #[.pointer (some ⟨k,0,none⟩)]) "Start").run prog w=.ok (304,.pointer (some ⟨k,0,none⟩)) w:=by kernel_rfl
theorem Qtz(k:Nat)(w):(method 481 276 (.agg #[.pointer (some ⟨k,0,none⟩)]) "Start").run prog w=.ok (327,.pointer (some ⟨k,0,none⟩)) w:=by kernel_rfl
theorem Qnd(k:Nat)(w):(method 481 271 (.agg #[.pointer (some ⟨k,0,none⟩)]) "Reach").run prog w=.ok (303,.pointer (some ⟨k,0,none⟩)) w:=by kernel_rfl
theorem Qne(k:Nat)(w):(method 481 276 (.agg #[.pointer (some ⟨k,0,none⟩)]) "Reach").run prog w=.ok (326,.pointer (some ⟨k,0,none⟩)) w:=by kernel_rfl
attribute [local go_sem] Qty Qtz Qnd Qne
theorem Yv.bent'{w}{F G:Fp}{b k:Nat}{r:Xh}(d:Bd F w)(u:F b)(h:Ve w G k r)(q:∀x,G x→F x∧x≠b)(c:Qh w b #[.int .u64 r.c.f,.int .u64 r.c.l,.int .u64 r.c.r,.iface 271 (.agg #[.pointer (some ⟨k,0,none⟩)])] 219):Yv w F b r:=
 ⟨d,u,h.may,h.ok,h.rise,k,G,q,.inl ⟨h.bent,h,c⟩⟩
theorem Yv.sag'{w}{F G:Fp}{b k:Nat}{r:Xh}(d:Bd F w)(u:F b)(h:Hh w G k r)(q:∀x,G x→F x∧x≠b)(c:Qh w b #[.int .u64 r.c.f,.int .u64 r.c.l,.int .u64 r.c.r,.iface 276 (.agg #[.pointer (some ⟨k,0,none⟩)])] 219):Yv w F b r:=
 ⟨d,u,h.may,h.ok,h.rise,k,G,q,.inr ⟨h.sag,h,c⟩⟩
theorem Rv{w}{F:Fp}{b:Nat}{r:Xh}(h:Yv w F b r)(hn:r.l.length<549755813888)(x y:Nat)(c:x<18446744073709551616)(R:y<18446744073709551616):
  Cl 132 #[ptr b,.int .u64 x,.int .u64 y] w fun e w'=>e=.returned (.tuple #[])∧Yv w' (Qn F w w') b (r.start x y)∧Qc F w w':=by
 obtain⟨k,G,B,h1⟩:=h.ex;have J:=runP.lt h;have z:=h.bd;have d:=h.own;rcases h1 with⟨hb,h1,E⟩|⟨hb,h1,E⟩
 ·have Z:=O (Nv E);have HS:=O (Qjz h1 (by omega) x y c R);have q:∀w',Ve w' (Qn G w w') k (r.start x y)→Qc G w w'→Yv w' (Qn F w w') b (r.start x y)∧Qc F w w':=fun w' hi hc=>by have u:Qc F w w':=hc.sub fun x c=>(B x c).1;exact⟨Yv.bent' (z.ext u) (.inl d) hi (fun x c=>c.elim (fun c=>⟨.inl (B x c).1,(B x c).2⟩) (fun c=>⟨.inr c,by omega⟩)) (hc.blk E fun c=>(B b c).2 rfl),u⟩
  have U:=O q;unfold ptr at*;clear hn c R h h1 E q J z d;go_enter func132,ntmps132;go_wp2_with fail;refine Zy Z ?_;rintro w1 rfl;go_wp2_with fail;refine Zy HS ?_;rintro w2⟨K,I⟩;have V:=O (U.o _ K I);clear K I;go_wp2;exact bodyPost_end (results_none rfl _ _ _) rfl ⟨rfl,V.o⟩
 ·have Z:=O (Nv E);have HS:=O (Qi6 h1 hn x y c R);have q:∀w',Hh w' (Qn G w w') k (r.start x y)→Qc G w w'→Yv w' (Qn F w w') b (r.start x y)∧Qc F w w':=fun w' hi hc=>by have u:Qc F w w':=hc.sub fun x c=>(B x c).1;exact⟨Yv.sag' (z.ext u) (.inl d) hi (fun x c=>c.elim (fun c=>⟨.inl (B x c).1,(B x c).2⟩) (fun c=>⟨.inr c,by omega⟩)) (hc.blk E fun c=>(B b c).2 rfl),u⟩
  have U:=O q;unfold ptr at*;clear hn c R h h1 E q J z d;go_enter func132,ntmps132;go_wp2_with fail;refine Zy Z ?_;rintro w1 rfl;go_wp2_with fail;refine Zy HS ?_;rintro w2⟨K,I⟩;have V:=O (U.o _ K I);clear K I;go_wp2;exact bodyPost_end (results_none rfl _ _ _) rfl ⟨rfl,V.o⟩
end
section
attribute [local go_sem] Qp Qnd Qne
theorem Qrw(k:Nat)(w):(method 481 271 (.agg #[.pointer (some ⟨k,0,none⟩)]) "distributary/run.eligible").run prog w=.ok (320,.agg #[.pointer (some ⟨k,0,none⟩)]) w:=by kernel_rfl
theorem Qry(k:Nat)(w):(method 481 276 (.agg #[.pointer (some ⟨k,0,none⟩)]) "distributary/run.eligible").run prog w=.ok (340,.agg #[.pointer (some ⟨k,0,none⟩)]) w:=by kernel_rfl
theorem Quj(k:Nat)(w):(method 481 271 (.agg #[.pointer (some ⟨k,0,none⟩)]) "distributary/run.own").run prog w=.ok (321,.agg #[.pointer (some ⟨k,0,none⟩)]) w:=by kernel_rfl
theorem Quk(k:Nat)(w):(method 481 276 (.agg #[.pointer (some ⟨k,0,none⟩)]) "distributary/run.own").run prog w=.ok (341,.agg #[.pointer (some ⟨k,0,none⟩)]) w:=by kernel_rfl
attribute [local go_sem] Qrw Qry Quj Quk
theorem Ar{w}{F:Fp}{b:Nat}{r:Xh}(h:Ve w F b r)(y:Nat)(c:y<18446744073709551616):Cl 303 #[ptr b,.int .u64 y] w fun e w'=>e=.returned (.int .u64 (r.reach y:Nat))∧Qc Qb w w':=by
 by_cases hl:r.l=[];·exact Qgm h hl y
 ·exact Qgn h hl y c
theorem Qiv{w}{F:Fp}{k:Nat}{r:Xh}(h:Ve w F k r)(y:Nat)(q:y<18446744073709551616):Cl 320 #[.agg #[.pointer (some ⟨k,0,none⟩)],.int .u64 y] w fun e w'=>e=.returned (.int .u64 (r.elig y:Nat))∧Qc Qb w w':=by
 have c:=O (Ar (bentP.aB h ((Zg Qb w).alloc (.cells #[.pointer (some ⟨k,0,none⟩)] 271)) (Jl.none F)) y q);have e:r.elig y=r.reach y:=by unfold Xh.elig Xh.reach;rw[if_pos h.bent]
 rw[e];unfold ptr at c;clear h q e;go_enter func320,ntmps320;go_wp2_with fail;refine Zy c ?_;intro w1 d;have u:=O (((Zg Qb w).alloc _).aA d);clear d;go_wp2;go_ret;exact⟨rfl,u.o⟩
theorem Qiw{w}{F:Fp}{k:Nat}{r:Xh}(h:Hh w F k r)(hn:r.l.length<1099511627776)(y:Nat):Cl 340 #[.agg #[.pointer (some ⟨k,0,none⟩)],.int .u64 y] w fun e w'=>e=.returned (.int .u64 (r.elig y:Nat))∧Qc Qb w w':=by have c:=O (Qi1 (sagP.aB h ((Zg Qb w).alloc (.cells #[.pointer (some ⟨k,0,none⟩)] 276)) (Jl.none F)) hn y);unfold ptr at c;clear h hn;go_enter func340,ntmps340;go_wp2_with fail;refine Zy c ?_;intro w1 d;have q:=O (((Zg Qb w).alloc _).aA d);clear d;go_wp2;go_ret;exact⟨rfl,q.o⟩
theorem Ru{w}{F:Fp}{b:Nat}{r:Xh}(h:Yv w F b r)(hn:r.l.length<1099511627776)(y:Nat)(u:y<18446744073709551616):
  Cl 194 #[ptr b,.int .u64 y] w fun e w'=>e=.returned (.int .u64 (r.reach y:Nat))∧Qc Qb w w':=by
 obtain⟨k,G,E,h1⟩:=h.ex;rcases h1 with⟨B,h1,c⟩|⟨B,h1,c⟩;all_goals have z:=O (Nv c)
 case inl=> have d:=O (Ar h1 y u);unfold ptr at*;clear hn u h h1 c;go_enter func194,ntmps194;go_wp2_with fail;refine Zy z ?_;rintro w1 rfl;go_wp2_with fail;refine Zy d ?_;intro w2 q;go_wp2;go_ret;exact⟨rfl,q⟩
 case inr=> have d:=O (Qi5 h1 hn y);unfold ptr at*;clear hn u h h1 c;go_enter func194,ntmps194;go_wp2_with fail;refine Zy z ?_;rintro w1 rfl;go_wp2_with fail;refine Zy d ?_;intro w2 q;go_wp2;go_ret;exact⟨rfl,q⟩
theorem Ql3{w}{F:Fp}{b:Nat}{r:Xh}(h:Yv w F b r)(hn:r.l.length<1099511627776)(y:Nat)(u:y<18446744073709551616):
  Cl 192 #[ptr b,.int .u64 y] w fun e w'=>e=.returned (.int .u64 (r.elig y:Nat))∧Qc Qb w w':=by
 obtain⟨k,G,E,h1⟩:=h.ex;rcases h1 with⟨B,h1,c⟩|⟨B,h1,c⟩;all_goals have z:=O (Nv c)
 case inl=> have d:=O (Qiv h1 y u);unfold ptr at*;clear hn u h h1 c;go_enter func192,ntmps192;go_wp2_with fail;refine Zy z ?_;rintro w1 rfl;go_wp2_with fail;refine Zy d ?_;intro w2 q;go_wp2;go_ret;exact⟨rfl,q⟩
 case inr=> have d:=O (Qiw h1 hn y);unfold ptr at*;clear hn u h h1 c;go_enter func192,ntmps192;go_wp2_with fail;refine Zy z ?_;rintro w1 rfl;go_wp2_with fail;refine Zy d ?_;intro w2 q;go_wp2;go_ret;exact⟨rfl,q⟩
end
section
attribute [local go_sem] Qp Qrw Qry Quj Quk
theorem Qq4(c:Jy)(hc:c.May)(z:¬c.r<c.f)(w):Cl 220 #[cV c] w fun e w'=>e=.returned (.tuple #[.pointer none,.int .i64 30])∧Qc Qb w w':=by have q:=O (K8 c);have k:=O (L7 c);rw[decide_eq_true hc]at q;rw[decide_eq_false z]at k;obtain⟨f,l,r⟩:=c;unfold cV at*;have B:=O (Qh.new w #[.int .u64 f,.int .u64 l,.int .u64 r] 38);have C:=O ((Zg Qb w).alloc (.cells #[.int .u64 f,.int .u64 l,.int .u64 r] 38));clear hc z;go_enter func220,ntmps220;go_wp2_with fail;refine Zz (q.o _) ?_;intro w1 d;have I:=O (C.o.aA d);have E:=O (d.blk B.o (fun h=>h));clear d;obtain⟨K,a1,R⟩:=L6 E.o;go_wp2_with fail;refine Zz (k.o _) ?_;intro w2 u;have J:=O (I.o.aA u);clear u K a1 R;go_wp2;go_ret2;exact⟨rfl,J.o⟩
theorem Cv(c:Jy)(hc:c.May)(w):Cl 188 #[cV c] w fun e w'=>∃b,e=.returned (ptr b)∧Yv w' (Qn Qb w w') b ⟨c,[]⟩∧Qc Qb w w':=by
 have Z:=O (K8 c);rw[decide_eq_true hc]at Z;by_cases K:c.r<c.f
 ·have HN:=O (Qn5 c hc K);have d:∀(w0 w1 w2)(k:Nat),Qc Qb w w0→Ve w1 (Qn Qb w0 w1) k ⟨c,[]⟩→Qc Qb w0 w1→w2=w1.alloc (.cells #[.int .u64 c.f,.int .u64 c.l,.int .u64 c.r,.iface 271 (.agg #[.pointer (some ⟨k,0,none⟩)])] 219)→Yv w2 (Qn Qb w w2) w1.heap.size ⟨c,[]⟩∧Qc Qb w w2:=by
   rintro w0 w1 w2 k h0 h1 J rfl;have e0:=h0.size;have e1:=J.size;refine⟨Yv.bent' (G:=Qn Qb w0 w1) (fun x hx=>hx.elim (fun h=>h.elim) (fun h=>h.2)) (.inr ⟨by omega,by simp⟩) (bentP.aB h1 ((Zg Qb w1).alloc _) (Jl.none _)) ?_ (Qh.new _ _ _),((h0.aA J).alloc _)⟩;rintro x(h|⟨h3,h4⟩);·exact h.elim
   ·exact⟨.inr ⟨by omega,by simp;omega⟩,by omega⟩
  have V:=O d;obtain⟨f,l,r⟩:=c;unfold cV at*;dsimp only at*;have B:=O (Qh.new w #[.int .u64 f,.int .u64 l,.int .u64 r] 38);have C:=O ((Zg Qb w).alloc (.cells #[.int .u64 f,.int .u64 l,.int .u64 r] 38));clear hc K d;unfold ptr at*;go_enter func188,ntmps188;go_wp2_with fail;refine Zz (Z.o _) ?_;intro w1 z;have U:=O (C.o.aA z);have I:=O (z.blk B.o (fun h=>h));clear z;obtain⟨q,a1,u⟩:=L6 I.o;go_wp2_with fail;refine(HN.o _).mono ?_;rintro e w2⟨k,rfl,i2,E⟩;have R:=O (E.blk I.o (fun h=>h));have H2:=O (V.o _ _ _ _ U.o i2 E rfl);clear i2 E q a1 u;obtain⟨q,a1,u⟩:=L6 R.o;go_wp2;go_ret;exact⟨_,rfl,H2.o⟩
 ·have HN:=O (Qq4 c hc K);have HS:=O (Qqb c hc K);have d:∀(w0 w1 w2)(k:Nat),Qc Qb w w0→Hh w1 (Qn Qb w0 w1) k ⟨c,[]⟩→Qc Qb w0 w1→w2=w1.alloc (.cells #[.int .u64 c.f,.int .u64 c.l,.int .u64 c.r,.iface 276 (.agg #[.pointer (some ⟨k,0,none⟩)])] 219)→Yv w2 (Qn Qb w w2) w1.heap.size ⟨c,[]⟩∧Qc Qb w w2:=by
   rintro w0 w1 w2 k h0 h1 J rfl;have e0:=h0.size;have e1:=J.size;refine⟨Yv.sag' (G:=Qn Qb w0 w1) (fun x hx=>hx.elim (fun h=>h.elim) (fun h=>h.2)) (.inr ⟨by omega,by simp⟩) (sagP.aB h1 ((Zg Qb w1).alloc _) (Jl.none _)) ?_ (Qh.new _ _ _),((h0.aA J).alloc _)⟩;rintro x(h|⟨h3,h4⟩);·exact h.elim
   ·exact⟨.inr ⟨by omega,by simp;omega⟩,by omega⟩
  have V:=O d;obtain⟨f,l,r⟩:=c;unfold cV at*;dsimp only at*;have B:=O (Qh.new w #[.int .u64 f,.int .u64 l,.int .u64 r] 38);have C:=O ((Zg Qb w).alloc (.cells #[.int .u64 f,.int .u64 l,.int .u64 r] 38));clear hc K d;unfold ptr at*;go_enter func188,ntmps188;go_wp2_with fail;refine Zz (Z.o _) ?_;intro w1 z;have U:=O (C.o.aA z);have I:=O (z.blk B.o (fun h=>h));clear z;obtain⟨q,a1,u⟩:=L6 I.o;go_wp2_with fail;refine Zz (HN.o _) ?_;intro w2 E;have C2:=O (U.o.aA E);have R:=O (E.blk I.o (fun h=>h));clear E q a1 u;obtain⟨q,a1,u⟩:=L6 R.o;go_wp2_with fail;refine(HS.o _).mono ?_;rintro e w3⟨k,rfl,i3,c3⟩;have B3:=O (c3.blk R.o (fun h=>h));have H3:=O (V.o _ _ _ _ C2.o i3 c3 rfl);clear i3 c3 q a1 u;obtain⟨q,a1,u⟩:=L6 B3.o;go_wp2;go_ret;exact⟨_,rfl,H3.o⟩
end
section
attribute [local go_sem] Qp
def Fs(d:Ju)(p:Nat):Array Value:=#[ptr p,.int .u64 d.got,.bool d.aL,.int .u64 d.elig,.int .u64 d.due]
abbrev Ye:World→Fp→Nat→Ju→Prop:=O1 150 Fs Ju.run Yv
theorem Ye.obj:Hf Ye:=O1.obj runP
theorem Qrm(len:Int)(w):Cl 161 #[.int .i64 len] w fun e w'=>e=.returned (.int .u64 (Xr len:Nat))∧w=w':=by
 have h1:IntKind.u64.wrap (min (max len 0) 65536)=(((min (max len 0) 65536).toNat:Nat):Int):=by rw[IntWalk.u64_in _ (by omega)];omega
 have d:IntKind.u64.wrap ((((min (max len 0) 65536).toNat:Nat):Int)*256)=(Xr len:Int):=by unfold Xr;rw[IntWalk.u64_in _ (by omega)];omega
 have q:=fun(c:Array TypeId)t k a b(w)=>X8 (P:=prog) c t k a b w;have u:=fun(c:Array TypeId)t k a b(w)=>Yd (P:=prog) c t k a b w;generalize Xr len=g at d⊢;generalize(min (max len 0) 65536).toNat=m at h1 d;generalize B:min (max len 0) 65536=z at h1;go_enter func161,ntmps161;go_wp2;go_ret;exact⟨rfl,rfl⟩
theorem Wt(len:Int):Xr len≤16777216:=by unfold Xr;omega
theorem Ty{w}{b p:Nat}{v1 v2 v3 v4:Value}(h:Qh w b #[ptr p,v1,v2,v3,v4] 150):Cl 88 #[ptr b] w fun e w'=>e=.returned (.bool false)∧w=w':=by have c:=h.cell 0;simp only[Zf,Ze]at c;unfold ptr at*;clear h;go_enter func88,ntmps88;go_wp2;go_ret;exact⟨rfl,rfl⟩
theorem Li{w}{F:Fp}{b:Nat}{d:Ju}(h:Ye w F b d):Cl 99 #[ptr b] w fun e w'=>e=.returned (.bool d.aL)∧w=w':=by obtain⟨p,G,c,_⟩:=h.ex;have k:=O (Ty c);obtain⟨q,a1,u,z,B⟩:=Ym c;unfold ptr at*;clear h c;go_enter func99,ntmps99;go_wp2_with fail;refine Zy k ?_;rintro w1 rfl;go_wp2;go_ret;exact⟨rfl,rfl⟩
theorem Ay{w}{F:Fp}{b:Nat}{d:Ju}(h:Ye w F b d):Cl 46 #[ptr b] w fun e w'=>e=.returned (.int .u64 (d.from_:Nat))∧w=w':=by
 have c:=O (Li h);obtain⟨p,G,k,_⟩:=h.ex;obtain⟨q,a1,u,z,B⟩:=Ym k;unfold ptr Ju.from_ at*;clear h k;cases ha:d.aL;all_goals
  rw[ha]at c;clear ha;go_enter func46,ntmps46;go_wp2_with fail;refine Zy c ?_;rintro w1 rfl;go_wp2;go_ret;exact⟨rfl,rfl⟩
theorem Cb{w}{F:Fp}{b:Nat}{d:Ju}(h:Ye w F b d):Cl 47 #[ptr b] w fun e w'=>e=.returned (.int .u64 (d.dueAt:Nat))∧w=w':=by
 have c:=O (Li h);obtain⟨p,G,k,_⟩:=h.ex;obtain⟨q,a1,u,z,B⟩:=Ym k;unfold ptr Ju.dueAt at*;clear h k;cases ha:d.aL;all_goals
  rw[ha]at c;clear ha;go_enter func47,ntmps47;go_wp2_with fail;refine Zy c ?_;rintro w1 rfl;go_wp2;go_ret;exact⟨rfl,rfl⟩
theorem Qcu{w}{G:Fp}{b p g:Nat}{r:Xh}{v2 v3 v4:Value}(len:Int)(J:Qh w b #[ptr p,.int .u64 g,v2,v3,v4] 150)(U:Yv w G p r)(hn:r.l.length<549755813888)(hg:g≤Xw):
  Cl 191 #[ptr b,.int .i64 len] w fun e w'=>e=.returned (.tuple #[])∧Qh w' b #[ptr p,.int .u64 g,v2,.int .u64 (r.elig g:Nat),v4] 150∧Qc (fun k=>k=b) w w':=by
 have E:=O (fun w'(hc:Qc Qb w w')=>Ql3 (runP.aB U hc (Jl.none G)) (by omega) g (by have:=Yz;omega));have B:=O J;generalize r.elig g=x at E⊢;have Z:=fun x=>Ym (Qk (S:=Qb) B.o (fun h=>h) x);unfold ptr at*;clear J U hn hg;go_enter func191,ntmps191;go_wp2_with fail;refine Qu [] [0,1,2,3,4,5,6,7,8,9] [10] [11,12,13] (Qz (Qb) (w)) Zq (by kernel_rfl) (fun _ _ _ _ _ h=>h) (Qd (by(repeat' (first|(with_reducible first|exact Zg _ _|assumption|refine Zh ?_ _|refine Zi ?_ _|refine Zj ?_|refine Zk ?_ _ ?_|(apply Or.inl;rfl))|(apply Or.inl;simp;done)|(apply Or.inr;simp;first|done|omega))))) ?_;simp only[pick,Zf,Ze,Zd];refine Qg ?_;iterate 10 (refine Ql (fun K R=>?_);go_simp;refine R _ ?_;clear R K)
 refine Qg ?_;intro _ z;obtain⟨V,c⟩:=z;subst c;simp only[Jd];have q:=O (Qv Qb w V);generalize Qz Qb w V=w1 at q⊢;clear Z;go_wp2_with fail;refine Zz (E.o _ q.o) ?_;intro w2 I;have u:=O (q.o.aA I);clear I;go_wp2;refine⟨Qd u.o,?_⟩;have d:=O (u.o.blk B.o (fun h=>h));obtain⟨a0,a1,a2,a3,a4⟩:=Ym d.o;have f2:=d.o.frozen;go_wp2;refine bodyPost_end (by simp[*,results,Tryz.results191,go_sem]) rfl ⟨rfl,d.o.set' 3 _ rfl,u.o.none.setCell (a:=⟨b,3,none⟩) _ (.inl rfl)⟩
theorem By{w}{G:Fp}{b p g:Nat}{r:Xh}{v2 v3 v4:Value}(len:Int)(hB:Qh w b #[ptr p,.int .u64 g,v2,v3,v4] 150)(hR:Yv w G p r)(hn:r.l.length<549755813888)(hg:g≤Xw):
  Cl 193 #[ptr b,.int .i64 len] w fun e w'=>e=.returned (.tuple #[])∧Qh w' b #[ptr p,.int .u64 g,v2,v3,.int .u64 (r.reach (min (g+Xr len) Xw):Nat)] 150∧Qc (fun k=>k=b) w w':=by
 have d:=Yz;have R:=Wt len;have I:=O (fun w'(hc:Qc Qb w w')=>Ru (runP.aB hR hc (Jl.none G)) (by omega) (min (g+Xr len) Xw) (by omega));have Z:=O (fun w=>Qrm len w);have V:=O hB;have hs:IntKind.u64.wrap ((g:Int)+(Xr len:Int))=((g+Xr len:Nat):Int):=by rw[IntWalk.u64_in _ (by omega)];omega
 have q:min ((g+Xr len:Nat):Int) 4611686018427387904=((min (g+Xr len) Xw:Nat):Int):=by omega
 generalize r.reach (min (g+Xr len) Xw)=x at I⊢;generalize min (g+Xr len) Xw=y at I q;generalize g+Xr len=z at hs q;generalize Xr len=u at Z hs;have hm:=fun(ts:Array TypeId)t k a b(w)=>X8 (P:=prog) ts t k a b w;have E1:=fun x=>Ym (Qk (S:=Qb) V.o (fun h=>h) x);unfold ptr at*;clear hB hR hn hg d R;go_enter func193,ntmps193;go_wp2_with fail;refine Qu [] [0,1,2,3,4,5,6,7,8,9,10] [11,12,13,14] [15,16,17] (Qz (Qb) (w)) Zq (by kernel_rfl) (fun _ _ _ _ _ h=>h) (Qd (by(repeat' (first|(with_reducible first|exact Zg _ _|assumption|refine Zh ?_ _|refine Zi ?_ _|refine Zj ?_|refine Zk ?_ _ ?_|(apply Or.inl;rfl))|(apply Or.inl;simp;done)|(apply Or.inr;simp;first|done|omega))))) ?_;simp only[pick,Zf,Ze,Zd];refine Qg ?_;iterate 11 (refine Ql (fun K hK=>?_);go_simp;refine hK _ ?_;clear hK K)
 refine Qg ?_;intro _ U;obtain⟨xo,B⟩:=U;subst B;simp only[Jd];have c:=O (Qv Qb w xo);generalize Qz Qb w xo=w1 at c⊢;clear E1;go_wp2_with fail;refine Zz (Z.o _) ?_;rintro w2 rfl;go_wp2;refine⟨Qd c.o,?_⟩;go_wp2;refine⟨Qd c.o,?_⟩;go_wp2;refine⟨Qd c.o,?_⟩;go_wp2_with fail;refine Zz (I.o _ c.o) ?_;intro w2 d2;have J:=O (c.o.aA d2);clear d2;go_wp2;refine⟨Qd J.o,?_⟩;have E:=O (J.o.blk V.o (fun h=>h));obtain⟨a0,a1,a2,a3,a4⟩:=Ym E.o;have f2:=E.o.frozen;go_wp2;refine bodyPost_end (by simp[*,results,Tryz.results193,go_sem]) rfl ⟨rfl,E.o.set' 4 _ rfl,J.o.none.setCell (a:=⟨b,4,none⟩) _ (.inl rfl)⟩
end
end Go.Proofs.YtnnhmpehkbihnaaGreat
