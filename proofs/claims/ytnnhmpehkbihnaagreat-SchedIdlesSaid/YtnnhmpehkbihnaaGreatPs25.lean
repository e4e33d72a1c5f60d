/- A part of the proof: no condition. -/
import Derived.Test.YtnnhmpehkbihnaaGreatPs24
namespace Go.Proofs.YtnnhmpehkbihnaaGreat
set_option linter.unusedVariables false
set_option maxRecDepth 100000
set_option maxHeartbeats 4000000
open Go.RowKit
open Go.Proofs.Tryz
section
attribute [local go_sem] Qp
attribute [local irreducible] Kl J9 Xo
section
variable{w:World}{F:Fp}{b:Nat}{h:Qm}
theorem Qgd{s:Yk}(h0:h.aO s≠0):h.add s=h:=by unfold Qm.add;rw[if_neg h0]
theorem Qny(hh:Q9 w F b h)(ok:J8 h){s:Yk}(h0:h.aO s=0):
  ∃ma mu,Qh w b #[.map (some ma),.map (some mu)] 92∧ma<w.heap.size∧mu<w.heap.size∧b≠ma∧b≠mu∧∀w3,Qc Qb w w3→
   ∃w4,(Instr.mapUpdate 89 (.map (some ma)) (.int .i64 s.id) (.agg (P0 ⟨s,h.depth s.par⟩))).run prog w3.drew=.ok () w4∧Qc (fun k=>k=ma) w3 w4∧
   ∃v,(Instr.lookup 90 (.map (some mu)) (.int .i64 s.par) false).run prog w4.drew=.ok v w4.drew∧Q6 w4 v (h.aM s.par)∧(∀k,v.ownBlock=some k→k<w.heap.size∧k≠b∧k≠ma∧k≠mu)∧
   ∀i w5 w6 v',Om s.id (h.aM s.par) i i→Qc Qb w4 w5→Qc (fun k=>v.ownBlock=some k) w5 w6→Q6 w6 v' ((h.aM s.par).take i++s.id::(h.aM s.par).drop i)→(v'.ownBlock=v.ownBlock∨∃k,v'.ownBlock=some k∧w5.heap.size≤k)→
    ∃w7,(Instr.mapUpdate 90 (.map (some mu)) (.int .i64 s.par) v').run prog w6=.ok () w7∧Q9 w7 (Qn F w w7) b (h.add s)∧Qc F w w7:=by
 obtain⟨ma,mu,l,vs,G,hp,hn,ao,ab,u,fb,fm,fG,aj,R,a2,ax,ak⟩:=hh.opn;have ae:=u.at_;obtain⟨_,_,Z,_⟩:=Ub h0;have af:=Wu Z;refine⟨ma,mu,ao,ab.lt,u.map.lt,a2,fun e=>aj (e▸ae),fun w3 z=>?_⟩;obtain⟨w4,r4,ar,c4⟩:=X6 (P:=prog) ((ab.aB z (fun h=>h)).aB (Zg Qb w3).drew (fun h=>h)) underlying89 underlying3 s.id (.agg (P0 ⟨s,h.depth s.par⟩));have B:Qc (fun k=>k=ma) w3 w4:=c4.undrew;refine⟨w4,r4,B,?_⟩;have K:=(u.aB z (Jl.none G)).aB B (fun k d e=>R (e▸d));obtain⟨v,hr,hI,hv⟩:=(K.aB (Zg Qb w4).drew (Jl.none G)).look s.par;have ap:Q6 w4 v (h.aM s.par):=hI;have q:∀k,v.ownBlock=some k→(s.par,v)∈vs∧G k∧k≠mu:=fun k d=>by
  rcases hv with⟨e,_⟩|hv;·rw[e]at d;cases d
  ·exact⟨hv,u.own _ hv k d⟩
 refine⟨v,hr,ap,fun k d=>?_,fun i w5 w6 v' a1 E I aa ah=>?_⟩;·obtain⟨_,h1,h2⟩:=q k d;exact⟨ax k (fG k h1),fun e=>aj (e▸h1),fun e=>R (e▸h1),h2⟩
 ·have au:=(K.map.aB E (fun h=>h)).aB I (fun d=>(q mu d).2.2 rfl);obtain⟨w7,r7,av,J⟩:=X6 (P:=prog) au underlying90 underlying3 s.par v';refine⟨w7,r7,?_⟩;have ay:(fun k=>Qm.aM (h.add s) k)=fun k=>if s.par=k then Nm s.id (h.aM k)else h.aM k:=funext fun k=>by rw[Bv h0];exact Fe ⟨s,h.depth s.par⟩ k ok.sorted
  have V:∀k,(h.add s).aM k=if s.par=k then Nm s.id (h.aM k)else h.aM k:=fun k=>congrFun ay k;have az:s.id∉h.aM s.par:=fun hx=>by obtain⟨c,hc,e,_⟩:=Sx hx;exact af c hc e
  have ag:(h.add s).aM s.par=(h.aM s.par).take i++s.id::(h.aM s.par).drop i:=by rw[V,if_pos rfl,Qm8 a1 az]
  have s5:=E.size;have s6:=I.size;have s7:=J.size;have ai:∀k,v'.ownBlock=some k→k<w6.heap.size:=aa.lt;have aq:Q6 w7 v' ((h.add s).aM s.par):=by
   rw[ag];refine aa.aB J fun k d e=>?_;rcases ah with U|⟨k2,U,h2⟩;·rw[U]at d;exact(q k d).2.2 e
   ·rw[U]at d;have e3:k2=k:=Zs d;have:=K.map.lt;omega
  have am:Qc (fun k=>k=mu∨v.ownBlock=some k) w4 w7:=((E.none.aA (I.mono fun k d=>.inl (.inr d))).trans J fun k d=>.inl (.inl d));obtain⟨aw,an⟩:=K.put (i:=s.par) (v':=v') (fun k d=>by rw[V,if_neg (fun e=>d e.symm)]) aq (fun k d=>by
   rcases ah with U|⟨k2,U,h2⟩;·rw[U]at d;exact .inl ⟨v,(q k d).1,d⟩
   ·rw[U]at d;have e3:k2=k:=Zs d;have h3:=ai k (by rw[U,e3]);exact .inr ⟨by omega,by omega⟩) av am (fun k d=>d.imp id fun d=>⟨v,(q k d).1,d⟩)
  have cA:Qc (fun k=>k=ma∨G k) w w7:=(z.none.aA (B.mono fun k d=>.inl (.inl d))).aA (an.sub fun k d=>.inr d);have al:Bd G w:=u.bd;refine ak w7 (l++[⟨s,h.depth s.par⟩]) _ _ ?_ ?_ (aw.later (w:=w) (Zp z.size B.size) ?_) cA;·rw[Bv h0];exact(hp.append_right _).trans (Ef _ h).symm
  ·have ac:=((ar.aB E (fun h=>h)).aB I (fun d=>by obtain⟨_,h1,_⟩:=q ma d;exact R h1)).aB J (fun e=>R (e▸ae));rw[Gw (fun p a0=>by
    obtain⟨x,hx,rfl⟩:=Z3.1 a0;exact af x (hp.mem_iff.1 hx))]at ac
   have:Us (l++[⟨s,h.depth s.par⟩])=Us l++[(s.id,.agg (P0 ⟨s,h.depth s.par⟩))]:=by unfold Us;rw[List.map_append];rfl
   rw[this];exact ac
  ·exact fun k d=>d.elim (fun d=>Nat.lt_of_lt_of_le (al k d) cA.size) (fun d=>d.2)
theorem Am(h:Qm)(s:Yk):h.aO s=if s.mayE≠0 then 130 else if 64≤h.length then 4 else if(h.at s.id).isSome then 80 else if h.depth s.par=0 then 160 else 0:=rfl
end
section
variable{w:World}{F:Fp}{b:Nat}{h:Qm}
theorem Qh.inj{w}{g:Nat}{cs cs':Array Value}{t c:TypeId}(h:Qh w g cs t)(h':Qh w g cs' c):cs=cs':=by unfold Qh at h h';rw[h]at h';injection h' with h';injection h' with h'
theorem Qor(hh:Q9 w F b h)(ok:J8 h)(s:Yk):
  Cl 68 #[ptr b,Fb s] w fun e w'=>e=.returned (.int .i64 (h.aO s))∧Q9 w' (Qn F w w') b (h.add s)∧Qc F w w':=by
 have aa:=O (fun w'(c:Qc Qb w w')=>Q9.obj.aB hh c (Jl.none F));have V:Hi (∀w',Qc Qb w w'→h.aO s≠0→Q9 w' (Qn F w w') b (h.add s)∧Qc F w w'):=O (fun w' c h0=>by rw[Qgd h0];exact Q9.obj.same hh c);obtain⟨W,hW⟩:=Zx (w.alloc (.cells (Z4 s.leaf s) 40));have S0:Hi (Xx W w.heap.size s):=O (by rw[hW];exact Xx.new w s);have C0:Hi (Qc Qb w W):=O (by rw[hW];exact(Zg _ _).alloc _);have HN:=O (Gz (aa.o W C0.o));have J:=O (fun w=>Qef s w);obtain⟨a0,a1,a2,a3,a4,a5,a6,a7,a8,a9,ak,al,am,an⟩:=(show Xx (w.alloc _) _ _ from hW▸S0.o).cells;by_cases hm:s.mayE=0
 ·have Z:h.aO s=if 64≤h.length then 4 else if(h.at s.id).isSome then 80 else if h.depth s.par=0 then 160 else 0:=by rw[Am,if_neg (by omega)]
  have HD:=O (fun w'(c:Qc Qb w w')=>Qhk (aa.o w' c) s.par);obtain⟨ma,mu,l,vs,G,hp,hn,ao,ar,bo,fb,fm,fG,bt,bu,bv,bp,_⟩:=hh.opn;have U:=O ao;have LK:=O (fun(w')(cc:Qc Qb w w')=>show(Instr.lookup 89 (.map (some ma)) (.int .i64 s.id) true).run prog w'=.ok (.tuple #[.agg (P0 (h.get s.id)),.bool (h.at s.id).isSome]) w' by
   have hL:=Dj (P:=prog) (ar.aB cc (fun h=>h)) underlying89 underlying3 (Sf w') s.id;rw[Ed s.id l hn,←Qm.at_perm hp hn]at hL;rw[hL];unfold Qm.get;cases h.at s.id<;>rfl)
  have ay:=O (fun(w')(cc:Qc Qb w w')=>show(Builtin.len_ #[89] 3 #[.map (some ma)]).run prog w'=.ok (.int .i64 h.length) w' by
   have hL:=Qua (P:=prog) (ar.aB cc (fun h=>h)) underlying89 3;have e:(Us l).length=h.length:=by unfold Us;rw[List.length_map,hp.length_eq]
   rw[e]at hL;exact hL)
  have q:Hi (h.aO s=0→ma<w.heap.size∧mu<w.heap.size∧b≠ma∧b≠mu∧∀w3,Qc Qb w w3→
   ∃w4,(Instr.mapUpdate 89 (.map (some ma)) (.int .i64 s.id) (.agg (P0 ⟨s,h.depth s.par⟩))).run prog w3.drew=.ok () w4∧Qc (fun k=>k=ma) w3 w4∧
   ∃v,(Instr.lookup 90 (.map (some mu)) (.int .i64 s.par) false).run prog w4.drew=.ok v w4.drew∧Q6 w4 v (h.aM s.par)∧(∀k,v.ownBlock=some k→k<w.heap.size∧k≠b∧k≠ma∧k≠mu)∧
   ∀i w5 w6 v',Om s.id (h.aM s.par) i i→Qc Qb w4 w5→Qc (fun k=>v.ownBlock=some k) w5 w6→Q6 w6 v' ((h.aM s.par).take i++s.id::(h.aM s.par).drop i)→(v'.ownBlock=v.ownBlock∨∃k,v'.ownBlock=some k∧w5.heap.size≤k)→
    ∃w7,(Instr.mapUpdate 90 (.map (some mu)) (.int .i64 s.par) v').run prog w6=.ok () w7∧Q9 w7 (Qn F w w7) b (h.add s)∧Qc F w w7):=O (fun h0=>by
   obtain⟨br,bs,bl,k1,k2,k3,k4,k5⟩:=Qny hh ok h0;have e:=ao.inj bl;injection e with e;injection e with e1 e2;injection e1 with e1;injection e2 with e2 _;injection e2 with e2;have e1:ma=br:=Zs e1;have e2:mu=bs:=Zs e2;subst e1;subst e2;exact⟨k1,k2,k3,k4,k5⟩)
  have aj:=O (Gk ok.sorted s.par);have ab:=O (show(h.aM s.par).length≤64 from by
   have:(h.aM s.par).length≤h.length:=by unfold Qm.aM;rw[List.length_map];exact List.length_filter_le _ _
   have:=ok.many;omega)
  have Eu:decide (s.mayE=0)=true:=by simpa using hm
  have bq:(s.mayE==0)=true:=by simpa using hm
  obtain⟨c,hc⟩:=Zx (h.get s.id);rw[←hc]at LK;obtain⟨bw,bd⟩:=Zx ((h.at s.id).isSome);rw[←bd]at LK Z;obtain⟨n,bc⟩:=Zx (h.length);rw[←bc]at ay Z;obtain⟨d,au⟩:=Zx (h.depth s.par);rw[←au]at HD q Z;have b2:Hi (d≤8):=O (by
   rw[au];unfold Qm.depth;split;·omega
   ·split;·omega
    ·split;·omega
     ·rename_i hx;simp only[Bool.or_eq_true,decide_eq_true_eq,not_or]at hx;omega)
  have HE:=O Z;rw[hm]at J;unfold Fb ptr at*;clear hh ok Z hm ao ar bo hp hn fb fm fG bt bu bv bp hc bd bc au Eu bq;go_enter func68,ntmps68;go_wp2_with fail;rw[←hW]at a0 a1 a2 a3 a4 a5 a6 a7 a8 a9 ak al am an⊢;clear hW;refine Zy HN ?_;rintro w1 rfl;go_wp2_with fail;refine Zz (J.o _) ?_;intro w1 c1;have C1:=O (C0.o.aA c1);have S1:=O (S0.o.aB c1);have b3:=O (show w.heap.size<w1.heap.size from Nat.lt_of_lt_of_le (Qh.lt S0.o) c1.size);clear c1 a0 a1 a2 a3 a4 a5 a6 a7 a8 a9 ak al am an;go_wp2_with fail;refine Jp [(1,0),(1,1),(1,2),(1,3),(1,4),(1,5),(1,6),(1,7),(1,8),(1,9),(2,10),(2,11),(3,12)] (fun z=>Qc (Qb) (w1) z) Zq (by kernel_rfl) (fun _ _ _ _ _ h=>h) (Zj (Zg _ _)) ?_;simp only[Jk,Zf,Ze,Zd];iterate 3 (refine Qy (by kernel_rfl) (fun z B=>by go_simp;try rfl) ?_;try simp only[Act.put,Za,Zc,Zb])
  iterate 1 (refine Qy (by kernel_rfl) (fun z B=>by(obtain⟨z0,z1⟩:=Q4 (B.blk (C1.o.blk U.o (fun h=>h)) (fun h=>h)));go_simp;try rfl) ?_;try simp only[Act.put,Za,Zc,Zb])
  (refine Qy (by kernel_rfl) (fun z B=>by go_simp;try rfl) ?_;try simp only[Act.put,Za,Zc,Zb]);iterate 2 (refine Qy (by kernel_rfl) (fun z B=>by(obtain⟨z0,_⟩:=(show Xx z w.heap.size s from S1.o.aB B).cells;have lk:=LK.o z (C1.o.aA B));go_simp;try rfl) ?_;try simp only[Act.put,Za,Zc,Zb])
  iterate 3 (refine Qy (by kernel_rfl) (fun z B=>by go_simp;try rfl) ?_;try simp only[Act.put,Za,Zc,Zb])
  refine Yb ?_;go_wp2_with fail;refine⟨((Zg Qb w1).alloc _).drew,?_⟩;have ap:Qh (w1.alloc (.cells Z6 87)).drew w1.heap.size Z6 87:=(Qh.new _ _ _).drew;have D1:Qc Qb w1 (w1.alloc (.cells Z6 87)).drew:=((Zg Qb w1).alloc _).drew;generalize(w1.alloc (.cells Z6 87)).drew=W1 at ap D1⊢;obtain⟨W2,s2,bm,C2⟩:=Q0 (P:=prog) (vs:=P0 c) ap rfl (Sn c);have af:Qc Qb w1 W2:=D1.trans C2 (fun k e=>.inr (by omega));have I:=O af;have av:=O (C1.o.aA af);clear ap D1 bm C2 af;refine Yb ?_;go_wp2_with fail;refine⟨I.o,?_⟩;refine Km ?_;go_wp2_with fail;refine Ky ?_;clear s2;have bz:=(show Xx W2 w.heap.size s from S1.o.aB I.o).cells.2.1;go_wp2_with fail;refine Zz (HD.o W2 av.o) ?_;intro w3 c3;have R:=O (av.o.aA c3);have S3:=O ((S1.o.aB I.o).aB c3);clear c3 bz;obtain⟨b0,b1⟩:=Q4 (R.o.blk U.o (fun h=>h));have bb:=ay.o w3 R.o;by_cases hn:64≤n
  ·have bg:decide (64≤(n:Int))=true:=by simp;omega
   have E:=O (show h.aO s=4 by rw[HE.o,if_pos hn]);have u:=O (V.o w3 R.o (by rw[E.o];decide));clear hn HE q V;go_wp2_with fail;go_ret;exact⟨by rw[E.o];rfl,u.o⟩
  ·have bg:decide (64≤(n:Int))=false:=by simp;omega
   cases bw with
   |true=> have E:=O (show h.aO s=80 by rw[HE.o,if_neg hn,if_pos rfl]);have u:=O (V.o w3 R.o (by rw[E.o];decide));clear hn HE q V;go_wp2_with fail;go_ret;exact⟨by rw[E.o];rfl,u.o⟩
   |false=>
    by_cases hd:d=0;·have E:=O (show h.aO s=160 by rw[HE.o,if_neg hn,if_neg (by decide),if_pos hd]);have u:=O (V.o w3 R.o (by rw[E.o];decide));subst hd;clear hn HE q V;go_wp2_with fail;go_ret;exact⟨by rw[E.o];rfl,u.o⟩
    ·have E:=O (show h.aO s=0 by rw[HE.o,if_neg hn,if_neg (by decide),if_neg hd]);have b4:decide ((d:Int)=0)=false:=by simp;omega
     have b5:((d:Int)==0)=false:=by simp;omega
     obtain⟨k1,k2,k3,k4,k5⟩:=q.o E.o;obtain⟨w4,r4,c4,v,r5,az,bf,k6⟩:=k5 w3 R.o;have K:=O (Zt k1 (Zt k2 (Zt k3 k4)));have C4:=O c4;have aw:=O az;have ai:=O bf;have K6:=O k6;have S4:=O (c4.blk S3.o (fun e=>by
      have:=K.o.1;omega))
     have ag:=O (c4.blk (R.o.blk U.o (fun h=>h)) K.o.2.2.1);clear hn HE q V k1 k2 k3 k4 k5 k6 c4 az bf;go_wp2_with fail;clear b0 b1 bb;obtain⟨e0,e1⟩:=Q4 ((R.o.blk U.o (fun h=>h)).drew);obtain⟨g0,g1,g2,g3,g4,g5,g6,g7,g8,g9,bh,bi,bj,bk⟩:=(show Xx w3.drew w.heap.size s from S3.o.aB (Zg Qb w3).drew).cells;unfold P0 at r4;dsimp only at r4;refine Qj [(0,0),(0,1),(0,2),(0,3),(0,4),(0,5),(0,6),(0,7),(0,8),(2,9)] Zq (by kernel_rfl) (fun _ _ _ _ _ h=>h) ?_;simp only[Jk,Zf,Ze,Zd];iterate 9 (refine Jq (by kernel_rfl) (by go_simp;try rfl) ?_)
     clear e0 e1 g0 g1 g2 g3 g4 g5 g6 g7 g8 g9 bh bi bj bk;refine J7 ?_;go_wp2_with fail;refine Jo ?_;clear r4;go_wp2_with fail;obtain⟨e0,e1⟩:=Q4 ag.o.drew;obtain⟨_,g1,_⟩:=(show Xx w4.drew w.heap.size s from Xx.aB S4.o (Zg Qb w4).drew).cells;refine Qj [(0,0),(0,1),(0,2),(0,3),(0,4),(0,5),(0,6),(2,7)] Zq (by kernel_rfl) (fun _ _ _ _ _ h=>h) ?_;simp only[Jk,Zf,Ze,Zd];iterate 7 (refine Jq (by kernel_rfl) (by go_simp;try rfl) ?_)
     clear e0 e1 g1;refine J7 ?_;go_wp2_with fail;refine Jo ?_;clear r5;obtain⟨g0,_⟩:=(show Xx w4.drew w.heap.size s from Xx.aB S4.o (Zg Qb w4).drew).cells;go_wp2_with fail;refine(Qn7 (Q6.aB aw.o (Zg Qb w4).drew (fun _ _ h=>h)) (aj.o.imp fun h=>Int.le_of_lt h) (by have:=ab.o;omega) s.id).mono ?_;rintro e w5⟨i,fb,rfl,rfl,be⟩;have ax:=O be;clear be;go_wp2_with fail;clear g0;have NE:=O (fun k hk=>(ai.o k hk).2.1);obtain⟨g0,_⟩:=(show Xx w4.drew.drew w.heap.size s from Xx.aB S4.o (Zg Qb w4).drew.drew).cells;obtain⟨e0,e1⟩:=Q4 ag.o.drew.drew;refine Jp [(1,0),(1,1),(1,2),(1,3),(1,4),(1,5),(1,6),(1,7),(0,8),(0,9),(2,10),(2,11),(3,12)] (fun z=>Qc (fun k=>v.ownBlock=some k) (w4) z) Zq (by kernel_rfl) (fun _ _ _ _ _ h=>h) (Zj (Zj (Zg _ _))) ?_;simp only[Jk,Zf,Ze,Zd];iterate 3 (refine Qy (by kernel_rfl) (fun z B=>by go_simp;try rfl) ?_;try simp only[Act.put,Za,Zc,Zb])
     iterate 1 (refine Qy (by kernel_rfl) (fun z B=>by(obtain⟨z0,z1⟩:=Q4 (B.blk ag.o (fun h=>NE.o _ h rfl)));go_simp;try rfl) ?_;try simp only[Act.put,Za,Zc,Zb])
     (refine Qy (by kernel_rfl) (fun z B=>by go_simp;try rfl) ?_;try simp only[Act.put,Za,Zc,Zb]);iterate 1 (refine Qy (by kernel_rfl) (fun z B=>by(obtain⟨_,z1,_⟩:=(show Xx z w.heap.size s from B.blk S4.o (fun h=>by have:=(ai.o _ h).1;omega)).cells);go_simp;try rfl) ?_;try simp only[Act.put,Za,Zc,Zb])
     iterate 2 (refine Qy (by kernel_rfl) (fun z B=>by go_simp;try rfl) ?_;try simp only[Act.put,Za,Zc,Zb])
     iterate 2 (refine Xe (by kernel_rfl) (by go_simp;try rfl) ?_)
     clear e0 e1 g0;refine Yb ?_;go_wp2_with fail;refine⟨(Zg _ w4).drew.drew.alloc _,?_⟩;have hV:Qh ((w4.alloc (.cells #[.int .i64 s.id] 3)).drew.drew) w4.heap.size #[.int .i64 s.id] 3:=(Qh.new _ _ _).drew.drew;have aq:Qc Qb w4 ((w4.alloc (.cells #[.int .i64 s.id] 3)).drew.drew):=((Zg _ w4).alloc _).drew.drew;generalize(w4.alloc (.cells #[.int .i64 s.id] 3)).drew.drew=w5 at hV aq⊢;have ah:=O aq;have HV:=O hV;clear hV aq;refine Yb ?_;go_wp2_with fail;refine(Qkn (Q6.aB aw.o ah.o (fun _ _ h=>h)) (by have:=ab.o;omega) i ax.o.len s.id HV.o (fun k hk e=>by
      have h1:=(ai.o k hk).1;have h2:=R.o.size;have h3:=C4.o.size;omega)).mono ?_
     rintro e w6⟨v',rfl,ba,c6,ho⟩;obtain⟨w7,r7,ae,ac⟩:=K6.o i w5 w6 v' ax.o ah.o c6 ba ho;have u:=O (Zt ae ac);have C6:=O (ah.o.none.aA c6);clear ba c6 ho ae ac;go_wp2_with fail;refine⟨C6.o,?_⟩;refine Km ?_;go_wp2_with fail;refine Ky ?_;clear r7;go_wp2;go_ret;exact⟨by rw[E.o];rfl,u.o⟩
 ·have Z:h.aO s=130:=by rw[Am,if_pos hm]
  have hd:decide (s.mayE=0)=false:=by simpa using hm
  have b6:(s.mayE==0)=false:=by simpa using hm
  rw[Z];rw[Z]at V;unfold Fb ptr at*;clear hh ok Z hm;go_enter func68,ntmps68;go_wp2_with fail;rw[←hW]at a0 a1 a2 a3 a4 a5 a6 a7 a8 a9 ak al am an⊢;clear hW;refine Zy HN ?_;rintro w1 rfl;go_wp2_with fail;refine Zz (J.o _) ?_;intro w1 c1;have u:=O (V.o w1 (C0.o.aA c1) (by decide));clear c1;go_wp2_with fail;go_ret;exact⟨rfl,u.o⟩
end
theorem Wi:prog.eqGuardType prog.depth 38=false:=by kernel_rfl
theorem Qja:prog.stoodInHeld 38=false:=by kernel_rfl
section
attribute [local go_sem] Wi Qja
@[irreducible]def Qr5(c d k q u z B E I s1 s2 s3 J K R U V Z:Int):Bool:=!(c==s1&&(d==s2&&(k==s3&&(q==J&&(u==K&&(z==R&&(B==U&&(E==V&&I==Z))))))))
theorem Qlb{c d k q u z B E I s1 s2 s3 J K R U V Z:Int}(h:Qr5 c d k q u z B E I s1 s2 s3 J K R U V Z=false):c=s1∧d=s2∧k=s3∧q=J∧u=K∧z=R∧B=U∧E=V∧I=Z:=by unfold Qr5 at h;simpa using h
theorem Qma(i p k t d J K R U V Z r7 r8 r9 s1 s2 s3 s4 s5 s6 s7 s8 s9:Int)(b:Bool)(w):
  (binOp .neq 87 (.agg #[.int .i64 i,.int .i64 p,.bool b,.int .u64 J,.int .u64 K,.int .u64 R,.int .u64 U,.int .u64 V,.int .u64 Z,.int .u64 r7,.int .u64 r8,.int .u64 r9,.int .i64 k,.int .i64 t,.int .i64 d]) (.agg #[.int .i64 i,.int .i64 p,.bool b,.int .u64 s1,.int .u64 s2,.int .u64 s3,.int .u64 s4,.int .u64 s5,.int .u64 s6,.int .u64 s7,.int .u64 s8,.int .u64 s9,.int .i64 k,.int .i64 t,.int .i64 d])).run prog w=
   .ok (.bool (Qr5 J K R U V Z r7 r8 r9 s1 s2 s3 s4 s5 s6 s7 s8 s9)) w:=by
 unfold Qr5;go_simp;by_cases h1:J=s1;case neg=>simp[h1]
 by_cases c:K=s2;case neg=>simp[h1,c]
 by_cases q:R=s3;case neg=>simp[h1,c,q]
 by_cases u:U=s4;case neg=>simp[h1,c,q,u]
 by_cases z:V=s5;case neg=>simp[h1,c,q,u,z]
 by_cases B:Z=s6;case neg=>simp[h1,c,q,u,z,B]
 by_cases E:r7=s7;case neg=>simp[h1,c,q,u,z,B,E]
 by_cases I:r8=s8;case neg=>simp[h1,c,q,u,z,B,E,I]
 by_cases h9:r9=s9;case neg=>simp[h1,c,q,u,z,B,E,I,h9]
 simp[h1,c,q,u,z,B,E,I,h9]
end
def Qc0(a b:Jy):Bool:=(a.f:Int)==(b.f:Int)&&((a.l:Int)==(b.l:Int)&&(a.r:Int)==(b.r:Int))
theorem Tx{a b:Jy}(h:Qc0 a b=true):a=b:=by obtain⟨a1,c,d⟩:=a;obtain⟨b1,b2,k⟩:=b;unfold Qc0 at h;simp only[Zw,beq_iff_eq]at h;obtain⟨h1,q,u⟩:=h;congr 1<;>omega
def Qfo(a s:Yk):Bool:=Qc0 a.real s.real&&(Qc0 a.share s.share&&Qc0 a.aN s.aN)
theorem Qiy{a s:Yk}(h:Qfo a s=true):a.aK s=a:=by unfold Qfo at h;simp only[Zw]at h;obtain⟨h1,c,d⟩:=h;unfold Yk.aK;rw[←Tx h1,←Tx c,←Tx d]
section
variable{w:World}{F:Fp}{b:Nat}{h:Qm}
theorem Fq{s:Yk}(h0:h.aG s≠0):h.change s=h:=by unfold Qm.change;rw[if_neg h0]
theorem Qgt{s:Yk}{c:Vm}(ok:J8 h)(hc:h.at s.id=some c)(d:Qfo c.sp s=true):h.change s=h:=by
 unfold Qm.change;split
 ·have:∀x∈h,(if x.sp.id=s.id then(⟨x.sp.aK s,x.d⟩:Vm)else x)=x:=fun x k=>by
   split;·rename_i e;have h1:=Da ok.sorted k;rw[e,hc]at h1;obtain rfl:=Zs h1;rw[Qiy d]
   ·rfl
  calc h.map (fun x=>if x.sp.id=s.id then(⟨x.sp.aK s,x.d⟩:Vm)else x)=h.map id:=List.map_congr_left this
   _=h:=List.map_id h
 ·rfl
theorem Qp9{l:List Vm}{c:Vm}(i:Int)(hn:(l.map Vm.id).Nodup)(q:∃x∈l,x.sp.id=c.sp.id):Oi c.sp.id (.agg (P0 c)) (Us l)=Us (l.map fun x=>if x.sp.id=c.sp.id then c else x):=by
 induction l with
 |nil=>obtain⟨x,d,_⟩:=q;cases d
 |cons y l z=>
  simp only[List.map_cons,List.nodup_cons]at hn;show Oi c.sp.id (.agg (P0 c)) ((y.sp.id,.agg (P0 y))::Us l)=_;rw[Oi];by_cases e:y.sp.id=c.sp.id
  ·rw[if_pos e.symm];have:l.map (fun x=>if x.sp.id=c.sp.id then c else x)=l:=by
    have:∀x∈l,(if x.sp.id=c.sp.id then c else x)=x:=fun x d=>if_neg fun k=>hn.1 (Z3.2 ⟨x,d,k.trans e.symm⟩)
    calc l.map (fun x=>if x.sp.id=c.sp.id then c else x)=l.map id:=List.map_congr_left this
     _=l:=List.map_id l
   rw[List.map_cons,this,if_pos e];rfl
  ·rw[if_neg (fun u=>e u.symm),List.map_cons,if_neg e,z hn.2 (by
    obtain⟨x,d,k⟩:=q;rcases Zu.1 d with rfl|d;·exact absurd k e
    ·exact⟨x,d,k⟩)]
   rfl
theorem Qev(hh:Q9 w F b h){s:Yk}(h0:h.aG s=0){c:Vm}(hc:h.at s.id=some c):
  ∃ma mu,Qh w b #[.map (some ma),.map (some mu)] 92∧∀w3,Qc Qb w w3→
   ∃w4,(Instr.mapUpdate 89 (.map (some ma)) (.int .i64 s.id) (.agg (P0 ⟨c.sp.aK s,c.d⟩))).run prog w3=.ok () w4∧Q9 w4 (Qn F w w4) b (h.change s)∧Qc F w w4:=by
 obtain⟨ma,mu,l,vs,G,hp,hn,R,U,B,fb,fm,fG,ac,aa,ae,ab,J⟩:=hh.opn;refine⟨ma,mu,R,fun w3 q=>?_⟩;obtain⟨w4,r4,z,u⟩:=X6 (P:=prog) (U.aB q (fun h=>h)) underlying89 underlying3 s.id (.agg (P0 ⟨c.sp.aK s,c.d⟩));refine⟨w4,r4,?_⟩;obtain⟨Z,E⟩:=Qm.aE hc;have V:=((B.aB q (Jl.none G)).aB u (fun k d e=>aa (e▸d))).same (h':=h.change s) (fun i=>by
  unfold Qm.change;rw[if_pos h0];exact Ik h s i)
 have cA:Qc (fun k=>k=ma∨G k) w w4:=q.none.aA (u.mono fun k d=>.inl (.inl d));have I:c∈l:=hp.mem_iff.2 Z;have K:Bd G w:=B.bd;refine J w4 (l.map fun x=>if x.sp.id=s.id then⟨x.sp.aK s,x.d⟩else x) vs _ ?_ ?_ ((Y7.good mu vs _).more V (fun k d=>.inl d) (fun k d=>d.elim (fun d=>Nat.lt_of_lt_of_le (K k d) cA.size) (fun d=>d.2))) cA;·unfold Qm.change;rw[if_pos h0];exact hp.map _
 ·have e1:s.id=(⟨c.sp.aK s,c.d⟩:Vm).sp.id:=E.symm;have e2:=Qp9 (c:=⟨c.sp.aK s,c.d⟩) s.id hn ⟨c,I,rfl⟩;rw[←e1]at e2;rw[e2]at z;have e3:(l.map fun x=>if x.sp.id=s.id then(⟨c.sp.aK s,c.d⟩:Vm)else x)=l.map fun x=>if x.sp.id=s.id then⟨x.sp.aK s,x.d⟩else x:=by
   refine List.map_congr_left fun x hx=>?_;split
   ·rename_i e;have:x=c:=by have h1:=Ls (key:=Vm.id) hn hx e;have h2:=Ls (key:=Vm.id) hn I E;exact Zs (h1.symm.trans h2)
    rw[this]
   ·rfl
  rw[←e3];exact z
end
end
section
attribute [local go_sem] Qp
attribute [local go_sem ↓] Qma
attribute [local irreducible] Kl J9 Xo
section
variable{w:World}{F:Fp}{b:Nat}{h:Qm}
theorem Qda(h:Qm){i:Int}{c:Vm}(hc:h.at i=some c):h.get i=c:=by unfold Qm.get;rw[hc];rfl
theorem Qe1(hh:Q9 w F b h)(ok:J8 h)(s:Yk):
  Cl 108 #[ptr b,Fb s] w fun e w'=>e=.returned (.int .i64 (h.aG s))∧Q9 w' (Qn F w w') b (h.change s)∧Qc F w w':=by
 have av:=O (fun w'(c:Qc Qb w w')=>Q9.obj.aB hh c (Jl.none F));have NO:Hi (∀w',Qc Qb w w'→h.aG s≠0→Q9 w' (Qn F w w') b (h.change s)∧Qc F w w'):=O (fun w' c h0=>by rw[Fq h0];exact Q9.obj.same hh c);have K:Hi (∀w',Qc Qb w w'→h.change s=h→Q9 w' (Qn F w w') b (h.change s)∧Qc F w w'):=O (fun w' c h0=>by rw[h0];exact Q9.obj.same hh c);obtain⟨W,hW⟩:=Zx (w.alloc (.cells (Z4 s.leaf s) 40));have S0:Hi (Xx W w.heap.size s):=O (by rw[hW];exact Xx.new w s);have C0:Hi (Qc Qb w W):=O (by rw[hW];exact(Zg _ _).alloc _);have a7:=O (show w.heap.size<W.heap.size from Qh.lt S0.o);have HN:=O (Gz (av.o W C0.o));obtain⟨ma,mu,l,vs,G,hp,hn,aj,ak,ax,fb,fm,fG,a0,a1,a2,ay,_⟩:=hh.opn;have ai:=O aj;have LK:=O (fun(w')(cc:Qc Qb w w')=>show(Instr.lookup 89 (.map (some ma)) (.int .i64 s.id) true).run prog w'=.ok (.tuple #[.agg (P0 (h.get s.id)),.bool (h.at s.id).isSome]) w' by
  have hL:=Dj (P:=prog) (ak.aB cc (fun h=>h)) underlying89 underlying3 (Sf w') s.id;rw[Ed s.id l hn,←Qm.at_perm hp hn]at hL;rw[hL];unfold Qm.get;cases h.at s.id<;>rfl)
 have aq:=O (fun(w')(cc:Qc Qb w w')(c:Vm)(hc:h.at s.id=some c)=>show(Instr.lookup 89 (.map (some ma)) (.int .i64 s.id) false).run prog w'=.ok (.agg (P0 c)) w' by
  have hL:=Du (P:=prog) (ak.aB cc (fun h=>h)) underlying89 underlying3 (Sf w') s.id;rw[Ed s.id l hn,←Qm.at_perm hp hn,hc]at hL;exact hL)
 cases hc:h.at s.id with
 |none=>
  have E:=O (show h.aG s=81 by unfold Qm.aG;rw[hc]);have R:h.get s.id=Qto:=by unfold Qm.get;rw[hc];rfl
  rw[hc,R]at LK;obtain⟨c,az⟩:=Zx Qto;rw[←az]at LK;dsimp only[Option.isSome_none]at LK;unfold Fb ptr at*;clear hh ok aj ak ax hp hn fb fm fG a0 a1 a2 ay hc R az K aq;go_enter func108,ntmps108;go_wp2_with fail;rw[←hW];clear hW;refine Zy HN ?_;rintro w1 rfl;go_wp2_with fail;refine Jp [(1,0),(1,1),(1,2),(1,3),(1,4),(1,5),(1,6),(1,7),(1,8),(1,9),(2,10),(2,11),(3,12)] (fun I=>Qc (Qb) (W) I) Zq (by kernel_rfl) (fun _ _ _ _ _ h=>h) (Zj (Zg _ _)) ?_;simp only[Jk,Zf,Ze,Zd];iterate 3 (refine Qy (by kernel_rfl) (fun I J=>by go_simp;try rfl) ?_;try simp only[Act.put,Za,Zc,Zb])
  iterate 1 (refine Qy (by kernel_rfl) (fun I J=>by(obtain⟨z0,z1⟩:=Q4 (J.blk (C0.o.blk ai.o (fun h=>h)) (fun h=>h)));go_simp;try rfl) ?_;try simp only[Act.put,Za,Zc,Zb])
  (refine Qy (by kernel_rfl) (fun I J=>by go_simp;try rfl) ?_;try simp only[Act.put,Za,Zc,Zb]);iterate 2 (refine Qy (by kernel_rfl) (fun I J=>by(obtain⟨z0,_⟩:=(show Xx I w.heap.size s from S0.o.aB J).cells;have lk:=LK.o I (C0.o.aA J));go_simp;try rfl) ?_;try simp only[Act.put,Za,Zc,Zb])
  iterate 3 (refine Qy (by kernel_rfl) (fun I J=>by go_simp;try rfl) ?_;try simp only[Act.put,Za,Zc,Zb])
  refine Yb ?_;go_wp2_with fail;refine⟨((Zg Qb W).alloc _).drew,?_⟩;have Z:Qh (W.alloc (.cells Z6 87)).drew W.heap.size Z6 87:=(Qh.new _ _ _).drew;have D1:Qc Qb W (W.alloc (.cells Z6 87)).drew:=((Zg Qb W).alloc _).drew;generalize(W.alloc (.cells Z6 87)).drew=W1 at Z D1⊢;obtain⟨W2,s2,ah,C2⟩:=Q0 (P:=prog) (vs:=P0 c) Z rfl (Sn c);have U:Qc Qb W W2:=D1.trans C2 (fun k e=>.inr (by omega));have aa:=O U;have ae:=O ah;have ao:=O (C0.o.aA U);clear Z D1 ah C2 U;refine Yb ?_;go_wp2_with fail;refine⟨aa.o,?_⟩;refine Km ?_;go_wp2_with fail;refine Ky ?_;clear s2;have V:=O (NO.o W2 ao.o (by rw[E.o];decide));clear NO;go_wp2_with fail;go_ret;exact⟨by rw[E.o];rfl,V.o⟩
 |some c=>
  have R:h.get s.id=c:=Qda h hc;rw[hc,R]at LK;dsimp only[Option.isSome_some]at LK;have a6:=O (fun w' cc=>aq.o w' cc c hc);have aw:h.aG s=if(c.sp.aK s).mayE≠0 then 130 else 0:=by unfold Qm.aG;rw[hc]
  have EE:=O aw;have a5:=O (Qgt ok hc);have ab:Hi (h.aG s=0→∀w3,Qc Qb w w3→∃w4,(Instr.mapUpdate 89 (.map (some ma)) (.int .i64 s.id) (.agg (P0 ⟨c.sp.aK s,c.d⟩))).run prog w3=.ok () w4∧Q9 w4 (Qn F w w4) b (h.change s)∧Qc F w w4):=O (fun h0=>by
   obtain⟨bg,bl,be,k⟩:=Qev hh h0 hc;have e:=aj.inj be;injection e with e;injection e with e1 _;injection e1 with e1;have e1:ma=bg:=Zs e1;subst e1;exact k)
  have al:=O (fun w=>Qef (c.sp.aK s) w);unfold Fb ptr at*;clear hh ok aj ak ax hp hn fb fm fG a0 a1 a2 ay hc R aq aw;go_enter func108,ntmps108;go_wp2_with fail;rw[←hW];clear hW;refine Zy HN ?_;rintro w1 rfl;go_wp2_with fail;refine Jp [(1,0),(1,1),(1,2),(1,3),(1,4),(1,5),(1,6),(1,7),(1,8),(1,9),(2,10),(2,11),(3,12)] (fun I=>Qc (Qb) (W) I) Zq (by kernel_rfl) (fun _ _ _ _ _ h=>h) (Zj (Zg _ _)) ?_;simp only[Jk,Zf,Ze,Zd];iterate 3 (refine Qy (by kernel_rfl) (fun I J=>by go_simp;try rfl) ?_;try simp only[Act.put,Za,Zc,Zb])
  iterate 1 (refine Qy (by kernel_rfl) (fun I J=>by(obtain⟨z0,z1⟩:=Q4 (J.blk (C0.o.blk ai.o (fun h=>h)) (fun h=>h)));go_simp;try rfl) ?_;try simp only[Act.put,Za,Zc,Zb])
  (refine Qy (by kernel_rfl) (fun I J=>by go_simp;try rfl) ?_;try simp only[Act.put,Za,Zc,Zb]);iterate 2 (refine Qy (by kernel_rfl) (fun I J=>by(obtain⟨z0,_⟩:=(show Xx I w.heap.size s from S0.o.aB J).cells;have lk:=LK.o I (C0.o.aA J));go_simp;try rfl) ?_;try simp only[Act.put,Za,Zc,Zb])
  iterate 3 (refine Qy (by kernel_rfl) (fun I J=>by go_simp;try rfl) ?_;try simp only[Act.put,Za,Zc,Zb])
  refine Yb ?_;go_wp2_with fail;refine⟨((Zg Qb W).alloc _).drew,?_⟩;have Z:Qh (W.alloc (.cells Z6 87)).drew W.heap.size Z6 87:=(Qh.new _ _ _).drew;have D1:Qc Qb W (W.alloc (.cells Z6 87)).drew:=((Zg Qb W).alloc _).drew;generalize(W.alloc (.cells Z6 87)).drew=W1 at Z D1⊢;obtain⟨W2,s2,ah,C2⟩:=Q0 (P:=prog) (vs:=P0 c) Z rfl (Sn c);have U:Qc Qb W W2:=D1.trans C2 (fun k e=>.inr (by omega));have aa:=O U;have ae:=O ah;have ao:=O (C0.o.aA U);clear Z D1 ah C2 U;refine Yb ?_;go_wp2_with fail;refine⟨aa.o,?_⟩;refine Km ?_;go_wp2_with fail;refine Ky ?_;clear s2;go_wp2_with fail;have S2:=O (S0.o.aB aa.o);obtain⟨g0,g1,g2,g3,g4,g5,g6,g7,g8,g9,ba,bb,bc,bd⟩:=(show Xx W2.drew w.heap.size s from S2.o.aB (Zg Qb W2).drew).cells;have NE:=O (show w.heap.size≠W.heap.size from fun e=>by have:=a7.o;omega);refine Jp [(0,0),(0,1),(1,2),(1,3),(1,4),(1,5),(0,6),(0,7),(2,8),(0,9),(0,10),(2,11),(0,12),(0,13),(3,14)] (fun I=>Qc (fun k=>k=W.heap.size) (W2) I) Zq (by kernel_rfl) (fun _ _ _ _ _ h=>h) (Zj (Zg _ _)) ?_;simp only[Jk,Zf,Ze,Zd];iterate 2 (refine Xe (by kernel_rfl) (by go_simp;try rfl) ?_)
  (refine Qy (by kernel_rfl) (fun I J=>by go_simp;try rfl) ?_;try simp only[Act.put,Za,Zc,Zb]);iterate 1 (refine Qy (by kernel_rfl) (fun I J=>by(obtain⟨z0,z1,z2,z3,z4,z5,z6,z7,z8,z9,bh,bi,bj,bk⟩:=(show Xx I w.heap.size s from J.blk S2.o NE.o).cells);go_simp;try rfl) ?_;try simp only[Act.put,Za,Zc,Zb])
  (refine Qy (by kernel_rfl) (fun I J=>by go_simp;try rfl) ?_;try simp only[Act.put,Za,Zc,Zb]);iterate 1 (refine Qy (by kernel_rfl) (fun I J=>by(obtain⟨z0,z1,z2,z3,z4,z5,z6,z7,z8,z9,bh,bi,bj,bk⟩:=(show Xx I w.heap.size s from J.blk S2.o NE.o).cells);go_simp;try rfl) ?_;try simp only[Act.put,Za,Zc,Zb])
  iterate 2 (refine Xe (by kernel_rfl) (by go_simp;try rfl) ?_)
  clear g0 g1 g2 g3 g4 g5 g6 g7 g8 g9 ba bb bc bd;obtain⟨e0,e1,e2,e3,e4,e5,e6,e7,e8,e9,d,q,u,z,B⟩:=Dm ae.o;have f3:=ae.o.frozen 3;have f4:=ae.o.frozen 4;have f5:=ae.o.frozen 5;refine Yb ?_;go_wp2_with fail;have B3:Qh (((W2.setCell ⟨W.heap.size,3,none⟩ (.int .u64 s.real.f)).setCell ⟨W.heap.size,4,none⟩ (.int .u64 s.real.l)).setCell ⟨W.heap.size,5,none⟩ (.int .u64 s.real.r)).drew W.heap.size (P0 ⟨{c.sp with real:=s.real},c.d⟩) 87:=(((ae.o.set 3 _).set 4 _).set 5 _).drew;have D3:Qc (fun k=>k=W.heap.size) W2 (((W2.setCell ⟨W.heap.size,3,none⟩ (.int .u64 s.real.f)).setCell ⟨W.heap.size,4,none⟩ (.int .u64 s.real.l)).setCell ⟨W.heap.size,5,none⟩ (.int .u64 s.real.r)).drew:=((((Zg (fun k=>k=W.heap.size) W2).setCell _ (.inl rfl)).setCell _ (.inl rfl)).setCell _ (.inl rfl)).drew;refine⟨D3,?_⟩;generalize(((W2.setCell ⟨W.heap.size,3,none⟩ (.int .u64 s.real.f)).setCell ⟨W.heap.size,4,none⟩ (.int .u64 s.real.l)).setCell ⟨W.heap.size,5,none⟩ (.int .u64 s.real.r)).drew=W3 at B3 D3⊢;have af:=O B3;have D3:=O D3;clear B3 e0 e1 e2 e3 e4 e5 e6 e7 e8 e9 d q u z B f3 f4 f5;iterate 2 (refine Xe (by kernel_rfl) (by go_simp;try rfl) ?_)
  obtain⟨e0,e1,e2,e3,e4,e5,e6,e7,e8,e9,d,q,u,z,B⟩:=Dm af.o;have f6:=af.o.frozen 6;have f7:=af.o.frozen 7;have f8:=af.o.frozen 8;refine Yb ?_;go_wp2_with fail;have B4:Qh (((W3.setCell ⟨W.heap.size,6,none⟩ (.int .u64 s.share.f)).setCell ⟨W.heap.size,7,none⟩ (.int .u64 s.share.l)).setCell ⟨W.heap.size,8,none⟩ (.int .u64 s.share.r)) W.heap.size (P0 ⟨{c.sp with real:=s.real,share:=s.share},c.d⟩) 87:=(((af.o.set 6 _).set 7 _).set 8 _);have D4:Qc (fun k=>k=W.heap.size) W2 (((W3.setCell ⟨W.heap.size,6,none⟩ (.int .u64 s.share.f)).setCell ⟨W.heap.size,7,none⟩ (.int .u64 s.share.l)).setCell ⟨W.heap.size,8,none⟩ (.int .u64 s.share.r)):=((((D3.o).setCell _ (.inl rfl)).setCell _ (.inl rfl)).setCell _ (.inl rfl));refine⟨D4,?_⟩;generalize(((W3.setCell ⟨W.heap.size,6,none⟩ (.int .u64 s.share.f)).setCell ⟨W.heap.size,7,none⟩ (.int .u64 s.share.l)).setCell ⟨W.heap.size,8,none⟩ (.int .u64 s.share.r))=W4 at B4 D4⊢;have ag:=O B4;have D4:=O D4;clear B4 e0 e1 e2 e3 e4 e5 e6 e7 e8 e9 d q u z B f6 f7 f8;iterate 2 (refine Xe (by kernel_rfl) (by go_simp;try rfl) ?_)
  obtain⟨e0,e1,e2,e3,e4,e5,e6,e7,e8,e9,d,q,u,z,B⟩:=Dm ag.o;have f9:=ag.o.frozen 9;have a8:=ag.o.frozen 10;have a9:=ag.o.frozen 11;refine Km ?_;go_wp2_with fail;have B5:Qh (((W4.setCell ⟨W.heap.size,9,none⟩ (.int .u64 s.aN.f)).setCell ⟨W.heap.size,10,none⟩ (.int .u64 s.aN.l)).setCell ⟨W.heap.size,11,none⟩ (.int .u64 s.aN.r)) W.heap.size (P0 ⟨c.sp.aK s,c.d⟩) 87:=(((ag.o.set 9 _).set 10 _).set 11 _);have D5:Qc (fun k=>k=W.heap.size) W2 (((W4.setCell ⟨W.heap.size,9,none⟩ (.int .u64 s.aN.f)).setCell ⟨W.heap.size,10,none⟩ (.int .u64 s.aN.l)).setCell ⟨W.heap.size,11,none⟩ (.int .u64 s.aN.r)):=((((D4.o).setCell _ (.inl rfl)).setCell _ (.inl rfl)).setCell _ (.inl rfl));generalize(((W4.setCell ⟨W.heap.size,9,none⟩ (.int .u64 s.aN.f)).setCell ⟨W.heap.size,10,none⟩ (.int .u64 s.aN.l)).setCell ⟨W.heap.size,11,none⟩ (.int .u64 s.aN.r))=W5 at B5 D5⊢;have ap:=O B5;have D5:=O D5;clear B5 e0 e1 e2 e3 e4 e5 e6 e7 e8 e9 d q u z B f9 a8 a9;refine Ky ?_;obtain⟨r,hr⟩:=Zx (c.sp.aK s);have HR:=O hr;have a3:=O (ao.o.trans D5.o fun k e=>.inr (by have:=C0.o.size;omega));rw[←hr]at ap al EE;clear hr;obtain⟨e0,e1,e2,e3,e4,e5,e6,e7,e8,e9,d,q,u,z,B⟩:=Dm ap.o;dsimp only at e0 e1 e2 e3 e4 e5 e6 e7 e8 e9 d q u z B;go_wp2_with fail;refine Zz (al.o _) ?_;intro w6 c6;have ac:=O (a3.o.aA c6);have a4:=O (c6.blk ap.o (fun h=>h));have S6:=O (c6.blk (D5.o.blk S2.o NE.o) (fun h=>h));clear c6 e0 e1 e2 e3 e4 e5 e6 e7 e8 e9 d q u z B;by_cases hm:r.mayE=0
  ·have E:=O (show h.aG s=0 by rw[EE.o,if_neg (by omega)]);have hd:decide (r.mayE=0)=true:=by simpa using hm
   have ar:(r.mayE==0)=true:=by simpa using hm
   rw[hm]at hd ar⊢;clear hm hd ar;go_wp2_with fail;have au:=O (show Qh w6.drew W.heap.size (P0 ⟨c.sp.aK s,c.d⟩) 87 by rw[←HR.o];exact a4.o.drew);obtain⟨e0,e1,e2,e3,e4,e5,e6,e7,e8,e9,d,q,u,z,B⟩:=Dm au.o;dsimp only[Yk.aK]at e0 e1 e2 e3 e4 e5 e6 e7 e8 e9 d q u z B;obtain⟨g0,_⟩:=(show Xx w6.drew w.heap.size s from Xx.aB S6.o (Zg Qb w6).drew).cells;obtain⟨z0,z1⟩:=Q4 ((ac.o.blk ai.o (fun h=>h)).drew);have lk:=a6.o w6.drew ac.o.drew;unfold P0 at lk;refine Qj [(0,0),(0,1),(0,2),(0,3),(0,4),(0,5),(0,6),(0,7),(0,8)] Zq (by kernel_rfl) (fun _ _ _ _ _ h=>h) ?_;simp only[Jk,Zf,Ze,Zd];iterate 9 (refine Jq (by kernel_rfl) (by go_simp;try rfl) ?_)
   clear e0 e1 e2 e3 e4 e5 e6 e7 e8 e9 d q u z B g0 z0 z1 lk;refine Jo ?_;simp only[Act.put,Za,Zc,Zb];cases bf:Qr5 (s.real.f:Int) (s.real.l:Int) (s.real.r:Int) (s.share.f:Int) (s.share.l:Int) (s.share.r:Int) (s.aN.f:Int) (s.aN.l:Int) (s.aN.r:Int) (c.sp.real.f:Int) (c.sp.real.l:Int) (c.sp.real.r:Int) (c.sp.share.f:Int) (c.sp.share.l:Int) (c.sp.share.r:Int) (c.sp.aN.f:Int) (c.sp.aN.l:Int) (c.sp.aN.r:Int)with
   |false=>
    have SM:=O (a5.o (by
     obtain⟨q1,q2,q3,q4,q5,q6,q7,q8,q9⟩:=Qlb bf;unfold Qfo Qc0;simp only[Zw,beq_iff_eq];exact⟨⟨q1.symm,q2.symm,q3.symm⟩,⟨q4.symm,q5.symm,q6.symm⟩,q7.symm,q8.symm,q9.symm⟩))
    have V:=O (K.o w6.drew ac.o.drew SM.o);clear NO K ab;go_wp2_with fail;go_ret;exact⟨by rw[E.o];rfl,V.o⟩
   |true=>
    obtain⟨w8,r8,an,am⟩:=ab.o E.o w6.drew.drew ac.o.drew.drew;have V:=O (Zt an am);unfold P0 at r8;dsimp only[Yk.aK]at r8;clear an am NO K ab;go_wp2_with fail;obtain⟨e0,e1,e2,e3,e4,e5,e6,e7,e8,e9,d,q,u,z,B⟩:=Dm au.o.drew;dsimp only[Yk.aK]at e0 e1 e2 e3 e4 e5 e6 e7 e8 e9 d q u z B;obtain⟨g0,_⟩:=(show Xx w6.drew.drew w.heap.size s from Xx.aB S6.o (Zg Qb w6).drew.drew).cells;obtain⟨z0,z1⟩:=Q4 ((ac.o.blk ai.o (fun h=>h)).drew.drew);refine Qj [(0,0),(0,1),(0,2),(0,3),(0,4),(0,5),(0,6),(2,7)] Zq (by kernel_rfl) (fun _ _ _ _ _ h=>h) ?_;simp only[Jk,Zf,Ze,Zd];iterate 7 (refine Jq (by kernel_rfl) (by go_simp;try rfl) ?_)
    clear e0 e1 e2 e3 e4 e5 e6 e7 e8 e9 d q u z B g0 z0 z1;refine J7 ?_;go_wp2_with fail;refine Jo ?_;clear r8;go_wp2;go_ret;exact⟨by rw[E.o];rfl,V.o⟩
  ·have E:=O (show h.aG s=130 by rw[EE.o,if_pos hm]);have hd:decide (r.mayE=0)=false:=by simpa using hm
   have ar:(r.mayE==0)=false:=by simpa using hm
   have V:=O (NO.o w6 ac.o (by rw[E.o];decide));clear hm NO K ab;go_wp2_with fail;go_ret;exact⟨by rw[E.o];rfl,V.o⟩
end
end
section
attribute [local go_sem] Qp
attribute [local irreducible] Kl J9 Xo
section
variable{A:Tb}{w w1 w2:World}{F:Fp}{b a:Nat}{s:Qf}{N:Nat}{l:Qw}
theorem Yj.owe(h:Yj w F a l):∃qb dv,Qh w a #[ptr qb,dv] 85∧∀w1 w2 q o,Qc Qb w w1→Kv w1 (Qn Qb w w1) q o→Qh w2 a #[ptr qb,q] 85→Qc (fun k=>k=a) w1 w2→Yj w2 (Qn F w w2) a {l with debt:=o}∧Qc F w w2:=by
 obtain⟨qb,dv,h⟩:=h;obtain⟨z,G0,R0,I,⟨aa,B,R1,g1,_,d1,s2,s3⟩,d0,s0,s1⟩:=h;have V:¬B a:=fun c=>d0 a I.2.1 (s2 _ c);have R:∀k,B k→F k:=fun k c=>s1 _ (s2 _ c);have J:F a:=s0 _ I.2.1;have E:Bd B w:=z.sub R;refine⟨qb,dv,I.1,fun w1 w2 q o u hd U d=>?_⟩;have K:Qc F w w2:=(u.none (F:=F)).aA (d.sub fun k e=>e▸J);have ab:=u.size;have ac:=d.size;have Z:=z _ J;refine⟨⟨qb,q,?_⟩,K⟩;refine Q7 (G:=fun k=>k=a) (H:=fun k=>B k∨Qn Qb w w1 k) ⟨U,rfl,fun k e=>e▸U.lt⟩ ?_ ?_ (fun k e=>.inl (e▸J)) ?_ (z.ext K)
 ·refine Q7 (G:=B) (H:=Qn Qb w w1) ((Lm qb l.pk l.bt l.q).aB ((Lm qb l.pk l.bt l.q).aB g1 u (Jl.none _)) d (fun k c e=>V (e▸c))) (Y6 ((Kv.good q o).aB hd d (fun k c e=>by have:=(Qr k).1 c;omega)) (fun k c=>by have:=(Qr k).1 c;omega)) ?_ (fun k c=>.inl c) (fun k c=>.inr c) ?_;·intro k c he;have:=E k c;have:=(Qr k).1 he;omega
  ·exact fun k c=>c.elim (E.later u |>.later d k) (fun c=>by have:=(Qr k).1 c;omega)
 ·rintro k rfl(c|c);·exact V c
  ·have:=(Qr k).1 c;omega
 ·exact fun k c=>c.elim (fun c=>.inl (R k c)) (fun c=>.inr (by have:=(Qr k).1 c;omega))
theorem Qfr(hn:(s.aI.map Qw.id).Nodup){i:Int}{l:Qw}(hl:s.leaf i=some l)(o:Option Ju):
  s.setLeaf {l with debt:=o}={s with aI:=s.aI.map fun x=>if x.id=i then{x with debt:=o}else x}:=by
 have d:Hn Qw.id i s.aI=some l:=hl;obtain⟨q,hi⟩:=Y3 d;unfold Qf.setLeaf;congr 1;refine List.map_congr_left fun x k=>?_;dsimp only;rw[hi];by_cases c:x.id=i;·rw[if_pos c,if_pos c];rw[Zs ((Ls hn k c).symm.trans d),hi]
 ·rw[if_neg c,if_neg c]
theorem Qh7{i:Int}(hl:s.leaf i=none)(o:Option Ju):(s.aI.map fun x=>if x.id=i then{x with debt:=o}else x)=s.aI:=by
 unfold Qf.leaf at hl;rw[List.find?_eq_none]at hl
 conv=>rhs;rw[←List.map_id s.aI]
 refine List.map_congr_left fun x c=>?_;have:=hl x c;rw[if_neg (by simpa using this)];rfl
end
def Tb.put(A:Tb)(i:Int)(q:Nat):Tb:={A with ad:=fun j=>if j=i then q else A.ad j}
section
variable{A:Tb}{w w1 w2:World}{F:Fp}{b:Nat}{s:Qf}{N:Nat}
theorem Qi.newLeaf(h:Qi A w F b s){l:Qw}{q:Nat}(hn:s.leaf l.id=none)(c:Qc Qb w w1)(hl:Yj w1 (Qn Qb w w1) q l):
  ∃w2,(Instr.mapUpdate 75 (.map (some A.m)) (.int .i64 l.id) (ptr q)).run prog w1=.ok () w2∧Qi (A.put l.id q) w2 (Qn F w w2) b {s with aI:=s.aI++[l]}∧Qc F w w2:=by
 have R:=(Qi.obj A).bd h;obtain⟨L,Z,hs⟩:=h;obtain⟨G,z,V,_,B⟩:=Xv 2 (Ua A b L s) rfl hs;obtain⟨w2,E,U,d⟩:=X6 (P:=prog) (z.map.aB c (fun h=>h)) underlying75 underlying3 l.id (ptr q);have J:=z.aB Yj.obj c (Jl.none G);have K:=J.put Yj.obj hl (fun k a b'=>by
  have h1:=((Qr k).1 a).1;have:=R k (V k b');omega) (by rw[←So Z z.nodup];exact hn) U d
 have I:Qc G w w2:=(c.none (F:=G)).aA (d.sub fun k u=>u▸z.at_);have h5:=B w2 (fun w G=>Yn Qw.id Yj w G A.m (A.put l.id q).ad (L++[l])) I
  (K.more (fun k u=>u.elim .inl (fun u=>.inr ⟨((Qr k).1 u).1,Nat.lt_of_lt_of_le ((Qr k).1 u).2 d.size⟩)) (z.bd.ext I))
 exact⟨w2,E,⟨L++[l],Z.append_right _,h5⟩,I.sub V⟩
theorem Yj.made{q qb r:Nat}{dv:Value}{l:Qw}{w3 w4}(E:Qc Qb w w1)(J:Jz w2 qb r l.pk l.bt l.q)(h1:w1.heap.size≤qb∧qb<w2.heap.size)(V:w1.heap.size≤r∧r<w2.heap.size)(z:Qc Qb w2 w3)(I:Kv w3 (Qn Qb w2 w3) dv l.debt)
  (u:Qc Qb w3 w4) (B:Qh w4 q #[ptr qb,dv] 85) (K:w3.heap.size≤q):Yj w4 (Qn Qb w w4) q l:=by
 have s1:=E.size;have s3:=z.size;have Z:=u.size;have U:=B.lt;have R:Jz w4 qb r l.pk l.bt l.q:=(J.aB z (fun h=>h) (fun h=>h)).aB u (fun h=>h) (fun h=>h);have d:Bd (Qn Qb w w4) w4:=fun k c=>((Qr k).1 c).2;refine⟨qb,dv,?_⟩;refine Q7 (G:=fun k=>k=q) (H:=fun k=>(k=qb∨k=r)∨Qn Qb w2 w3 k) ⟨B,rfl,fun k e=>e▸U⟩ ?_ ?_ (fun k e=>(Qr k).2 (by omega)) ?_ d
 ·refine Q7 (G:=fun k=>k=qb∨k=r) (H:=Qn Qb w2 w3) ⟨r,R,.inl rfl,.inr rfl,fun k e=>by rcases e with e|e<;>omega⟩ (Y6 ((Kv.good dv l.debt).aB I u (Jl.none _)) (fun k c=>by have:=(Qr k).1 c;omega)) ?_ (fun k c=>.inl c) (fun k c=>.inr c) ?_;·intro k e c;have:=(Qr k).1 c;rcases e with e|e<;>omega
  ·intro k c;rcases c with(e|e)|c;·omega
   ·omega
   ·have:=(Qr k).1 c;omega
 ·rintro k rfl((e|e)|c);·omega
  ·omega
  ·have:=(Qr k).1 c;omega
 ·intro k c;rcases c with(e|e)|c;·exact(Qr k).2 (by omega)
  ·exact(Qr k).2 (by omega)
  ·have:=(Qr k).1 c;exact(Qr k).2 (by omega)
end
section
variable{A:Tb}{w w1 w2:World}{F:Fp}{b:Nat}{s:Qf}{N:Nat}
theorem Kv.ptr{w}{F:Fp}{v:Value}{o:Option Ju}(h:Kv w F v o):∃c,v=.pointer c:=by
 cases o with
 |none=>exact⟨none,h.1⟩
 |some d=>obtain⟨b,rfl,_⟩:=h;exact⟨_,rfl⟩
theorem Cy(h:Qt w F b s)(ok:Xp N s)(c:Yk):
  Cl 27 #[ptr b,Fb c] w fun e w'=>e=.returned (.int .i64 (s.aO c))∧Qt w' (Qn F w w') b (s.add c)∧Qc F w w':=by
 obtain⟨A,h⟩:=h;have K:=(Qi.obj A).bd h;obtain⟨W,hW⟩:=Zx (w.alloc (.cells (Z4 c.leaf c) 40));have S0:Hi (Xx W w.heap.size c):=O (by rw[hW];exact Xx.new w c);have C0:Hi (Qc Qb w W):=O (by rw[hW];exact(Zg _ _).alloc _);have hP:=(Qi.obj A).aB h C0.o (Jl.none F);have HN:=O (Ku hP ok.most.1);have NF:=O (show¬F w.heap.size from fun hk=>by have:=K _ hk;omega);obtain⟨a0,a1,a2,a3,a4⟩:=Ym hP.drew.blk;obtain⟨g0,g1,g2,g3,g4,g5,g6,g7,g8,g9,I,J,d,k⟩:=(show Xx W.drew w.heap.size c from S0.o.aB (Zg Qb W).drew).cells;have z:Bd F W:=K.later C0.o;have R:Hi (∀w' t,Qt w' (Qn F W w') b t→Qc F W w'→Qt w' (Qn F w w') b t∧Qc F w w'):=O (fun w' t h1 h2=>by
  have cc:Qc F w w':=C0.o.none.aA h2;exact⟨Qt.obj.more h1 (Ke C0.o.size) (K.ext cc),cc⟩)
 have aw:=O (show w.heap.size<W.heap.size from Qh.lt S0.o);have HT:Hi (Cl 68 #[ptr A.tb,Fb c] W.drew fun e w'=>e=.returned (.int .i64 (s.aO c))∧Qi A w' (Qn F W w') b {s with tree:=s.tree.add c}∧Qc F W w'):=O (by
  obtain⟨G,hT,_,U⟩:=hP.drew.treeOf;refine Zz (Qor hT ok.tree c) ?_;rintro w2⟨a6,V⟩;obtain⟨m1,m2⟩:=U w2 _ a6 V;exact⟨rfl,m1,m2.undrew⟩)
 by_cases h0:s.aO c=0
 ·have Z:s.tree.aO c=0:=h0;obtain⟨q,hq,ar,a8,au,i1,_⟩:=ok.mt.add ok.tree Z;have may:=(Ub Z).1;have B:=ok.leaf_none (Ub Z).2.2.1;have ap:=(Md may).1;have ac:Hi (∀w2,Qi A w2 (Qn F W w2) b {s with tree:=s.tree.add c}→Qc F W w2→Cl 69 #[ptr A.pb,Fb c] w2.drew fun e w'=>e=.returned (.bool true)∧Qi A w' (Qn F W w') b {s with tree:=s.tree.add c,pick:=s.pick.put c}∧Qc F W w'∧Qc (Qn F W w2) w2 w'):=O (by
   intro w2 h2 V;obtain⟨G,⟨AP,a5⟩,_,U⟩:=h2.drew.pickOf;refine Zz (Qpl a5 c i1 au hq ar (by omega)) ?_;rintro w3⟨az,c3⟩;obtain⟨m1,m2⟩:=U w3 _ az c3;obtain⟨n1,n2⟩:=(Qi.obj A).two (w1:=w2) m1 z V m2.undrew;exact⟨rfl,n1,n2,m2.undrew⟩)
  have ag:=O (show c.leaf=false→s.add c={s with tree:=s.tree.add c,pick:=s.pick.put c}from fun hl=>by unfold Qf.add;rw[if_pos h0,hl];rfl);have aa:=O (show c.leaf=true→s.add c={s with tree:=s.tree.add c,pick:=s.pick.put c,aI:=s.aI++[⟨c.id,c.pk.toNat,c.bt.toNat,[],Xl c.real⟩]}from fun hl=>by unfold Qf.add;rw[if_pos h0,hl];rfl);have ab:=O (show c.leaf=true→∃pk bt:Nat,c.pk=(pk:Int)∧c.bt=(bt:Int)∧1≤pk∧pk≤4096∧1≤bt∧bt≤16777216 from fun hl=>by
   obtain⟨k1,k2,k3,k4⟩:=Qam may hl;exact⟨c.pk.toNat,c.bt.toNat,by omega,by omega,by omega,by omega,by omega,by omega⟩)
  have ae:Hi (∀w3 w4 w5 pk bt pv,Qi A w3 (Qn F W w3) b {s with tree:=s.tree.add c,pick:=s.pick.put c}→Qc F W w3→Jz w4 (w3.heap.size+1) w3.heap.size pk bt []→Qc Qb w3 w4→Kv w5 (Qn Qb w4 w5) (.pointer pv) (Xl c.real)→Qc Qb w4 w5→w3.heap.size+1<w4.heap.size→
    ∃w6,(Instr.mapUpdate 75 (.map (some A.m)) (.int .i64 c.id) (.pointer (some ⟨w5.heap.size,0,none⟩))).run prog (w5.alloc (.cells #[ptr (w3.heap.size+1),.pointer pv] 85))=.ok () w6∧
     Qt w6 (Qn F W w6) b {s with tree:=s.tree.add c,pick:=s.pick.put c,aI:=s.aI++[⟨c.id,pk,bt,[],Xl c.real⟩]}∧Qc F W w6):=O (by
   intro w3 w4 w5 pk bt pv h3 c3 hQ ax hD al Xg;have am:Qc Qb w5 (w5.alloc (.cells #[ptr (w3.heap.size+1),.pointer pv] 85)):=(Zg _ _).alloc _;have ay:Qh (w5.alloc (.cells #[ptr (w3.heap.size+1),.pointer pv] 85)) w5.heap.size #[ptr (w3.heap.size+1),.pointer pv] 85:=Qh.new _ _ _;generalize w5.alloc (.cells #[ptr (w3.heap.size+1),.pointer pv] 85)=be at*;have hL:=Yj.made (w:=w3) (w1:=w3) (l:=⟨c.id,pk,bt,[],Xl c.real⟩) (Zg _ _) hQ ⟨by omega,Xg⟩ ⟨by omega,by omega⟩ al hD am ay (Zv _);obtain⟨w6,r6,h6,c6⟩:=h3.newLeaf (l:=⟨c.id,pk,bt,[],Xl c.real⟩) B ((ax.aA al).aA am) hL;obtain⟨n1,n2⟩:=(Qi.obj _).two h6 z c3 c6;exact⟨w6,r6,⟨_,n1⟩,n2⟩)
  have av:=O (fun w=>Qgx c.real ap w);rw[h0]at HT;have bd:=O K;have E0:=O h0;rw[h0];unfold Fb ptr cV at*;clear h ok hP Z hq ar a8 au i1 may B ap K z h0;go_enter func27,ntmps27;go_wp2_with fail;rw[←hW];clear hW;refine Zy HN ?_;rintro w1 rfl;go_wp2_with fail;refine Qj [(0,0),(0,1),(0,2),(0,3),(0,4),(2,5),(2,6)] Zq (by kernel_rfl) (fun _ _ _ _ _ h=>h) ?_;simp only[Jk,Zf,Ze,Zd];iterate 5 (refine Jq (by kernel_rfl) (by go_simp;try rfl) ?_)
  clear a0 a1 a2 a3 a4 g0 g1 g2 g3 g4 g5 g6 g7 g8 g9 I J d k;refine J7 ?_;go_wp2_with fail;refine Zy HT ?_;rintro w2⟨h2,V⟩;have H2:=O h2;have C2:=O V;have S2:=O (show Xx w2 w.heap.size c from V.blk S0.o NF.o);clear h2 V;go_wp2_with fail;refine J7 ?_;go_wp2_with fail;refine Jo ?_;go_wp2_with fail;obtain⟨a0,a1,a2,a3,a4⟩:=Ym H2.o.drew.blk;obtain⟨g0,g1,g2,g3,g4,g5,g6,g7,g8,g9,I,J,d,k⟩:=(show Xx w2.drew w.heap.size c from S2.o.aB (Zg Qb w2).drew).cells;unfold ptr at*;refine Qj [(0,0),(0,1),(0,2),(0,3),(0,4),(2,5)] Zq (by kernel_rfl) (fun _ _ _ _ _ h=>h) ?_;simp only[Jk,Zf,Ze,Zd];iterate 5 (refine Jq (by kernel_rfl) (by go_simp;try rfl) ?_)
  clear a0 a1 a2 a3 a4 g0 g1 g2 g3 g4 g5 g6 g7 g8 g9 I J d k;refine J7 ?_;go_wp2_with fail;refine Zz (ac.o w2 H2.o C2.o) ?_;rintro w3⟨h3,c3,ak⟩;have H3:=O h3;have C3:=O c3;have S3:=O (show Xx w3 w.heap.size c from ak.blk S2.o (fun hk=>hk.elim NF.o (fun hk=>by
   have h1:=aw.o;omega)))
  clear h3 c3 ak;go_wp2_with fail;refine Jo ?_;have l2:=(show Xx w3 w.heap.size c from S3.o).cells.2.2.1;cases u:c.leaf with
  |false=> have E:=O (show Qt w3 (Qn F w w3) b (s.add c)∧Qc F w w3 from R.o w3 _ (by rw[ag.o u];exact⟨A,H3.o⟩) C3.o);rw[u]at l2;clear u ac ae;go_wp2_with fail;go_ret;exact⟨rfl,E.o⟩
  |true=>
   obtain⟨pk,bt,aq,ao,p1,p2,p3,p4⟩:=ab.o u;have EQ:=O (aa.o u);have HQ:=O (fun w=>Qt7 pk bt w p1 p2 p3 p4);rw[u]at l2;have aj:=O (show c.pk.toNat=pk∧c.bt.toNat=bt from⟨by omega,by omega⟩);have ah:=O (Zt aq ao);clear u ac p1 p2 p3 p4 ab ag aa aq ao;go_wp2_with fail;clear l2;obtain⟨a0,a1,a2,a3,a4⟩:=Ym H3.o.drew.blk;obtain⟨g0,g1,g2,g3,g4,g5,g6,g7,g8,g9,I,J,d,k⟩:=(show Xx w3.drew w.heap.size c from S3.o.aB (Zg Qb w3).drew).cells;rw[ah.o.1]at d;rw[ah.o.2]at k;unfold ptr at*;refine Jp [(1,0),(1,1),(1,2),(1,3),(1,4),(1,5),(0,6),(0,7),(0,8),(0,9),(1,11),(1,12),(2,10),(2,13),(0,14),(2,15),(3,16)] (fun wv=>Qc (Qb) (w3) wv) Zq (by kernel_rfl) (fun _ _ _ _ _ h=>h) (Zj (Zg _ _)) ?_;simp only[Jk,Zf,Ze,Zd];iterate 3 (refine Qy (by kernel_rfl) (fun wv hv=>by go_simp;try rfl) ?_;try simp only[Act.put,Za,Zc,Zb])
   iterate 1 (refine Qy (by kernel_rfl) (fun wv hv=>by(obtain⟨z0,z1,z2,z3,z4⟩:=Ym (hv.blk H3.o.blk (fun h=>h)));go_simp;try rfl) ?_;try simp only[Act.put,Za,Zc,Zb])
   (refine Qy (by kernel_rfl) (fun wv hv=>by go_simp;try rfl) ?_;try simp only[Act.put,Za,Zc,Zb]);iterate 1 (refine Qy (by kernel_rfl) (fun wv hv=>by(obtain⟨z0,z1,z2,z3,z4,z5,z6,z7,z8,z9,a9,ba,bb,bc⟩:=(show Xx wv w.heap.size c from hv.blk S3.o (fun h=>h)).cells);go_simp;try rfl) ?_;try simp only[Act.put,Za,Zc,Zb])
   iterate 4 (refine Xe (by kernel_rfl) (by go_simp;try rfl) ?_)
   (refine Qy (by kernel_rfl) (fun wv hv=>by go_simp;try rfl) ?_;try simp only[Act.put,Za,Zc,Zb]);iterate 1 (refine Qy (by kernel_rfl) (fun wv hv=>by(obtain⟨z0,z1,z2,z3,z4,z5,z6,z7,z8,z9,a9,ba,bb,bc⟩:=(show Xx wv w.heap.size c from hv.blk S3.o (fun h=>h)).cells);go_simp;try rfl) ?_;try simp only[Act.put,Za,Zc,Zb])
   clear a0 a1 a2 a3 a4 g0 g1 g2 g3 g4 g5 g6 g7 g8 g9 I J d k;refine Yb ?_;go_wp2_with fail;refine Zz (HQ.o _) ?_;rintro w4⟨an,c4⟩;have C4:=O c4.undrew;have ai:=O (show Jz w4 (w3.heap.size+1) w3.heap.size pk bt []from an);clear an c4;go_wp2_with fail;refine⟨C4.o,?_⟩;refine Yb ?_;go_wp2_with fail;refine(av.o _).mono ?_;rintro e w5⟨dv,rfl,af,c5⟩;obtain⟨pv,rfl⟩:=af.ptr;have C5:=O (C4.o.aA c5);obtain⟨w6,r6,h6,c6⟩:=ae.o w3 w4 w5 pk bt pv H3.o C3.o ai.o C4.o af c5 ai.o.lt.1;have E:=O (R.o w6 _ h6 c6);clear af c5 h6 c6 ae;go_wp2_with fail;refine⟨C5.o,?_⟩;refine Xe (by kernel_rfl) (by go_simp;try rfl) ?_;refine Yb ?_;go_wp2_with fail;refine⟨C5.o.alloc _,?_⟩;refine Km ?_;go_wp2_with fail;refine Ky ?_;clear r6;go_wp2;go_ret;refine⟨rfl,?_,E.o.2⟩;rw[EQ.o,aj.o.1,aj.o.2];exact E.o.1
 ·have e1:s.tree.add c=s.tree:=Qgd h0;have e2:s.add c=s:=Qem h0;have hd:decide (s.aO c=0)=false:=by simpa using h0
  have a7:(s.aO c==0)=false:=by simpa using h0
  rw[e2];rw[e1]at HT;generalize s.aO c=er at HT hd a7⊢;unfold Fb ptr at*;clear h ok hP e1 e2 h0 K z;go_enter func27,ntmps27;go_wp2_with fail;rw[←hW];clear hW;refine Zy HN ?_;rintro w1 rfl;go_wp2_with fail;refine Qj [(0,0),(0,1),(0,2),(0,3),(0,4),(2,5),(2,6)] Zq (by kernel_rfl) (fun _ _ _ _ _ h=>h) ?_;simp only[Jk,Zf,Ze,Zd];iterate 5 (refine Jq (by kernel_rfl) (by go_simp;try rfl) ?_)
  clear a0 a1 a2 a3 a4 g0 g1 g2 g3 g4 g5 g6 g7 g8 g9 I J d k;refine J7 ?_;go_wp2_with fail;refine Zy HT ?_;rintro w2⟨h2,V⟩;have E:=O (R.o w2 s ⟨A,h2⟩ V);clear h2 V;go_wp2_with fail;refine J7 ?_;go_wp2_with fail;refine Jo ?_;go_wp2;go_ret;exact⟨rfl,E.o⟩
end
end
end Go.Proofs.YtnnhmpehkbihnaaGreat
