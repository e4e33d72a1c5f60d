/- A part of the proof: no condition. -/
import Derived.Test.YtnnhmpehkbihnaaGreatPk35
import Derived.Test.YtnnhmpehkbihnaaGreatPk33
namespace Go.Proofs.YtnnhmpehkbihnaaGreat
set_option linter.unusedVariables false
set_option maxRecDepth 100000
set_option maxHeartbeats 4000000
open Go.RowKit
open Go.Proofs.Tryz
section
attribute [local go_sem] Qp
attribute [local irreducible] Kl J9 Xo
section
variable{w:World}{F:Fp}{b:Nat}{h:Qm}
theorem Qgd{s:Yk}(h0:h.aO s≠0):h.add s=h:=by unfold Qm.add;rw[if_neg h0]
theorem Qny(hh:Q9 w F b h)(ok:J8 h){s:Yk}(h0:h.aO s=0):
  ∃ma mu,Qh w b #[.map (some ma),.map (some mu)] 92∧ma<w.heap.size∧mu<w.heap.size∧b≠ma∧b≠mu∧∀w3,Qc Qb w w3→
   ∃w4,(Instr.mapUpdate 89 (.map (some ma)) (.int .i64 s.id) (.agg (P0 ⟨s,h.depth s.par⟩))).run prog w3.drew=.ok () w4∧Qc (fun k=>k=ma) w3 w4∧
   ∃v,(Instr.lookup 90 (.map (some mu)) (.int .i64 s.par) false).run prog w4.drew=.ok v w4.drew∧Q6 w4 v (h.aM s.par)∧(∀k,v.ownBlock=some k→k<w.heap.size∧k≠b∧k≠ma∧k≠mu)∧
   ∀i w5 w6 v',Om s.id (h.aM s.par) i i→Qc Qb w4 w5→Qc (fun k=>v.ownBlock=some k) w5 w6→Q6 w6 v' ((h.aM s.par).take i++s.id::(h.aM s.par).drop i)→(v'.ownBlock=v.ownBlock∨∃k,v'.ownBlock=some k∧w5.heap.size≤k)→
    ∃w7,(Instr.mapUpdate 90 (.map (some mu)) (.int .i64 s.par) v').run prog w6=.ok () w7∧Q9 w7 (Qn F w w7) b (h.add s)∧Qc F w w7:=by
 obtain⟨ma,mu,l,vs,G,hp,hn,ao,ab,u,fb,fm,fG,aj,R,a2,ax,ak⟩:=hh.opn;have ae:=u.at_;obtain⟨_,_,Z,_⟩:=Ub h0;have af:=Wu Z;refine⟨ma,mu,ao,ab.lt,u.map.lt,a2,fun e=>aj (e▸ae),fun w3 z=>?_⟩;obtain⟨w4,r4,ar,c4⟩:=X6 (P:=prog) ((ab.aB z (fun h=>h)).aB (Zg Qb w3).drew (fun h=>h)) underlying89 underlying3 s.id (.agg (P0 ⟨s,h.depth s.par⟩));have B:Qc (fun k=>k=ma) w3 w4:=c4.undrew;refine⟨w4,r4,B,?_⟩;have K:=(u.aB z (Jl.none G)).aB B (fun k d e=>R (e▸d));obtain⟨v,hr,hI,hv⟩:=(K.aB (Zg Qb w4).drew (Jl.none G)).look s.par;have ap:Q6 w4 v (h.aM s.par):=hI;have q:∀k,v.ownBlock=some k→(s.par,v)∈vs∧G k∧k≠mu:=fun k d=>by
  rcases hv with⟨e,_⟩|hv;·rw[e]at d;cases d
  ·exact⟨hv,u.own _ hv k d⟩
 refine⟨v,hr,ap,fun k d=>?_,fun i w5 w6 v' a1 E I aa ah=>?_⟩;·obtain⟨_,h1,h2⟩:=q k d;exact⟨ax k (fG k h1),fun e=>aj (e▸h1),fun e=>R (e▸h1),h2⟩
 ·have au:=(K.map.aB E (fun h=>h)).aB I (fun d=>(q mu d).2.2 rfl);obtain⟨w7,r7,av,J⟩:=X6 (P:=prog) au underlying90 underlying3 s.par v';refine⟨w7,r7,?_⟩;have ay:(fun k=>Qm.aM (h.add s) k)=fun k=>if s.par=k then Nm s.id (h.aM k)else h.aM k:=funext fun k=>by rw[Bv h0];exact Fe ⟨s,h.depth s.par⟩ k ok.sorted
  have V:∀k,(h.add s).aM k=if s.par=k then Nm s.id (h.aM k)else h.aM k:=fun k=>congrFun ay k;have az:s.id∉h.aM s.par:=fun hx=>by obtain⟨c,hc,e,_⟩:=Sx hx;exact af c hc e
  have ag:(h.add s).aM s.par=(h.aM s.par).take i++s.id::(h.aM s.par).drop i:=by rw[V,if_pos rfl,Qm8 a1 az]
  have s5:=E.size;have s6:=I.size;have s7:=J.size;have ai:∀k,v'.ownBlock=some k→k<w6.heap.size:=aa.lt;have aq:Q6 w7 v' ((h.add s).aM s.par):=by
   rw[ag];refine aa.aB J fun k d e=>?_;rcases ah with U|⟨k2,U,h2⟩;·rw[U]at d;exact(q k d).2.2 e
   ·rw[U]at d;have e3:k2=k:=Zs d;have:=K.map.lt;omega
  have am:Qc (fun k=>k=mu∨v.ownBlock=some k) w4 w7:=((E.none.aA (I.mono fun k d=>.inl (.inr d))).trans J fun k d=>.inl (.inl d));obtain⟨aw,an⟩:=K.put (i:=s.par) (v':=v') (fun k d=>by rw[V,if_neg (fun e=>d e.symm)]) aq (fun k d=>by
   rcases ah with U|⟨k2,U,h2⟩;·rw[U]at d;exact .inl ⟨v,(q k d).1,d⟩
   ·rw[U]at d;have e3:k2=k:=Zs d;have h3:=ai k (by rw[U,e3]);exact .inr ⟨by omega,by omega⟩) av am (fun k d=>d.imp id fun d=>⟨v,(q k d).1,d⟩)
  have cA:Qc (fun k=>k=ma∨G k) w w7:=(z.none.aA (B.mono fun k d=>.inl (.inl d))).aA (an.sub fun k d=>.inr d);have al:Bd G w:=u.bd;refine ak w7 (l++[⟨s,h.depth s.par⟩]) _ _ ?_ ?_ (aw.later (w:=w) (Zp z.size B.size) ?_) cA;·rw[Bv h0];exact(hp.append_right _).trans (Ef _ h).symm
  ·have ac:=((ar.aB E (fun h=>h)).aB I (fun d=>by obtain⟨_,h1,_⟩:=q ma d;exact R h1)).aB J (fun e=>R (e▸ae));rw[Gw (fun p a0=>by
    obtain⟨x,hx,rfl⟩:=Z3.1 a0;exact af x (hp.mem_iff.1 hx))]at ac
   have:Us (l++[⟨s,h.depth s.par⟩])=Us l++[(s.id,.agg (P0 ⟨s,h.depth s.par⟩))]:=by unfold Us;rw[List.map_append];rfl
   rw[this];exact ac
  ·exact fun k d=>d.elim (fun d=>Nat.lt_of_lt_of_le (al k d) cA.size) (fun d=>d.2)
theorem Am(h:Qm)(s:Yk):h.aO s=if s.mayE≠0 then 130 else if 64≤h.length then 4 else if(h.at s.id).isSome then 80 else if h.depth s.par=0 then 160 else 0:=rfl
end
section
variable{w:World}{F:Fp}{b:Nat}{h:Qm}
theorem Qh.inj{w}{g:Nat}{cs cs':Array Value}{t c:TypeId}(h:Qh w g cs t)(h':Qh w g cs' c):cs=cs':=by unfold Qh at h h';rw[h]at h';injection h' with h';injection h' with h'
theorem Qor(hh:Q9 w F b h)(ok:J8 h)(s:Yk):
  Cl 68 #[ptr b,Fb s] w fun e w'=>e=.returned (.int .i64 (h.aO s))∧Q9 w' (Qn F w w') b (h.add s)∧Qc F w w':=by
 have aa:=O (fun w'(c:Qc Qb w w')=>Q9.obj.aB hh c (Jl.none F));have V:Hi (∀w',Qc Qb w w'→h.aO s≠0→Q9 w' (Qn F w w') b (h.add s)∧Qc F w w'):=O (fun w' c h0=>by rw[Qgd h0];exact Q9.obj.same hh c);obtain⟨W,hW⟩:=Zx (w.alloc (.cells (Z4 s.leaf s) 40));have S0:Hi (Xx W w.heap.size s):=O (by rw[hW];exact Xx.new w s);have C0:Hi (Qc Qb w W):=O (by rw[hW];exact(Zg _ _).alloc _);have HN:=O (Gz (aa.o W C0.o));have J:=O (fun w=>Qef s w);obtain⟨a0,a1,a2,a3,a4,a5,a6,a7,a8,a9,ak,al,am,an⟩:=(show Xx (w.alloc _) _ _ from hW▸S0.o).cells;by_cases hm:s.mayE=0
 ·have Z:h.aO s=if 64≤h.length then 4 else if(h.at s.id).isSome then 80 else if h.depth s.par=0 then 160 else 0:=by rw[Am,if_neg (by omega)]
  have HD:=O (fun w'(c:Qc Qb w w')=>Qhk (aa.o w' c) s.par);obtain⟨ma,mu,l,vs,G,hp,hn,ao,ar,bo,fb,fm,fG,bt,bu,bv,bp,_⟩:=hh.opn;have U:=O ao;have LK:=O (fun(w')(cc:Qc Qb w w')=>show(Instr.lookup 89 (.map (some ma)) (.int .i64 s.id) true).run prog w'=.ok (.tuple #[.agg (P0 (h.get s.id)),.bool (h.at s.id).isSome]) w' by
   have hL:=Dj (P:=prog) (ar.aB cc (fun h=>h)) underlying89 underlying3 (Sf w') s.id;rw[Ed s.id l hn,←Qm.at_perm hp hn]at hL;rw[hL];unfold Qm.get;cases h.at s.id<;>rfl)
  have ay:=O (fun(w')(cc:Qc Qb w w')=>show(Builtin.len_ #[89] 3 #[.map (some ma)]).run prog w'=.ok (.int .i64 h.length) w' by
   have hL:=Qua (P:=prog) (ar.aB cc (fun h=>h)) underlying89 3;have e:(Us l).length=h.length:=by unfold Us;rw[List.length_map,hp.length_eq]
   rw[e]at hL;exact hL)
  have q:Hi (h.aO s=0→ma<w.heap.size∧mu<w.heap.size∧b≠ma∧b≠mu∧∀w3,Qc Qb w w3→
   ∃w4,(Instr.mapUpdate 89 (.map (some ma)) (.int .i64 s.id) (.agg (P0 ⟨s,h.depth s.par⟩))).run prog w3.drew=.ok () w4∧Qc (fun k=>k=ma) w3 w4∧
   ∃v,(Instr.lookup 90 (.map (some mu)) (.int .i64 s.par) false).run prog w4.drew=.ok v w4.drew∧Q6 w4 v (h.aM s.par)∧(∀k,v.ownBlock=some k→k<w.heap.size∧k≠b∧k≠ma∧k≠mu)∧
   ∀i w5 w6 v',Om s.id (h.aM s.par) i i→Qc Qb w4 w5→Qc (fun k=>v.ownBlock=some k) w5 w6→Q6 w6 v' ((h.aM s.par).take i++s.id::(h.aM s.par).drop i)→(v'.ownBlock=v.ownBlock∨∃k,v'.ownBlock=some k∧w5.heap.size≤k)→
    ∃w7,(Instr.mapUpdate 90 (.map (some mu)) (.int .i64 s.par) v').run prog w6=.ok () w7∧Q9 w7 (Qn F w w7) b (h.add s)∧Qc F w w7):=O (fun h0=>by
   obtain⟨br,bs,bl,k1,k2,k3,k4,k5⟩:=Qny hh ok h0;have e:=ao.inj bl;injection e with e;injection e with e1 e2;injection e1 with e1;injection e2 with e2 _;injection e2 with e2;have e1:ma=br:=Zs e1;have e2:mu=bs:=Zs e2;subst e1;subst e2;exact⟨k1,k2,k3,k4,k5⟩)
  have aj:=O (Gk ok.sorted s.par);have ab:=O (show(h.aM s.par).length≤64 from by
   have:(h.aM s.par).length≤h.length:=by unfold Qm.aM;rw[List.length_map];exact List.length_filter_le _ _
   have:=ok.many;omega)
  have Eu:decide (s.mayE=0)=true:=by simpa using hm
  have bq:(s.mayE==0)=true:=by simpa using hm
  obtain⟨c,hc⟩:=Zx (h.get s.id);rw[←hc]at LK;obtain⟨bw,bd⟩:=Zx ((h.at s.id).isSome);rw[←bd]at LK Z;obtain⟨n,bc⟩:=Zx (h.length);rw[←bc]at ay Z;obtain⟨d,au⟩:=Zx (h.depth s.par);rw[←au]at HD q Z;have b2:Hi (d≤8):=O (by
   rw[au];unfold Qm.depth;split;·omega
   ·split;·omega
    ·split;·omega
     ·rename_i hx;simp only[Bool.or_eq_true,decide_eq_true_eq,not_or]at hx;omega)
  have HE:=O Z;rw[hm]at J;unfold Fb ptr at*;clear hh ok Z hm ao ar bo hp hn fb fm fG bt bu bv bp hc bd bc au Eu bq;go_enter func68,ntmps68;go_wp2_with fail;rw[←hW]at a0 a1 a2 a3 a4 a5 a6 a7 a8 a9 ak al am an⊢;clear hW;refine Zy HN ?_;rintro w1 rfl;go_wp2_with fail;refine Zz (J.o _) ?_;intro w1 c1;have C1:=O (C0.o.aA c1);have S1:=O (S0.o.aB c1);have b3:=O (show w.heap.size<w1.heap.size from Nat.lt_of_lt_of_le (Qh.lt S0.o) c1.size);clear c1 a0 a1 a2 a3 a4 a5 a6 a7 a8 a9 ak al am an;go_wp2_with fail;refine Jp [(1,0),(1,1),(1,2),(1,3),(1,4),(1,5),(1,6),(1,7),(1,8),(1,9),(2,10),(2,11),(3,12)] (fun z=>Qc (Qb) (w1) z) Zq (by kernel_rfl) (fun _ _ _ _ _ h=>h) (by(repeat' (first|(with_reducible first|exact Zg _ _|assumption|refine Zh ?_ _|refine Zi ?_ _|refine Zj ?_|refine Zk ?_ _ ?_|(apply Or.inl;rfl))|(apply Or.inl;simp;done)|(apply Or.inr;simp;first|done|omega)))) ?_;simp only[Jk,Zf,Ze,Zd];iterate 3 (refine Qy (by kernel_rfl) (fun z B=>by go_simp;try rfl) ?_;try simp only[Act.put,Za,Zc,Zb])
  iterate 1 (refine Qy (by kernel_rfl) (fun z B=>by(obtain⟨z0,z1⟩:=Q4 (B.blk (C1.o.blk U.o (fun h=>h)) (fun h=>h)));go_simp;try rfl) ?_;try simp only[Act.put,Za,Zc,Zb])
  (refine Qy (by kernel_rfl) (fun z B=>by go_simp;try rfl) ?_;try simp only[Act.put,Za,Zc,Zb]);iterate 2 (refine Qy (by kernel_rfl) (fun z B=>by(obtain⟨z0,_⟩:=(show Xx z w.heap.size s from S1.o.aB B).cells;have lk:=LK.o z (C1.o.aA B));go_simp;try rfl) ?_;try simp only[Act.put,Za,Zc,Zb])
  iterate 3 (refine Qy (by kernel_rfl) (fun z B=>by go_simp;try rfl) ?_;try simp only[Act.put,Za,Zc,Zb])
  refine Yb ?_;go_wp2_with fail;refine⟨((Zg Qb w1).alloc _).drew,?_⟩;have ap:Qh (w1.alloc (.cells Z6 87)).drew w1.heap.size Z6 87:=(Qh.new _ _ _).drew;have D1:Qc Qb w1 (w1.alloc (.cells Z6 87)).drew:=((Zg Qb w1).alloc _).drew;generalize(w1.alloc (.cells Z6 87)).drew=W1 at ap D1⊢;obtain⟨W2,s2,bm,C2⟩:=Q0 (P:=prog) (vs:=P0 c) ap rfl (Sn c);have af:Qc Qb w1 W2:=D1.trans C2 (fun k e=>.inr (by omega));have I:=O af;have av:=O (C1.o.aA af);clear ap D1 bm C2 af;refine Yb ?_;go_wp2_with fail;refine⟨I.o,?_⟩;refine Km ?_;go_wp2_with fail;refine Ky ?_;clear s2;have bz:=(show Xx W2 w.heap.size s from S1.o.aB I.o).cells.2.1;go_wp2_with fail;refine Zz (HD.o W2 av.o) ?_;intro w3 c3;have R:=O (av.o.aA c3);have S3:=O ((S1.o.aB I.o).aB c3);clear c3 bz;obtain⟨b0,b1⟩:=Q4 (R.o.blk U.o (fun h=>h));have bb:=ay.o w3 R.o;by_cases hn:64≤n
  ·have bg:decide (64≤(n:Int))=true:=by simp;omega
   have E:=O (show h.aO s=4 by rw[HE.o,if_pos hn]);have u:=O (V.o w3 R.o (by rw[E.o];decide));clear hn HE q V;go_wp2_with fail;go_ret;exact⟨by rw[E.o];rfl,u.o⟩
  ·have bg:decide (64≤(n:Int))=false:=by simp;omega
   cases bw with
   |true=> have E:=O (show h.aO s=80 by rw[HE.o,if_neg hn,if_pos rfl]);have u:=O (V.o w3 R.o (by rw[E.o];decide));clear hn HE q V;go_wp2_with fail;go_ret;exact⟨by rw[E.o];rfl,u.o⟩
   |false=>
    by_cases hd:d=0;·have E:=O (show h.aO s=160 by rw[HE.o,if_neg hn,if_neg (by decide),if_pos hd]);have u:=O (V.o w3 R.o (by rw[E.o];decide));subst hd;clear hn HE q V;go_wp2_with fail;go_ret;exact⟨by rw[E.o];rfl,u.o⟩
    ·have E:=O (show h.aO s=0 by rw[HE.o,if_neg hn,if_neg (by decide),if_neg hd]);have b4:decide ((d:Int)=0)=false:=by simp;omega
     have b5:((d:Int)==0)=false:=by simp;omega
     obtain⟨k1,k2,k3,k4,k5⟩:=q.o E.o;obtain⟨w4,r4,c4,v,r5,az,bf,k6⟩:=k5 w3 R.o;have K:=O (Zt k1 (Zt k2 (Zt k3 k4)));have C4:=O c4;have aw:=O az;have ai:=O bf;have K6:=O k6;have S4:=O (c4.blk S3.o (fun e=>by
      have:=K.o.1;omega))
     have ag:=O (c4.blk (R.o.blk U.o (fun h=>h)) K.o.2.2.1);clear hn HE q V k1 k2 k3 k4 k5 k6 c4 az bf;go_wp2_with fail;clear b0 b1 bb;obtain⟨e0,e1⟩:=Q4 ((R.o.blk U.o (fun h=>h)).drew);obtain⟨g0,g1,g2,g3,g4,g5,g6,g7,g8,g9,bh,bi,bj,bk⟩:=(show Xx w3.drew w.heap.size s from S3.o.aB (Zg Qb w3).drew).cells;unfold P0 at r4;dsimp only at r4;refine Qj [(0,0),(0,1),(0,2),(0,3),(0,4),(0,5),(0,6),(0,7),(0,8),(2,9)] Zq (by kernel_rfl) (fun _ _ _ _ _ h=>h) ?_;simp only[Jk,Zf,Ze,Zd];iterate 9 (refine Jq (by kernel_rfl) (by go_simp;try rfl) ?_)
     clear e0 e1 g0 g1 g2 g3 g4 g5 g6 g7 g8 g9 bh bi bj bk;refine J7 ?_;go_wp2_with fail;refine Jo ?_;clear r4;go_wp2_with fail;obtain⟨e0,e1⟩:=Q4 ag.o.drew;obtain⟨_,g1,_⟩:=(show Xx w4.drew w.heap.size s from Xx.aB S4.o (Zg Qb w4).drew).cells;refine Qj [(0,0),(0,1),(0,2),(0,3),(0,4),(0,5),(0,6),(2,7)] Zq (by kernel_rfl) (fun _ _ _ _ _ h=>h) ?_;simp only[Jk,Zf,Ze,Zd];iterate 7 (refine Jq (by kernel_rfl) (by go_simp;try rfl) ?_)
     clear e0 e1 g1;refine J7 ?_;go_wp2_with fail;refine Jo ?_;clear r5;obtain⟨g0,_⟩:=(show Xx w4.drew w.heap.size s from Xx.aB S4.o (Zg Qb w4).drew).cells;go_wp2_with fail;refine(Qn7 (Q6.aB aw.o (Zg Qb w4).drew (fun _ _ h=>h)) (aj.o.imp fun h=>Int.le_of_lt h) (by have:=ab.o;omega) s.id).mono ?_;rintro e w5⟨i,fb,rfl,rfl,be⟩;have ax:=O be;clear be;go_wp2_with fail;clear g0;have NE:=O (fun k hk=>(ai.o k hk).2.1);obtain⟨g0,_⟩:=(show Xx w4.drew.drew w.heap.size s from Xx.aB S4.o (Zg Qb w4).drew.drew).cells;obtain⟨e0,e1⟩:=Q4 ag.o.drew.drew;refine Jp [(1,0),(1,1),(1,2),(1,3),(1,4),(1,5),(1,6),(1,7),(0,8),(0,9),(2,10),(2,11),(3,12)] (fun z=>Qc (fun k=>v.ownBlock=some k) (w4) z) Zq (by kernel_rfl) (fun _ _ _ _ _ h=>h) (by(repeat' (first|(with_reducible first|exact Zg _ _|assumption|refine Zh ?_ _|refine Zi ?_ _|refine Zj ?_|refine Zk ?_ _ ?_|(apply Or.inl;rfl))|(apply Or.inl;simp;done)|(apply Or.inr;simp;first|done|omega)))) ?_;simp only[Jk,Zf,Ze,Zd];iterate 3 (refine Qy (by kernel_rfl) (fun z B=>by go_simp;try rfl) ?_;try simp only[Act.put,Za,Zc,Zb])
     iterate 1 (refine Qy (by kernel_rfl) (fun z B=>by(obtain⟨z0,z1⟩:=Q4 (B.blk ag.o (fun h=>NE.o _ h rfl)));go_simp;try rfl) ?_;try simp only[Act.put,Za,Zc,Zb])
     (refine Qy (by kernel_rfl) (fun z B=>by go_simp;try rfl) ?_;try simp only[Act.put,Za,Zc,Zb]);iterate 1 (refine Qy (by kernel_rfl) (fun z B=>by(obtain⟨_,z1,_⟩:=(show Xx z w.heap.size s from B.blk S4.o (fun h=>by have:=(ai.o _ h).1;omega)).cells);go_simp;try rfl) ?_;try simp only[Act.put,Za,Zc,Zb])
     iterate 2 (refine Qy (by kernel_rfl) (fun z B=>by go_simp;try rfl) ?_;try simp only[Act.put,Za,Zc,Zb])
     iterate 2 (refine Xe (by kernel_rfl) (by go_simp;try rfl) ?_)
     clear e0 e1 g0;refine Yb ?_;go_wp2_with fail;refine⟨(Zg _ w4).drew.drew.alloc _,?_⟩;have hV:Qh ((w4.alloc (.cells #[.int .i64 s.id] 3)).drew.drew) w4.heap.size #[.int .i64 s.id] 3:=(Qh.new _ _ _).drew.drew;have aq:Qc Qb w4 ((w4.alloc (.cells #[.int .i64 s.id] 3)).drew.drew):=((Zg _ w4).alloc _).drew.drew;generalize(w4.alloc (.cells #[.int .i64 s.id] 3)).drew.drew=w5 at hV aq⊢;have ah:=O aq;have HV:=O hV;clear hV aq;refine Yb ?_;go_wp2_with fail;refine(Qkn (Q6.aB aw.o ah.o (fun _ _ h=>h)) (by have:=ab.o;omega) i ax.o.len s.id HV.o (fun k hk e=>by
      have h1:=(ai.o k hk).1;have h2:=R.o.size;have h3:=C4.o.size;omega)).mono ?_
     rintro e w6⟨v',rfl,ba,c6,ho⟩;obtain⟨w7,r7,ae,ac⟩:=K6.o i w5 w6 v' ax.o ah.o c6 ba ho;have u:=O (Zt ae ac);have C6:=O (ah.o.none.aA c6);clear ba c6 ho ae ac;go_wp2_with fail;refine⟨C6.o,?_⟩;refine Km ?_;go_wp2_with fail;refine Ky ?_;clear r7;go_wp2;go_ret;exact⟨by rw[E.o];rfl,u.o⟩
 ·have Z:h.aO s=130:=by rw[Am,if_pos hm]
  have hd:decide (s.mayE=0)=false:=by simpa using hm
  have b6:(s.mayE==0)=false:=by simpa using hm
  rw[Z];rw[Z]at V;unfold Fb ptr at*;clear hh ok Z hm;go_enter func68,ntmps68;go_wp2_with fail;rw[←hW]at a0 a1 a2 a3 a4 a5 a6 a7 a8 a9 ak al am an⊢;clear hW;refine Zy HN ?_;rintro w1 rfl;go_wp2_with fail;refine Zz (J.o _) ?_;intro w1 c1;have u:=O (V.o w1 (C0.o.aA c1) (by decide));clear c1;go_wp2_with fail;go_ret;exact⟨rfl,u.o⟩
end
theorem Qkd:prog.eqGuardType prog.depth 87=false:=by kernel_rfl
theorem Qsv:prog.stoodInHeld 87=false:=by kernel_rfl
theorem Qke:prog.eqGuardType prog.depth 40=false:=by kernel_rfl
theorem Qsw:prog.stoodInHeld 40=false:=by kernel_rfl
theorem Wi:prog.eqGuardType prog.depth 38=false:=by kernel_rfl
theorem Qja:prog.stoodInHeld 38=false:=by kernel_rfl
section
attribute [local go_sem] Qkd Qsv Qke Qsw Wi Qja
@[irreducible]def Qr5(c d k q u z B E I s1 s2 s3 J K R U V Z:Int):Bool:=!(c==s1&&(d==s2&&(k==s3&&(q==J&&(u==K&&(z==R&&(B==U&&(E==V&&I==Z))))))))
theorem Qlb{c d k q u z B E I s1 s2 s3 J K R U V Z:Int}(h:Qr5 c d k q u z B E I s1 s2 s3 J K R U V Z=false):c=s1∧d=s2∧k=s3∧q=J∧u=K∧z=R∧B=U∧E=V∧I=Z:=by unfold Qr5 at h;simpa using h
theorem Qma(i p k t d J K R U V Z r7 r8 r9 s1 s2 s3 s4 s5 s6 s7 s8 s9:Int)(b:Bool)(w):
  (binOp .neq 87 (.agg #[.int .i64 i,.int .i64 p,.bool b,.int .u64 J,.int .u64 K,.int .u64 R,.int .u64 U,.int .u64 V,.int .u64 Z,.int .u64 r7,.int .u64 r8,.int .u64 r9,.int .i64 k,.int .i64 t,.int .i64 d]) (.agg #[.int .i64 i,.int .i64 p,.bool b,.int .u64 s1,.int .u64 s2,.int .u64 s3,.int .u64 s4,.int .u64 s5,.int .u64 s6,.int .u64 s7,.int .u64 s8,.int .u64 s9,.int .i64 k,.int .i64 t,.int .i64 d])).run prog w=
   .ok (.bool (Qr5 J K R U V Z r7 r8 r9 s1 s2 s3 s4 s5 s6 s7 s8 s9)) w:=by
 unfold Qr5;go_simp;by_cases h1:J=s1;case neg=>simp[h1]
 by_cases c:K=s2;case neg=>simp[h1,c]
 by_cases q:R=s3;case neg=>simp[h1,c,q]
 by_cases u:U=s4;case neg=>simp[h1,c,q,u]
 by_cases z:V=s5;case neg=>simp[h1,c,q,u,z]
 by_cases B:Z=s6;case neg=>simp[h1,c,q,u,z,B]
 by_cases E:r7=s7;case neg=>simp[h1,c,q,u,z,B,E]
 by_cases I:r8=s8;case neg=>simp[h1,c,q,u,z,B,E,I]
 by_cases h9:r9=s9;case neg=>simp[h1,c,q,u,z,B,E,I,h9]
 simp[h1,c,q,u,z,B,E,I,h9]
end
def Qc0(a b:Jy):Bool:=(a.f:Int)==(b.f:Int)&&((a.l:Int)==(b.l:Int)&&(a.r:Int)==(b.r:Int))
theorem Tx{a b:Jy}(h:Qc0 a b=true):a=b:=by obtain⟨a1,c,d⟩:=a;obtain⟨b1,b2,k⟩:=b;unfold Qc0 at h;simp only[Zw,beq_iff_eq]at h;obtain⟨h1,q,u⟩:=h;congr 1<;>omega
def Qfo(a s:Yk):Bool:=Qc0 a.real s.real&&(Qc0 a.share s.share&&Qc0 a.aN s.aN)
theorem Qiy{a s:Yk}(h:Qfo a s=true):a.aK s=a:=by unfold Qfo at h;simp only[Zw]at h;obtain⟨h1,c,d⟩:=h;unfold Yk.aK;rw[←Tx h1,←Tx c,←Tx d]
section
variable{w:World}{F:Fp}{b:Nat}{h:Qm}
theorem Fq{s:Yk}(h0:h.aG s≠0):h.change s=h:=by unfold Qm.change;rw[if_neg h0]
theorem Qgt{s:Yk}{c:Vm}(ok:J8 h)(hc:h.at s.id=some c)(d:Qfo c.sp s=true):h.change s=h:=by
 unfold Qm.change;split
 ·have:∀x∈h,(if x.sp.id=s.id then(⟨x.sp.aK s,x.d⟩:Vm)else x)=x:=fun x k=>by
   split;·rename_i e;have h1:=Da ok.sorted k;rw[e,hc]at h1;obtain rfl:=Zs h1;rw[Qiy d]
   ·rfl
  calc h.map (fun x=>if x.sp.id=s.id then(⟨x.sp.aK s,x.d⟩:Vm)else x)=h.map id:=List.map_congr_left this
   _=h:=List.map_id h
 ·rfl
theorem Qp9{l:List Vm}{c:Vm}(i:Int)(hn:(l.map Vm.id).Nodup)(q:∃x∈l,x.sp.id=c.sp.id):Oi c.sp.id (.agg (P0 c)) (Us l)=Us (l.map fun x=>if x.sp.id=c.sp.id then c else x):=by
 induction l with
 |nil=>obtain⟨x,d,_⟩:=q;cases d
 |cons y l z=>
  simp only[List.map_cons,List.nodup_cons]at hn;show Oi c.sp.id (.agg (P0 c)) ((y.sp.id,.agg (P0 y))::Us l)=_;rw[Oi];by_cases e:y.sp.id=c.sp.id
  ·rw[if_pos e.symm];have:l.map (fun x=>if x.sp.id=c.sp.id then c else x)=l:=by
    have:∀x∈l,(if x.sp.id=c.sp.id then c else x)=x:=fun x d=>if_neg fun k=>hn.1 (Z3.2 ⟨x,d,k.trans e.symm⟩)
    calc l.map (fun x=>if x.sp.id=c.sp.id then c else x)=l.map id:=List.map_congr_left this
     _=l:=List.map_id l
   rw[List.map_cons,this,if_pos e];rfl
  ·rw[if_neg (fun u=>e u.symm),List.map_cons,if_neg e,z hn.2 (by
    obtain⟨x,d,k⟩:=q;rcases Zu.1 d with rfl|d;·exact absurd k e
    ·exact⟨x,d,k⟩)]
   rfl
theorem Qev(hh:Q9 w F b h){s:Yk}(h0:h.aG s=0){c:Vm}(hc:h.at s.id=some c):
  ∃ma mu,Qh w b #[.map (some ma),.map (some mu)] 92∧∀w3,Qc Qb w w3→
   ∃w4,(Instr.mapUpdate 89 (.map (some ma)) (.int .i64 s.id) (.agg (P0 ⟨c.sp.aK s,c.d⟩))).run prog w3=.ok () w4∧Q9 w4 (Qn F w w4) b (h.change s)∧Qc F w w4:=by
 obtain⟨ma,mu,l,vs,G,hp,hn,R,U,B,fb,fm,fG,ac,aa,ae,ab,J⟩:=hh.opn;refine⟨ma,mu,R,fun w3 q=>?_⟩;obtain⟨w4,r4,z,u⟩:=X6 (P:=prog) (U.aB q (fun h=>h)) underlying89 underlying3 s.id (.agg (P0 ⟨c.sp.aK s,c.d⟩));refine⟨w4,r4,?_⟩;obtain⟨Z,E⟩:=Qm.aE hc;have V:=((B.aB q (Jl.none G)).aB u (fun k d e=>aa (e▸d))).same (h':=h.change s) (fun i=>by
  unfold Qm.change;rw[if_pos h0];exact Ik h s i)
 have cA:Qc (fun k=>k=ma∨G k) w w4:=q.none.aA (u.mono fun k d=>.inl (.inl d));have I:c∈l:=hp.mem_iff.2 Z;have K:Bd G w:=B.bd;refine J w4 (l.map fun x=>if x.sp.id=s.id then⟨x.sp.aK s,x.d⟩else x) vs _ ?_ ?_ ((Y7.good mu vs _).more V (fun k d=>.inl d) (fun k d=>d.elim (fun d=>Nat.lt_of_lt_of_le (K k d) cA.size) (fun d=>d.2))) cA;·unfold Qm.change;rw[if_pos h0];exact hp.map _
 ·have e1:s.id=(⟨c.sp.aK s,c.d⟩:Vm).sp.id:=E.symm;have e2:=Qp9 (c:=⟨c.sp.aK s,c.d⟩) s.id hn ⟨c,I,rfl⟩;rw[←e1]at e2;rw[e2]at z;have e3:(l.map fun x=>if x.sp.id=s.id then(⟨c.sp.aK s,c.d⟩:Vm)else x)=l.map fun x=>if x.sp.id=s.id then⟨x.sp.aK s,x.d⟩else x:=by
   refine List.map_congr_left fun x hx=>?_;split
   ·rename_i e;have:x=c:=by have h1:=Ls (key:=Vm.id) hn hx e;have h2:=Ls (key:=Vm.id) hn I E;exact Zs (h1.symm.trans h2)
    rw[this]
   ·rfl
  rw[←e3];exact z
end
end
section
attribute [local go_sem] Qp
attribute [local go_sem ↓] Qma
attribute [local irreducible] Kl J9 Xo
section
variable{w:World}{F:Fp}{b:Nat}{h:Qm}
theorem Qda(h:Qm){i:Int}{c:Vm}(hc:h.at i=some c):h.get i=c:=by unfold Qm.get;rw[hc];rfl
theorem Qe1(hh:Q9 w F b h)(ok:J8 h)(s:Yk):
  Cl 108 #[ptr b,Fb s] w fun e w'=>e=.returned (.int .i64 (h.aG s))∧Q9 w' (Qn F w w') b (h.change s)∧Qc F w w':=by
 have av:=O (fun w'(c:Qc Qb w w')=>Q9.obj.aB hh c (Jl.none F));have NO:Hi (∀w',Qc Qb w w'→h.aG s≠0→Q9 w' (Qn F w w') b (h.change s)∧Qc F w w'):=O (fun w' c h0=>by rw[Fq h0];exact Q9.obj.same hh c);have K:Hi (∀w',Qc Qb w w'→h.change s=h→Q9 w' (Qn F w w') b (h.change s)∧Qc F w w'):=O (fun w' c h0=>by rw[h0];exact Q9.obj.same hh c);obtain⟨W,hW⟩:=Zx (w.alloc (.cells (Z4 s.leaf s) 40));have S0:Hi (Xx W w.heap.size s):=O (by rw[hW];exact Xx.new w s);have C0:Hi (Qc Qb w W):=O (by rw[hW];exact(Zg _ _).alloc _);have a7:=O (show w.heap.size<W.heap.size from Qh.lt S0.o);have HN:=O (Gz (av.o W C0.o));obtain⟨ma,mu,l,vs,G,hp,hn,aj,ak,ax,fb,fm,fG,a0,a1,a2,ay,_⟩:=hh.opn;have ai:=O aj;have LK:=O (fun(w')(cc:Qc Qb w w')=>show(Instr.lookup 89 (.map (some ma)) (.int .i64 s.id) true).run prog w'=.ok (.tuple #[.agg (P0 (h.get s.id)),.bool (h.at s.id).isSome]) w' by
  have hL:=Dj (P:=prog) (ak.aB cc (fun h=>h)) underlying89 underlying3 (Sf w') s.id;rw[Ed s.id l hn,←Qm.at_perm hp hn]at hL;rw[hL];unfold Qm.get;cases h.at s.id<;>rfl)
 have aq:=O (fun(w')(cc:Qc Qb w w')(c:Vm)(hc:h.at s.id=some c)=>show(Instr.lookup 89 (.map (some ma)) (.int .i64 s.id) false).run prog w'=.ok (.agg (P0 c)) w' by
  have hL:=Du (P:=prog) (ak.aB cc (fun h=>h)) underlying89 underlying3 (Sf w') s.id;rw[Ed s.id l hn,←Qm.at_perm hp hn,hc]at hL;exact hL)
 cases hc:h.at s.id with
 |none=>
  have E:=O (show h.aG s=81 by unfold Qm.aG;rw[hc]);have R:h.get s.id=Qto:=by unfold Qm.get;rw[hc];rfl
  rw[hc,R]at LK;obtain⟨c,az⟩:=Zx Qto;rw[←az]at LK;dsimp only[Option.isSome_none]at LK;unfold Fb ptr at*;clear hh ok aj ak ax hp hn fb fm fG a0 a1 a2 ay hc R az K aq;go_enter func108,ntmps108;go_wp2_with fail;rw[←hW];clear hW;refine Zy HN ?_;rintro w1 rfl;go_wp2_with fail;refine Jp [(1,0),(1,1),(1,2),(1,3),(1,4),(1,5),(1,6),(1,7),(1,8),(1,9),(2,10),(2,11),(3,12)] (fun I=>Qc (Qb) (W) I) Zq (by kernel_rfl) (fun _ _ _ _ _ h=>h) (by(repeat' (first|(with_reducible first|exact Zg _ _|assumption|refine Zh ?_ _|refine Zi ?_ _|refine Zj ?_|refine Zk ?_ _ ?_|(apply Or.inl;rfl))|(apply Or.inl;simp;done)|(apply Or.inr;simp;first|done|omega)))) ?_;simp only[Jk,Zf,Ze,Zd];iterate 3 (refine Qy (by kernel_rfl) (fun I J=>by go_simp;try rfl) ?_;try simp only[Act.put,Za,Zc,Zb])
  iterate 1 (refine Qy (by kernel_rfl) (fun I J=>by(obtain⟨z0,z1⟩:=Q4 (J.blk (C0.o.blk ai.o (fun h=>h)) (fun h=>h)));go_simp;try rfl) ?_;try simp only[Act.put,Za,Zc,Zb])
  (refine Qy (by kernel_rfl) (fun I J=>by go_simp;try rfl) ?_;try simp only[Act.put,Za,Zc,Zb]);iterate 2 (refine Qy (by kernel_rfl) (fun I J=>by(obtain⟨z0,_⟩:=(show Xx I w.heap.size s from S0.o.aB J).cells;have lk:=LK.o I (C0.o.aA J));go_simp;try rfl) ?_;try simp only[Act.put,Za,Zc,Zb])
  iterate 3 (refine Qy (by kernel_rfl) (fun I J=>by go_simp;try rfl) ?_;try simp only[Act.put,Za,Zc,Zb])
  refine Yb ?_;go_wp2_with fail;refine⟨((Zg Qb W).alloc _).drew,?_⟩;have Z:Qh (W.alloc (.cells Z6 87)).drew W.heap.size Z6 87:=(Qh.new _ _ _).drew;have D1:Qc Qb W (W.alloc (.cells Z6 87)).drew:=((Zg Qb W).alloc _).drew;generalize(W.alloc (.cells Z6 87)).drew=W1 at Z D1⊢;obtain⟨W2,s2,ah,C2⟩:=Q0 (P:=prog) (vs:=P0 c) Z rfl (Sn c);have U:Qc Qb W W2:=D1.trans C2 (fun k e=>.inr (by omega));have aa:=O U;have ae:=O ah;have ao:=O (C0.o.aA U);clear Z D1 ah C2 U;refine Yb ?_;go_wp2_with fail;refine⟨aa.o,?_⟩;refine Km ?_;go_wp2_with fail;refine Ky ?_;clear s2;have V:=O (NO.o W2 ao.o (by rw[E.o];decide));clear NO;go_wp2_with fail;go_ret;exact⟨by rw[E.o];rfl,V.o⟩
 |some c=>
  have R:h.get s.id=c:=Qda h hc;rw[hc,R]at LK;dsimp only[Option.isSome_some]at LK;have a6:=O (fun w' cc=>aq.o w' cc c hc);have aw:h.aG s=if(c.sp.aK s).mayE≠0 then 130 else 0:=by unfold Qm.aG;rw[hc]
  have EE:=O aw;have a5:=O (Qgt ok hc);have ab:Hi (h.aG s=0→∀w3,Qc Qb w w3→∃w4,(Instr.mapUpdate 89 (.map (some ma)) (.int .i64 s.id) (.agg (P0 ⟨c.sp.aK s,c.d⟩))).run prog w3=.ok () w4∧Q9 w4 (Qn F w w4) b (h.change s)∧Qc F w w4):=O (fun h0=>by
   obtain⟨bg,bl,be,k⟩:=Qev hh h0 hc;have e:=aj.inj be;injection e with e;injection e with e1 _;injection e1 with e1;have e1:ma=bg:=Zs e1;subst e1;exact k)
  have al:=O (fun w=>Qef (c.sp.aK s) w);unfold Fb ptr at*;clear hh ok aj ak ax hp hn fb fm fG a0 a1 a2 ay hc R aq aw;go_enter func108,ntmps108;go_wp2_with fail;rw[←hW];clear hW;refine Zy HN ?_;rintro w1 rfl;go_wp2_with fail;refine Jp [(1,0),(1,1),(1,2),(1,3),(1,4),(1,5),(1,6),(1,7),(1,8),(1,9),(2,10),(2,11),(3,12)] (fun I=>Qc (Qb) (W) I) Zq (by kernel_rfl) (fun _ _ _ _ _ h=>h) (by(repeat' (first|(with_reducible first|exact Zg _ _|assumption|refine Zh ?_ _|refine Zi ?_ _|refine Zj ?_|refine Zk ?_ _ ?_|(apply Or.inl;rfl))|(apply Or.inl;simp;done)|(apply Or.inr;simp;first|done|omega)))) ?_;simp only[Jk,Zf,Ze,Zd];iterate 3 (refine Qy (by kernel_rfl) (fun I J=>by go_simp;try rfl) ?_;try simp only[Act.put,Za,Zc,Zb])
  iterate 1 (refine Qy (by kernel_rfl) (fun I J=>by(obtain⟨z0,z1⟩:=Q4 (J.blk (C0.o.blk ai.o (fun h=>h)) (fun h=>h)));go_simp;try rfl) ?_;try simp only[Act.put,Za,Zc,Zb])
  (refine Qy (by kernel_rfl) (fun I J=>by go_simp;try rfl) ?_;try simp only[Act.put,Za,Zc,Zb]);iterate 2 (refine Qy (by kernel_rfl) (fun I J=>by(obtain⟨z0,_⟩:=(show Xx I w.heap.size s from S0.o.aB J).cells;have lk:=LK.o I (C0.o.aA J));go_simp;try rfl) ?_;try simp only[Act.put,Za,Zc,Zb])
  iterate 3 (refine Qy (by kernel_rfl) (fun I J=>by go_simp;try rfl) ?_;try simp only[Act.put,Za,Zc,Zb])
  refine Yb ?_;go_wp2_with fail;refine⟨((Zg Qb W).alloc _).drew,?_⟩;have Z:Qh (W.alloc (.cells Z6 87)).drew W.heap.size Z6 87:=(Qh.new _ _ _).drew;have D1:Qc Qb W (W.alloc (.cells Z6 87)).drew:=((Zg Qb W).alloc _).drew;generalize(W.alloc (.cells Z6 87)).drew=W1 at Z D1⊢;obtain⟨W2,s2,ah,C2⟩:=Q0 (P:=prog) (vs:=P0 c) Z rfl (Sn c);have U:Qc Qb W W2:=D1.trans C2 (fun k e=>.inr (by omega));have aa:=O U;have ae:=O ah;have ao:=O (C0.o.aA U);clear Z D1 ah C2 U;refine Yb ?_;go_wp2_with fail;refine⟨aa.o,?_⟩;refine Km ?_;go_wp2_with fail;refine Ky ?_;clear s2;go_wp2_with fail;have S2:=O (S0.o.aB aa.o);obtain⟨g0,g1,g2,g3,g4,g5,g6,g7,g8,g9,ba,bb,bc,bd⟩:=(show Xx W2.drew w.heap.size s from S2.o.aB (Zg Qb W2).drew).cells;have NE:=O (show w.heap.size≠W.heap.size from fun e=>by have:=a7.o;omega);refine Jp [(0,0),(0,1),(1,2),(1,3),(1,4),(1,5),(0,6),(0,7),(2,8),(0,9),(0,10),(2,11),(0,12),(0,13),(3,14)] (fun I=>Qc (fun k=>k=W.heap.size) (W2) I) Zq (by kernel_rfl) (fun _ _ _ _ _ h=>h) (by(repeat' (first|(with_reducible first|exact Zg _ _|assumption|refine Zh ?_ _|refine Zi ?_ _|refine Zj ?_|refine Zk ?_ _ ?_|(apply Or.inl;rfl))|(apply Or.inl;simp;done)|(apply Or.inr;simp;first|done|omega)))) ?_;simp only[Jk,Zf,Ze,Zd];iterate 2 (refine Xe (by kernel_rfl) (by go_simp;try rfl) ?_)
  (refine Qy (by kernel_rfl) (fun I J=>by go_simp;try rfl) ?_;try simp only[Act.put,Za,Zc,Zb]);iterate 1 (refine Qy (by kernel_rfl) (fun I J=>by(obtain⟨z0,z1,z2,z3,z4,z5,z6,z7,z8,z9,bh,bi,bj,bk⟩:=(show Xx I w.heap.size s from J.blk S2.o NE.o).cells);go_simp;try rfl) ?_;try simp only[Act.put,Za,Zc,Zb])
  (refine Qy (by kernel_rfl) (fun I J=>by go_simp;try rfl) ?_;try simp only[Act.put,Za,Zc,Zb]);iterate 1 (refine Qy (by kernel_rfl) (fun I J=>by(obtain⟨z0,z1,z2,z3,z4,z5,z6,z7,z8,z9,bh,bi,bj,bk⟩:=(show Xx I w.heap.size s from J.blk S2.o NE.o).cells);go_simp;try rfl) ?_;try simp only[Act.put,Za,Zc,Zb])
  iterate 2 (refine Xe (by kernel_rfl) (by go_simp;try rfl) ?_)
  clear g0 g1 g2 g3 g4 g5 g6 g7 g8 g9 ba bb bc bd;obtain⟨e0,e1,e2,e3,e4,e5,e6,e7,e8,e9,d,q,u,z,B⟩:=Dm ae.o;have f3:=ae.o.frozen 3;have f4:=ae.o.frozen 4;have f5:=ae.o.frozen 5;refine Yb ?_;go_wp2_with fail;have B3:Qh (((W2.setCell ⟨W.heap.size,3,none⟩ (.int .u64 s.real.f)).setCell ⟨W.heap.size,4,none⟩ (.int .u64 s.real.l)).setCell ⟨W.heap.size,5,none⟩ (.int .u64 s.real.r)).drew W.heap.size (P0 ⟨{c.sp with real:=s.real},c.d⟩) 87:=(((ae.o.set 3 _).set 4 _).set 5 _).drew;have D3:Qc (fun k=>k=W.heap.size) W2 (((W2.setCell ⟨W.heap.size,3,none⟩ (.int .u64 s.real.f)).setCell ⟨W.heap.size,4,none⟩ (.int .u64 s.real.l)).setCell ⟨W.heap.size,5,none⟩ (.int .u64 s.real.r)).drew:=((((Zg (fun k=>k=W.heap.size) W2).setCell _ (.inl rfl)).setCell _ (.inl rfl)).setCell _ (.inl rfl)).drew;refine⟨D3,?_⟩;generalize(((W2.setCell ⟨W.heap.size,3,none⟩ (.int .u64 s.real.f)).setCell ⟨W.heap.size,4,none⟩ (.int .u64 s.real.l)).setCell ⟨W.heap.size,5,none⟩ (.int .u64 s.real.r)).drew=W3 at B3 D3⊢;have af:=O B3;have D3:=O D3;clear B3 e0 e1 e2 e3 e4 e5 e6 e7 e8 e9 d q u z B f3 f4 f5;iterate 2 (refine Xe (by kernel_rfl) (by go_simp;try rfl) ?_)
  obtain⟨e0,e1,e2,e3,e4,e5,e6,e7,e8,e9,d,q,u,z,B⟩:=Dm af.o;have f6:=af.o.frozen 6;have f7:=af.o.frozen 7;have f8:=af.o.frozen 8;refine Yb ?_;go_wp2_with fail;have B4:Qh (((W3.setCell ⟨W.heap.size,6,none⟩ (.int .u64 s.share.f)).setCell ⟨W.heap.size,7,none⟩ (.int .u64 s.share.l)).setCell ⟨W.heap.size,8,none⟩ (.int .u64 s.share.r)) W.heap.size (P0 ⟨{c.sp with real:=s.real,share:=s.share},c.d⟩) 87:=(((af.o.set 6 _).set 7 _).set 8 _);have D4:Qc (fun k=>k=W.heap.size) W2 (((W3.setCell ⟨W.heap.size,6,none⟩ (.int .u64 s.share.f)).setCell ⟨W.heap.size,7,none⟩ (.int .u64 s.share.l)).setCell ⟨W.heap.size,8,none⟩ (.int .u64 s.share.r)):=((((D3.o).setCell _ (.inl rfl)).setCell _ (.inl rfl)).setCell _ (.inl rfl));refine⟨D4,?_⟩;generalize(((W3.setCell ⟨W.heap.size,6,none⟩ (.int .u64 s.share.f)).setCell ⟨W.heap.size,7,none⟩ (.int .u64 s.share.l)).setCell ⟨W.heap.size,8,none⟩ (.int .u64 s.share.r))=W4 at B4 D4⊢;have ag:=O B4;have D4:=O D4;clear B4 e0 e1 e2 e3 e4 e5 e6 e7 e8 e9 d q u z B f6 f7 f8;iterate 2 (refine Xe (by kernel_rfl) (by go_simp;try rfl) ?_)
  obtain⟨e0,e1,e2,e3,e4,e5,e6,e7,e8,e9,d,q,u,z,B⟩:=Dm ag.o;have f9:=ag.o.frozen 9;have a8:=ag.o.frozen 10;have a9:=ag.o.frozen 11;refine Km ?_;go_wp2_with fail;have B5:Qh (((W4.setCell ⟨W.heap.size,9,none⟩ (.int .u64 s.aN.f)).setCell ⟨W.heap.size,10,none⟩ (.int .u64 s.aN.l)).setCell ⟨W.heap.size,11,none⟩ (.int .u64 s.aN.r)) W.heap.size (P0 ⟨c.sp.aK s,c.d⟩) 87:=(((ag.o.set 9 _).set 10 _).set 11 _);have D5:Qc (fun k=>k=W.heap.size) W2 (((W4.setCell ⟨W.heap.size,9,none⟩ (.int .u64 s.aN.f)).setCell ⟨W.heap.size,10,none⟩ (.int .u64 s.aN.l)).setCell ⟨W.heap.size,11,none⟩ (.int .u64 s.aN.r)):=((((D4.o).setCell _ (.inl rfl)).setCell _ (.inl rfl)).setCell _ (.inl rfl));generalize(((W4.setCell ⟨W.heap.size,9,none⟩ (.int .u64 s.aN.f)).setCell ⟨W.heap.size,10,none⟩ (.int .u64 s.aN.l)).setCell ⟨W.heap.size,11,none⟩ (.int .u64 s.aN.r))=W5 at B5 D5⊢;have ap:=O B5;have D5:=O D5;clear B5 e0 e1 e2 e3 e4 e5 e6 e7 e8 e9 d q u z B f9 a8 a9;refine Ky ?_;obtain⟨r,hr⟩:=Zx (c.sp.aK s);have HR:=O hr;have a3:=O (ao.o.trans D5.o fun k e=>.inr (by have:=C0.o.size;omega));rw[←hr]at ap al EE;clear hr;obtain⟨e0,e1,e2,e3,e4,e5,e6,e7,e8,e9,d,q,u,z,B⟩:=Dm ap.o;dsimp only at e0 e1 e2 e3 e4 e5 e6 e7 e8 e9 d q u z B;go_wp2_with fail;refine Zz (al.o _) ?_;intro w6 c6;have ac:=O (a3.o.aA c6);have a4:=O (c6.blk ap.o (fun h=>h));have S6:=O (c6.blk (D5.o.blk S2.o NE.o) (fun h=>h));clear c6 e0 e1 e2 e3 e4 e5 e6 e7 e8 e9 d q u z B;by_cases hm:r.mayE=0
  ·have E:=O (show h.aG s=0 by rw[EE.o,if_neg (by omega)]);have hd:decide (r.mayE=0)=true:=by simpa using hm
   have ar:(r.mayE==0)=true:=by simpa using hm
   rw[hm]at hd ar⊢;clear hm hd ar;go_wp2_with fail;have au:=O (show Qh w6.drew W.heap.size (P0 ⟨c.sp.aK s,c.d⟩) 87 by rw[←HR.o];exact a4.o.drew);obtain⟨e0,e1,e2,e3,e4,e5,e6,e7,e8,e9,d,q,u,z,B⟩:=Dm au.o;dsimp only[Yk.aK]at e0 e1 e2 e3 e4 e5 e6 e7 e8 e9 d q u z B;obtain⟨g0,_⟩:=(show Xx w6.drew w.heap.size s from Xx.aB S6.o (Zg Qb w6).drew).cells;obtain⟨z0,z1⟩:=Q4 ((ac.o.blk ai.o (fun h=>h)).drew);have lk:=a6.o w6.drew ac.o.drew;unfold P0 at lk;refine Qj [(0,0),(0,1),(0,2),(0,3),(0,4),(0,5),(0,6),(0,7),(0,8)] Zq (by kernel_rfl) (fun _ _ _ _ _ h=>h) ?_;simp only[Jk,Zf,Ze,Zd];iterate 9 (refine Jq (by kernel_rfl) (by go_simp;try rfl) ?_)
   clear e0 e1 e2 e3 e4 e5 e6 e7 e8 e9 d q u z B g0 z0 z1 lk;refine Jo ?_;simp only[Act.put,Za,Zc,Zb];cases bf:Qr5 (s.real.f:Int) (s.real.l:Int) (s.real.r:Int) (s.share.f:Int) (s.share.l:Int) (s.share.r:Int) (s.aN.f:Int) (s.aN.l:Int) (s.aN.r:Int) (c.sp.real.f:Int) (c.sp.real.l:Int) (c.sp.real.r:Int) (c.sp.share.f:Int) (c.sp.share.l:Int) (c.sp.share.r:Int) (c.sp.aN.f:Int) (c.sp.aN.l:Int) (c.sp.aN.r:Int)with
   |false=>
    have SM:=O (a5.o (by
     obtain⟨q1,q2,q3,q4,q5,q6,q7,q8,q9⟩:=Qlb bf;unfold Qfo Qc0;simp only[Zw,beq_iff_eq];exact⟨⟨q1.symm,q2.symm,q3.symm⟩,⟨q4.symm,q5.symm,q6.symm⟩,q7.symm,q8.symm,q9.symm⟩))
    have V:=O (K.o w6.drew ac.o.drew SM.o);clear NO K ab;go_wp2_with fail;go_ret;exact⟨by rw[E.o];rfl,V.o⟩
   |true=>
    obtain⟨w8,r8,an,am⟩:=ab.o E.o w6.drew.drew ac.o.drew.drew;have V:=O (Zt an am);unfold P0 at r8;dsimp only[Yk.aK]at r8;clear an am NO K ab;go_wp2_with fail;obtain⟨e0,e1,e2,e3,e4,e5,e6,e7,e8,e9,d,q,u,z,B⟩:=Dm au.o.drew;dsimp only[Yk.aK]at e0 e1 e2 e3 e4 e5 e6 e7 e8 e9 d q u z B;obtain⟨g0,_⟩:=(show Xx w6.drew.drew w.heap.size s from Xx.aB S6.o (Zg Qb w6).drew.drew).cells;obtain⟨z0,z1⟩:=Q4 ((ac.o.blk ai.o (fun h=>h)).drew.drew);refine Qj [(0,0),(0,1),(0,2),(0,3),(0,4),(0,5),(0,6),(2,7)] Zq (by kernel_rfl) (fun _ _ _ _ _ h=>h) ?_;simp only[Jk,Zf,Ze,Zd];iterate 7 (refine Jq (by kernel_rfl) (by go_simp;try rfl) ?_)
    clear e0 e1 e2 e3 e4 e5 e6 e7 e8 e9 d q u z B g0 z0 z1;refine J7 ?_;go_wp2_with fail;refine Jo ?_;clear r8;go_wp2;go_ret;exact⟨by rw[E.o];rfl,V.o⟩
  ·have E:=O (show h.aG s=130 by rw[EE.o,if_pos hm]);have hd:decide (r.mayE=0)=false:=by simpa using hm
   have ar:(r.mayE==0)=false:=by simpa using hm
   have V:=O (NO.o w6 ac.o (by rw[E.o];decide));clear hm NO K ab;go_wp2_with fail;go_ret;exact⟨by rw[E.o];rfl,V.o⟩
end
end
end Go.Proofs.YtnnhmpehkbihnaaGreat
