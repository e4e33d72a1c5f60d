/- A part of the proof: no condition. -/
import Derived.Test.YtnnhmpehkbihnaaGreatPs30
namespace Go.Proofs.YtnnhmpehkbihnaaGreat
set_option linter.unusedVariables false
set_option maxRecDepth 100000
set_option maxHeartbeats 4000000
open Go.RowKit
open Go.Proofs.Tryz
section
attribute [local go_sem] Qp
attribute [local irreducible] Kl J9 Xo
attribute [local go_sem] Uq
attribute [local go_sem ↓] X8 Yd
theorem Qlc{s:Qf}{N t:Nat}(h:Xp N s)(ht:t<Qq):
  ((s.next t).1=none∧(Ul s t (s.tree.aI 0)).1=false)∨∃c,(s.next t).1=some c∧((c.rule=1∧(Ul s t (s.tree.aI 0)).1=true∧s.elig c.p.cls≤t∧s.due c.p.cls=(Ul s t (s.tree.aI 0)).2∧c.due=s.due c.p.cls)∨
   (c.rule=2∧(Ul s t (s.tree.aI 0)).1=false∧s.fit c.p.cls≤t∧c.due=0)):=by
 cases k:s.who t with
 |none=>exact .inl ⟨by rw[Cs k],Ql7 h ht k⟩
 |some x=>
  obtain⟨id,r⟩:=x;obtain⟨h1,q,d⟩:=Ql8 h ht k;refine .inr ⟨s.takeC id r,by unfold Qf.next;rw[k],?_⟩;rw[h1,q];rcases d with⟨e,d⟩|⟨e,d⟩;·exact .inl ⟨e,d⟩
  ·exact .inr ⟨e,d⟩
theorem Qe5(most:Int)(l:List Yy)(a:Option Addr)(cap:Nat)(W)(hl:l.length≤maxLen)(hr:Kb Yy.cells 20 W a l)(hw:∀x∈l,x.wf):
  Cl 4 #[.int .i64 most,.slice a l.length cap] W fun e w'=>e=.returned (.bool true)∧Qc Qb W w':=by
 have AW:=O (Rc W);have LG:=O (fun w=>F3 l.length a cap w);by_cases aq:150<l.length;·rw[decide_eq_true aq]at LG;clear hr hw hl;go_enter func4,ntmps4;go_wp2_with fail;refine Zy AW ?_;intro w1 c1;have C1:=O c1;clear c1;go_wp2_with fail;refine Zz (LG.o w1) ?_;rintro w2 rfl;go_wp2;go_ret;exact⟨rfl,C1.o⟩
 ·have PL:=O (fun w1(c:Qc Qb W w1)=>Te most l a cap w1 (by omega) (hr.below c.below) hw);rw[decide_eq_false aq]at LG;clear hr hw hl;go_enter func4,ntmps4;go_wp2_with fail;refine Zy AW ?_;intro w1 c1;have C1:=O c1;clear c1;go_wp2_with fail;refine Zz (LG.o w1) ?_;rintro cj rfl;go_wp2_with fail;refine(PL.o w1 C1.o).mono ?_;rintro e w2⟨bt,c2⟩;have C2:=O (C1.o.aA c2);clear c2;rcases bt with rfl|⟨gb,s,rfl,hG,ok,bp⟩;·go_wp2;go_ret;exact⟨rfl,C2.o⟩
  ·obtain⟨sb,us,now,ps,hA,br,b6⟩:=hG;have ax:=O ok;have bz:=C1.o.size;have ao:=O (show∀k,Qn Qb w1 w2 k→w1.heap.size≤k from fun k d=>((Qr k).1 d).1);generalize Qn Qb w1 w2=F2 at hA ao;have bs:now<Qq:=by have:=Yf;omega
   have bv:=O bs;have ae:=O hA.bd;have ba:=O (show Cl 12 #[.pointer (some ⟨sb,0,none⟩)] w2 fun e a7=>∃t,e=.returned (.pointer (some ⟨t,0,none⟩))∧Q9 a7 (Qn Qb w2 a7) t s.tree∧Qc Qb w2 a7 from by
    obtain⟨G,⟨A,hS⟩,_⟩:=hA.sched;exact Uu hS ok)
   have HA:=O hA;have f0:w2.cell? ⟨gb,0,none⟩=some (.pointer (some ⟨sb,0,none⟩)):=hA.blk.1.at 0 rfl;clear hA b6 bp br bs bz;unfold ptr at*;go_wp2_with fail;refine Zo ba ?_;rintro e w3⟨tb,rfl,hT,c3⟩;have be:=O (Ot ax.o.tree 9 hT 0 (by omega));have C3:=O c3;clear hT c3 f0 ba;unfold ptr at*;go_wp2_with fail;refine Zo be ?_;rintro e w4⟨uv,rfl,hI,ac,c4⟩;obtain⟨a4,ce,rfl,ar,_,_⟩:=hI.row intT.hc;have C4:=O (C3.o.aA c4);have cc:=O ac;obtain⟨L,hL⟩:=Zx (s.tree.aI 0);have HL:=O hL;rw[←hL]at hI ar⊢;obtain⟨n0,al⟩:=Zx (L.length);have bf:=O al;rw[←al]at ar⊢;have LV:Hi (∀w',Qc F2 w4 w'→∀(i:Nat)(x:Int),L[i]? =some x→∃g,a4=some ⟨g,0,none⟩∧w'.cell? ⟨g,i,none⟩=some (.int .i64 x)):=O (fun w' c i x hx=>by
    have b5:L≠[]:=fun e=>by rw[e]at hx;cases hx
    obtain⟨g,cd,cf,b7,hB,ci,bo,_,_⟩:=hI.opn b5;injection b7 with h1 h2 h3;have hg:¬F2 g:=fun hg=>by have k1:=ae.o g hg;have k2:=ac g (by rw[h1];rfl);have k3:=C3.o.size;omega
    exact⟨g,h1,by rw[(c.blk hB hg).cell];exact bo i x hx⟩)
   have bw:=O (show n0≤64 from by rw[al,hL];exact Zp (Db _ _) ax.o.tree.many);clear hI c4 ac al be hL;go_wp2_with fail;go_loopw [7] (fun t7 wr=>∃(n:Nat)(s':Qf),t7=.int .i64 n∧n≤6∧Xm sb us us wr (Qn F2 w4 wr) gb s' now true ps∧Xp (2400+16*n) s'∧s'.tree=s.tree∧Qc F2 w4 wr) (fun t7 _=>6-(intOf t7).toNat);case atStart=>exact⟨0,s,rfl,by omega,(HA.o.aB C4.o (Jl.none _)).more (fun k d=>.inl d) (fun k d=>d.elim (fun h=>Nat.lt_of_lt_of_le (ae.o k h) C4.o.size) (fun h=>h.2)),ax.o,rfl,Zg _ _⟩
   case round=>
    obtain⟨n,s',rfl,hn,hG,am,I,hc⟩:=hrel;obtain⟨V,hV⟩:=Zx wr;rw[←hV]at hG hc⊢;clear hV;have HC:=O hc;have ag:=O am;have aa:=O I;have HG:=O hG;have an:Hi (∀w',Qc F2 w4 w'→Qc Qb W w'):=O (fun w' c=>(C2.o.aA C4.o).trans c fun k d=>.inr (by have:=ao.o k d;have:=C1.o.size;omega));by_cases Xg:n<6
    ·have hd:decide ((n:Int)<6)=true:=by simp;omega
     have bc:=O (hG.copies am (by omega));have R:=O hG.bd;have f0:V.cell? ⟨gb,0,none⟩=some (.pointer (some ⟨sb,0,none⟩)):=hG.blk.1.at 0 rfl;obtain⟨Fn,ay⟩:∃F:Fp,F=Qn F2 w4 V:=⟨_,rfl⟩;rw[←ay]at HG R;have bd:=O ay;have af:=O Xg;clear hG hc am I ay hn;unfold ptr at*;go_wp2_with fail;refine Zo bc ?_;rintro e w5⟨cb,rfl,bj,c5⟩;have C5:=O c5;have bb:=O bj;have ak:=HG.o.aB c5 (Jl.none _);obtain⟨G,a5,bk,az⟩:=ak.nexts ag.o (by omega);have av:=O ak.bd;have HB:=O ak.blk.1;have U:=O bk;obtain⟨o,ho⟩:=Zx ((s'.next now).1);rw[←ho]at az;have HO:=O ho;have aw:=O az;have NG:=O (show∀k,w5.heap.size≤k→¬Fn k from fun k d b4=>by have:=av.o _ b4;omega);have a0:w5.cell? ⟨gb,0,none⟩=some (ptr sb):=by rw[HB.o.cell];rfl
     have a1:w5.cell? ⟨gb,1,none⟩=some (.int .u64 now):=by rw[HB.o.cell];rfl
     have z:=O (fun(w')(c:Qc G w5 w')=>(show w'.cell? ⟨gb,0,none⟩=some (ptr sb)∧w'.cell? ⟨gb,1,none⟩=some (.int .u64 now)from⟨by rw[(c.blk HB.o a5).cell];rfl,by rw[(c.blk HB.o a5).cell];rfl⟩));clear bj c5 ak a5 bk az ho f0 hd bc;unfold ptr at*;go_wp2_with fail;go_cut [9,10] (fun s9 b8 wz=>(∃r,s9=.pointer (some ⟨r,0,none⟩)∧Qh wz r (Bq o) 50∧w5.heap.size≤r)∧b8=.bool o.isSome∧Xm sb us us wz (Qn Fn w5 wz) gb (s'.next now).2 now true ps∧Qc Fn w5 wz)
     case first=>
      refine Ui (.lookp 0 (.lookp 1 (.lookp 2 (.lookp 3 (.lookp 4 (.lookp 5 (.lookp 6 (.lookp 7 (.fork 8 (.lookp 9 (.lookp 10 (.lookp 11 (.walk 12 (.walk 13 (.walk 14 .nil)))))) 12 (.walk 8 (.look 9 (.look 10 (.lookp 11 (.walk 13 (.walk 14 .nil))))))))))))))) (fun wv=>Qc (G) (w5) wv) Zq (by kernel_rfl) (fun _ _ _ _ _ h=>h) (by(repeat' (first|(with_reducible first|exact Zg _ _|assumption|refine Zh ?_ _|refine Zi ?_ _|refine Zj ?_|refine Zk ?_ _ ?_|(apply Or.inl;rfl))|(apply Or.inl;simp;done)|(apply Or.inr;simp;first|done|omega)))) ?_;simp only[O0,Zf,Ze,Zd];iterate 3 (first|(refine Vd (by kernel_rfl) (by go_simp;try rfl) ?_)|(refine Xi (by kernel_rfl) (fun wv hv=>by go_simp;try rfl) ?_);try simp only[Act.put,Za,Zc,Zb])
      iterate 1 (refine Xi (by kernel_rfl) (fun wv hv=>by(obtain⟨z0,z1⟩:=z.o wv hv);go_simp;try rfl) ?_;try simp only[Act.put,Za,Zc,Zb])
      iterate 3 (first|(refine Vd (by kernel_rfl) (by go_simp;try rfl) ?_)|(refine Xi (by kernel_rfl) (fun wv hv=>by go_simp;try rfl) ?_);try simp only[Act.put,Za,Zc,Zb])
      iterate 1 (refine Xi (by kernel_rfl) (fun wv hv=>by(obtain⟨z0,z1⟩:=z.o wv hv);go_simp;try rfl) ?_;try simp only[Act.put,Za,Zc,Zb])
      clear a0 a1;refine Gn ?_ ?_
      ·go_wp2_with fail;refine Zz (aw.o _ (Zg Qb w5).drew) ?_;rintro w6⟨h2,c2⟩;have C6:=O (show Qc G w5 w6 from(Zg G w5).drew.aA c2);have H2:=O h2;clear h2 c2;go_wp2_with fail;refine⟨C6.o,?_⟩;iterate 3 (first|(refine Vd (by kernel_rfl) (by go_simp;try rfl) ?_)|(refine Xi (by kernel_rfl) (fun wv hv=>by go_simp;try rfl) ?_);try simp only[Act.put,Za,Zc,Zb])
       refine Xt ?_;go_wp2_with fail;refine⟨C6.o.alloc _,?_⟩;obtain⟨W3,s3,ab,B⟩:=Q0 (P:=prog) (vs:=Bq o) (Qh.new w6 #[.int .u64 0,.int .i64 0,.int .i64 0,.int .u64 0,.int .u8 0,.int .u64 0] 50) (Uq o) (Ga _);have D3:=O (show Qc G w5 W3 from(C6.o.alloc _).trans B (fun k e=>.inr (by have:=C6.o.size;omega)));have N3:=O (show Qc Qb w6 W3 from((Zg Qb w6).alloc _).trans B (fun k e=>.inr (by omega)));have au:=O ab;clear ab B;refine Xt ?_;go_wp2_with fail;refine⟨D3.o,?_⟩;refine Xt ?_;go_wp2_with fail;refine⟨D3.o,?_⟩;refine U9 ?_;clear s3;go_wp2_with fail;go_meet;have cF:=D3.o.sub U.o;refine⟨⟨_,rfl,au.o,C6.o.size⟩,?_,(H2.o.aB N3.o (Jl.none _)).more (fun k d=>d.elim .inl (fun d=>.inr ⟨d.1,Nat.lt_of_lt_of_le d.2 N3.o.size⟩)) (av.o.ext cF),cF⟩;rfl
      ·go_wp2_with fail;have CA:=O ((Zg Qb w5).drew.alloc (.cells #[.int .u64 0,.int .i64 0,.int .i64 0,.int .u64 0,.int .u8 0,.int .u64 0] 50));have BA:=O (show Qh (w5.drew.alloc (.cells #[.int .u64 0,.int .i64 0,.int .i64 0,.int .u64 0,.int .u8 0,.int .u64 0] 50)) w5.heap.size #[.int .u64 0,.int .i64 0,.int .i64 0,.int .u64 0,.int .u8 0,.int .u64 0] 50 from Qh.new w5.drew _ _);refine⟨CA.o.mono (fun k h=>h.elim),?_⟩;refine Xt ?_;go_wp2_with fail;refine(aw.o _ CA.o).mono ?_;rintro e w6⟨rfl,h2,c2⟩;have C6:=O (show Qc G w5 w6 from(CA.o.none (F:=G)).aA c2);have H2:=O h2;obtain⟨W3,s3,ab,B⟩:=Q0 (P:=prog) (vs:=Bq o) (c2.blk BA.o (fun d=>NG.o _ (Zv _) (U.o _ d))) (Uq o) (Ga _);have au:=O ab;have N3:=O (show Qc (fun k=>k=w5.heap.size) w6 W3 from B);have D3:=O (show Qc G w5 W3 from C6.o.trans B (fun k e=>.inr (by omega)));clear h2 c2 ab B;go_wp2_with fail;refine⟨C6.o,?_⟩;iterate 3 (first|(refine Vd (by kernel_rfl) (by go_simp;try rfl) ?_)|(refine Xi (by kernel_rfl) (fun wv hv=>by go_simp;try rfl) ?_);try simp only[Act.put,Za,Zc,Zb])
       refine Xt ?_;go_wp2_with fail;refine⟨D3.o,?_⟩;refine Xt ?_;go_wp2_with fail;refine⟨D3.o,?_⟩;refine U9 ?_;clear s3;go_wp2_with fail;go_meet;have cF:=D3.o.sub U.o;have z1:=CA.o.size;have z2:=N3.o.size;refine⟨⟨_,rfl,au.o,Zv _⟩,rfl,(H2.o.aB N3.o (fun k d e=>d.elim (fun d=>NG.o k (by omega) d) (fun d=>by have:=BA.o.lt;omega))).more (fun k d=>d.elim .inl (fun d=>.inr (by omega))) (av.o.ext cF),cF⟩
     case rest=>
      obtain⟨⟨r,rfl,hR,hr⟩,rfl,hA,cW⟩:=hcut;obtain⟨V6,bl⟩:=Zx wc;rw[←bl]at hR hA cW⊢;clear bl aw z a0 a1;have CW:=O cW;have HR:=O hR;have bg:=(Qt.obj.aB bb.o cW (fun k h1 h2=>by have:=((Qr k).1 h1).1;have:=R.o k h2;omega)).ticks ag.o (by omega);have K:Hi (Qc F2 w4 V6):=O ((HC.o.trans C5.o (fun k h=>h.elim)).trans cW (fun k d=>by
       rw[bd.o]at d;exact d.elim .inl fun h=>.inr h.1))
      have a8:=O (show Xm sb us us V6 (Qn F2 w4 V6) gb (s'.next now).2 now true ps from hA.more (fun k d=>by
       have z1:=HC.o.size;have z2:=C5.o.size;have z3:=cW.size;rcases d with d|d;·rw[bd.o]at d;exact d.elim .inl fun h=>.inr (by omega)
       ·exact .inr (by omega)) (fun k d=>d.elim (fun h=>by
        have k1:=ae.o k h;have k2:=C4.o.size;have k3:=K.o.size;omega) (fun h=>h.2)))
      have ap:=O (fun(w')(c:Qc Qb V6 w')=>(show w'.cell? ⟨gb,1,none⟩=some (.int .u64 now)from by rw[(c.blk a8.o.blk.1 (fun h=>h)).cell];rfl));have aj:=O (Qlc ag.o bv.o);rw[aa.o,←HL.o,←HO.o]at aj;have bh:=O (show Xp (2400+16*(n+1)) (s'.next now).2 from by rw[Nat.mul_add];exact ag.o.next now);have bi:=O (show(s'.next now).2.tree=s.tree from(Qdz now).trans aa.o);clear hR hA cW bb HG R HO;go_wp2_with fail;go_loopw [11,12,13] (fun b9 ca a6 wi=>∃i:Nat,a6=.int .i64 i∧i≤n0∧b9=.bool (Ul s' now (L.take i)).1∧ca=.int .u64 (((Ul s' now (L.take i)).2:Nat):Int)∧Qc Qb V6 wi) (fun _ _ a6 _=>n0-(intOf a6).toNat);case atStart=>exact⟨0,rfl,Nat.zero_le _,rfl,by rw[show(Ul s' now (L.take 0)).2=Qq from rfl,Yf];rfl,Zg _ _⟩
      case round=>
       obtain⟨i,rfl,hi,rfl,rfl,q⟩:=hrel;obtain⟨Vi,bm⟩:=Zx wr;rw[←bm]at q⊢;clear bm;have a9:=O q;by_cases bq:i<n0
       ·have b2:decide ((i:Int)<(n0:Int))=true:=by simp;omega
        have b3:decide (i<n0)=true:=by simpa using bq
        obtain⟨x,hx⟩:∃x,L[i]? =some x:=⟨_,List.getElem?_eq_getElem (by have:=bf.o;omega)⟩;obtain⟨g,rfl,b0⟩:=LV.o Vi (K.o.trans q (fun k h=>h.elim)) i x hx;have Z:=O (bg.o Vi q x);have ST:=Ql6 (s:=s') (t:=now) hx;unfold Hc at ST;have cg:IntKind.i64.wrap ((i:Int)+1)=(i:Int)+1:=by rw[IntWalk.i64_in _ (by have:=bw.o;omega)]
        have i0:(0:Int)≤(i:Int):=by omega
        have i1:(i:Int)<(n0:Int):=by omega
        generalize s'.elig x=ea at ST Z;generalize s'.due x=da at ST Z;generalize s'.fit x=fa at Z;generalize Ul s' now (L.take i)=st at ST⊢;obtain⟨b1,m1⟩:=st;have ai:=O ST;clear ST hx q;go_wp2_with fail;refine Zy Z ?_;intro w7 c7;have C7:=O (a9.o.aA c7);have f1:=ap.o w7 C7.o;clear c7 b0;by_cases he:ea≤now
        ·have a2:decide (ea≤now)=true:=by simpa using he
         have a3:decide (now<ea)=false:=by simp;omega
         have u:=O (show Ul s' now (L.take (i+1))=(true,min m1 da) by rw[ai.o,if_pos he]);clear ai;go_wp2_with fail;go_roundw;case measure=>simp only[intOf];omega
         case rel=>exact⟨i+1,by rw[←Int.natCast_one,←Int.natCast_add],by omega,by rw[u.o],by rw[u.o];congr 1;dsimp only;omega,C7.o⟩
        ·have a2:decide (ea≤now)=false:=by simp;omega
         have a3:decide (now<ea)=true:=by simp;omega
         have u:=O (show Ul s' now (L.take (i+1))=(b1,m1) by rw[ai.o,if_neg he]);clear ai;go_wp2_with fail;go_roundw;case measure=>simp only[intOf];omega
         case rel=>exact⟨i+1,by rw[←Int.natCast_one,←Int.natCast_add],by omega,by rw[u.o],by rw[u.o],C7.o⟩
       ·have b2:decide ((i:Int)<(n0:Int))=false:=by simp;omega
        have b3:decide (i<n0)=false:=by simpa using bq
        have TK:=O (show L.take i=L by rw[show i=n0 by omega,bf.o,List.take_length]);rw[TK.o];have bu:=aj.o;generalize Ul s' now L=rf at bu⊢;obtain⟨b1,m1⟩:=rf;have ah:=O (q.blk HR.o (fun h=>h));rcases bu with⟨rfl,h1⟩|⟨E,rfl,h1⟩;·obtain rfl:b1=false:=h1;have FF:=O (an.o Vi (K.o.trans q (fun k h=>h.elim)));clear q aj TK;go_wp2;go_ret;exact⟨rfl,FF.o⟩
        ·have Z:=O (bg.o Vi q E.p.cls);obtain⟨q0,q1,q2,q3,q4,q5⟩:=Lf (show Qh Vi r #[.int .u64 E.p.id,.int .i64 E.p.cls,.int .i64 E.p.len,.int .u64 E.p.at_,.int .u8 E.rule,.int .u64 E.due] _ from ah.o);have J:=O (fun(w')(c:Qc Qb Vi w')=>(show w'.cell? ⟨r,4,none⟩=some (.int .u8 E.rule)∧w'.cell? ⟨r,5,none⟩=some (.int .u64 E.due)from⟨(c.blk ah.o (fun h=>h)).at 4 rfl,(c.blk ah.o (fun h=>h)).at 5 rfl⟩));have H1:=O h1;generalize s'.elig E.p.cls=ea at H1 Z;generalize s'.due E.p.cls=da at H1 Z;generalize s'.fit E.p.cls=fa at H1 Z;generalize E.p.cls=cl at q1 Z;generalize E.rule=ru at H1 J;generalize E.due=du at H1 J;clear q aj TK h1 q0 q2 q3 q4 q5 ah HR;go_wp2_with fail;refine Zy Z ?_;intro w7 c7;obtain⟨f4,f5⟩:=J.o w7 c7;have C7:=O (a9.o.aA c7);have f1:=ap.o w7 C7.o;have FF:=O (show Xm sb us us w7 (Qn F2 w4 w7) gb (s'.next now).2 now true ps∧Qc F2 w4 w7 from⟨(a8.o.aB C7.o (Jl.none _)).more (fun k d=>Qn.later C7.o.size k d) (fun k d=>d.elim (fun h=>by
          have k1:=ae.o k h;have k2:=C4.o.size;have k3:=K.o.size;have k4:=C7.o.size;omega) (fun h=>h.2)),K.o.trans C7.o (fun k h=>h.elim)⟩)
         clear c7 q1 Z J;rcases H1.o with⟨rfl,rfl,h3,rfl,rfl⟩|⟨rfl,rfl,h3,rfl⟩
         ·have a2:decide (ea≤now)=true:=by simpa using h3
          have a3:decide (now<ea)=false:=by simp;omega
          clear h3 H1;go_wp2_with fail;go_roundw;case measure=>simp only[intOf];have:=af.o;omega
          case rel=>exact⟨n+1,_,by rw[←Int.natCast_one,←Int.natCast_add],by have:=af.o;omega,FF.o.1,bh.o,bi.o,FF.o.2⟩
         ·have a2:decide (fa≤now)=true:=by simpa using h3
          have a3:decide (now<fa)=false:=by simp;omega
          clear h3 H1;go_wp2_with fail;go_roundw;case measure=>simp only[intOf];have:=af.o;omega
          case rel=>exact⟨n+1,_,by rw[←Int.natCast_one,←Int.natCast_add],by have:=af.o;omega,FF.o.1,bh.o,bi.o,FF.o.2⟩
    ·have hd:decide ((n:Int)<6)=false:=by simp;omega
     have FF:=O (an.o V hc);clear hG hc am I;go_wp2;go_ret;exact⟨rfl,FF.o⟩
end
end Go.Proofs.YtnnhmpehkbihnaaGreat
