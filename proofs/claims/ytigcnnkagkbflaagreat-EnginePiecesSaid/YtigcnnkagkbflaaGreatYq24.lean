/- A part of the proof: no condition. -/
import Derived.Test.YtigcnnkagkbflaaGreatYq23
import Derived.ArgAppend
namespace Go.Proofs.YtigcnnkagkbflaaGreat
set_option linter.unusedVariables false
set_option maxRecDepth 100000
set_option maxHeartbeats 4000000
open Go.RowKit
open Go.Proofs.Tryz
attribute [local go_sem] Qp
attribute [local irreducible] Kl J9 Xo
section
variable{A:EAd}{w w' W V:World}{F:Fp}{b:Nat}{e:Vi}
theorem Q13{v:Value}{l:List D7}{w1}(h:Qxw w1 v l)(I:l.length<1099511627776)(c:Qc Qb w w1):
  Cl 38 #[v] w1 λr w2=>∃a n cap,r=.returned (.slice a n cap)/\Hi ((∀w3,Qc Qb w2 w3->Qwq (.slice a n cap) l w3 (λk=>w1.heap.size<=k/\k<w2.heap.size))/\Qc Qb w w2/\Qc Qb w1 w2):=
 (Qzo v l w1 h I).mono λr w2⟨J,B,q,z,E,_⟩=>by obtain⟨a,cap,rfl,_⟩:=q.row sentT.hc;exact⟨a,_,cap,B,O ⟨λw3 u=>⟨q.aB u (λ_ _ h=>h),λk d=>⟨E k d,q.lt k d⟩,λk d=>Nat.lt_of_lt_of_le d.2 u.size⟩,c.aA z,z⟩⟩
theorem Q1o(h:Qyf A w F b e){K:Nat}(ok:V4 K e)(hK:K<549755813000):
  Cl 26 #[ptr b] w λr w'=>∃p,r=.returned (ptr p)/\Qxn w' (Qn Qb w w') p e/\Qc Qb w w':=by
 obtain⟨N,ab,ac⟩:∃N,Xp N e.sched/\N<549755813000:=by obtain⟨N,h1,h2⟩:=ok.sok;exact⟨N,h1,by omega⟩
 have SL:e.sent.length<1099511627776:=by obtain⟨N,_,h⟩:=ok.sok;omega
 have UL:e.aM.toList.length<1099511627776:=by cases e.aM<;>simp
 have HN:=O (Qyu h.blk.1);have I:=O (λw'(c:Qc Qb w w')=>c.blk h.blk.1 (λh=>h));obtain⟨Gs,hs,-⟩:=h.schedOf;obtain⟨Gl,hl,-⟩:=h.linkOf;obtain⟨Gk,d,-⟩:=h.bookOf;obtain⟨Gu,hu,-⟩:=h.underOf;obtain⟨Gv,q,-⟩:=h.sentOf;have HS:=O (λw'(c:Qc Qb w w')=>Qzh Qt.obj (by obtain⟨B,hB⟩:=Qt.obj.aB hs c (Jl.none _);exact Qmc hB ab ac) c);have HL:=O (λw'(c:Qc Qb w w')=>Qzh P3.obj (Q09 (P3.obj.aB hl c (Jl.none _))) c);have HK:=O (λw'(c:Qc Qb w w')=>Qzh Qau.obj (Q05 (Qau.obj.aB d c (Jl.none _))) c);have HU:=O (λw'(c:Qc Qb w w')=>Q13 (hu.1.aB c (λ_ _ h=>h)) UL c);have HV:=O (λw'(c:Qc Qb w w')=>Q13 (q.1.aB c (λ_ _ h=>h)) SL c);have C0:=O (Zg Qb w).drew;have ae:Hi (∀w1 w2 w3 E u ps Z U vu vv,Qc Qb w w1->Qc Qb w1 w2->Qc Qb w2 w3->Qc Qb w3 E->Qc Qb E u->
   Qt u (λk=>w.heap.size<=k/\k<w1.heap.size) ps e.sched->P3 u (λk=>w1.heap.size<=k/\k<w2.heap.size) Z e.link->Qau u (λk=>w2.heap.size<=k/\k<w3.heap.size) U e.book->Qwq vu e.aM.toList u (λk=>w3.heap.size<=k/\k<E.heap.size)->Qwq vv e.sent u (λk=>E.heap.size<=k/\k<u.heap.size)->
   ∀z,z=u.alloc (.cells (Qyg ⟨ps,Z,U,vu,vv⟩ e) 87)->Qxn z (Qn Qb w z) u.heap.size e/\Qc Qb w z):=O (by
  intro w1 w2 w3 E u ps Z U vu vv c1 c2 c3 c4 c5 hs hl d hu q z hz;have cz:Qc Qb u z:=by rw[hz];exact(Zg _ _).alloc _
  have hB:Qh z u.heap.size (Qyg ⟨ps,Z,U,vu,vv⟩ e) 87:=by rw[hz];exact Qh.new _ _ _
  have z1:=c1.size;have z2:=c2.size;have z3:=c3.size;have z4:=c4.size;have z5:=c5.size;have z6:=hB.lt;have aa:=Qww vu e.aM.toList;have R:=Qww vv e.sent;have hm:Qyf ⟨ps,Z,U,vu,vv⟩ z (Qn Qb w z) u.heap.size e:=Qyf.made
   (λk=>if k<w1.heap.size then 1 else if k<w2.heap.size then 2 else if k<w3.heap.size then 3 else if k<E.heap.size then 4 else if k<u.heap.size then 5 else 0) hB (Qt.obj.aB hs cz (Jl.none _)) (P3.obj.aB hl cz (Jl.none _)) (Qau.obj.aB d cz (Jl.none _)) (aa.aB hu cz (Jl.none _)) (R.aB q cz (Jl.none _))
   (by(try dsimp only);repeat rw[if_neg (by omega)])
   (λk d=>by(try dsimp only);rw[if_pos d.2])
   (λk d=>by(try dsimp only);rw[if_neg (by omega),if_pos d.2])
   (λk d=>by(try dsimp only);rw[if_neg (by omega),if_neg (by omega),if_pos d.2])
   (λk d=>by(try dsimp only);rw[if_neg (by omega),if_neg (by omega),if_neg (by omega),if_pos d.2])
   (λk d=>by(try dsimp only);rw[if_neg (by omega),if_neg (by omega),if_neg (by omega),if_neg (by omega),if_pos d.2])
   (.inr ⟨by omega,by omega⟩) (λk d=>.inr ⟨by omega,by omega⟩) (λk d=>.inr ⟨by omega,by omega⟩) (λk d=>.inr ⟨by omega,by omega⟩) (λk d=>.inr ⟨by omega,by omega⟩) (λk d=>.inr ⟨by omega,by omega⟩)
   (λk d=>d.elim (λh=>h.elim) (λh=>h.2))
  exact⟨⟨_,hm⟩,((((c1.aA c2).aA c3).aA c4).aA c5).aA cz⟩)
 have a0:=Av (I.o _ C0.o);clear h ok ab ac SL UL hs hl d hu q;apply WH func26;go_wp2_with fail;apply Zo HN;rintro r w1⟨rfl,rfl⟩;go_wp2_with fail;apply YC [100,101,102,103,104,105,106,107,8,9,10,11,113,114,115,116,118,119,120,121,123,124,125,126,128,129,130,131,212,217,222,227,232,33,334,335] Qb w;iterate 3 (refine Qy (h:=?_);try simp only[Act.put,Za,Zc,Zb])
 iterate 1 (apply YK λ_ q=>Av (I.o _ q))
 iterate 3 (refine Qy (h:=?_);try simp only[Act.put,Za,Zc,Zb])
 iterate 1 (apply YK λ_ q=>Av (I.o _ q))
 iterate 4 (refine Xe (h:=?_))
 iterate 3 (refine Qy (h:=?_);try simp only[Act.put,Za,Zc,Zb])
 iterate 1 (apply YK λ_ q=>Av (I.o _ q))
 iterate 3 (refine Qy (h:=?_);try simp only[Act.put,Za,Zc,Zb])
 iterate 1 (apply YK λ_ q=>Av (I.o _ q))
 iterate 3 (refine Qy (h:=?_);try simp only[Act.put,Za,Zc,Zb])
 iterate 1 (apply YK λ_ q=>Av (I.o _ q))
 iterate 3 (refine Qy (h:=?_);try simp only[Act.put,Za,Zc,Zb])
 iterate 1 (apply YK λ_ q=>Av (I.o _ q))
 clear a0;refine Yb ?_;go_wp2_with fail;refine(HS.o _ C0.o).mono ?_;rintro r w1⟨ps,rfl,T1⟩;go_wp2_with fail;refine⟨T1.o.2.1,?_⟩;refine Yb ?_;go_wp2_with fail;refine(HL.o _ T1.o.2.1).mono ?_;rintro r w2⟨Z,rfl,T2⟩;go_wp2_with fail;refine⟨T2.o.2.1,?_⟩;refine Yb ?_;go_wp2_with fail;refine(HK.o _ T2.o.2.1).mono ?_;rintro r w3⟨U,rfl,T3⟩;go_wp2_with fail;refine⟨T3.o.2.1,?_⟩;refine Yb ?_;go_wp2_with fail;refine(HU.o _ T3.o.2.1).mono ?_;rintro r E⟨ua,un,uc,rfl,J⟩;go_wp2_with fail;refine⟨J.o.2.1,?_⟩;refine Yb ?_;go_wp2_with fail;refine(HV.o _ J.o.2.1).mono ?_;rintro r u⟨va,vn,vc,rfl,T5⟩;have FF:=O (ae.o w1 w2 w3 E u ps Z U (.slice ua un uc) (.slice va vn vc) T1.o.2.1 T2.o.2.2 T3.o.2.2 J.o.2.2 T5.o.2.2 (T1.o.1 _ (((T2.o.2.2.aA T3.o.2.2).aA J.o.2.2).aA T5.o.2.2)) (T2.o.1 _ ((T3.o.2.2.aA J.o.2.2).aA T5.o.2.2)) (T3.o.1 _ (J.o.2.2.aA T5.o.2.2)) (J.o.1 _ T5.o.2.2) (T5.o.1 _ (Zg _ _)));unfold Qyg ptr at FF;go_wp2_with fail;refine⟨T5.o.2.1,?_⟩;apply YA 0;go_wp2_with fail;apply YI 0;go_wp2;go_ret;exact⟨_,rfl,FF.o _ rfl⟩
end
section
variable{A:EAd}{w w' W V:World}{F F1:Fp}{b:Nat}{e:Vi}{x:D7}
theorem Qyy(h:Qxn w F b e){K:Nat}(U:V4 K e)(hK:K<549755813000)(u:Fr e)(c:Nat):ZW 12 #[ptr b,ZU c] w (ZI (e.advE c)) λw'=>Qxn w' (Qn F w w') b (e.adv c)/\Qc F w w':=by
 obtain⟨A,h⟩:=h;have k:=(V6.good (Qyg A e) A b e).bd h;have z:=O (Qyv h.blk.1);have q:=O (λw'(I:Qc Qb w w')=>Qxn.obj.same ⟨A,h⟩ I);have Z:=O (λw1(d:Qc Qb w w1)=>Av (h.aB d).blk.1);have HA:Hi (∀w1,Qc Qb w w1->ZW 37 #[ptr b,ZU c] w1 (.tuple #[]) λw2=>Qxn w2 (Qn F w w2) b (e.run c)/\Qc F w w2):=O (λw1 d=>by
  refine(Qzr ⟨A,h.aB d⟩ U hK u c).mono ?_;rintro r w2⟨rfl,J,E⟩;have I:Qc F w w2:=d.none.aA E;exact⟨rfl,Qxn.obj.more J (Ke d.size) (k.ext I),I⟩)
 unfold Vi.adv Vi.advE;cases B:e.stopped with
 |true=> rw[B]at z;rw[if_pos rfl,if_neg (by decide)];clear h B k U u;apply WH func12;go_wp2_with fail;apply Zo z;rintro r w1⟨rfl,d⟩;have K:=O (q.o w1 d);clear d;exact WD K
 |false=>
  rw[B]at z;rw[if_neg Bool.false_ne_true];by_cases R:c<e.now;·rw[if_pos R,if_neg (by decide)];have d1:=ZT (show c<e.now by omega);clear h B k U u R;apply WH func12;go_wp2_with fail;apply Zo z;rintro r w1⟨rfl,d⟩;have a0:=Z.o w1 d;have K:=O (q.o w1 d);clear d;exact WD K
  .rw[if_neg R,if_pos rfl];have d1:=ZN (show¬c<e.now by omega);clear h B k U u R;apply WH func12;go_wp2_with fail;apply Zo z;rintro r w1⟨rfl,d⟩;have a0:=Z.o w1 d;have C1:=O d;clear d;go_wp2_with fail;refine(HA.o _ C1.o).mono ?_;rintro r w2⟨rfl,J,E⟩;have K:=O (Zt J E);clear J E;exact WD K
end
section
variable{K:Nat}{e:Vi}
theorem Fr.new(d:Nat)(c:Int)(k:Nat):Fr (Vi.new d c k):=nofun
theorem Fr.add(u:Fr e)(s:Yk):Fr (e.add s):=by unfold Vi.add;split<;>exact u
theorem Fr.change(u:Fr e)(s:Yk):Fr (e.change s):=by unfold Vi.change;split<;>exact u
theorem Fr.drop(u:Fr e)(i:Int):Fr (e.drop i):=by
 unfold Vi.drop;split;·exact u
 .split<;>exact u
theorem Fr.adv(u:Fr e)(c:V4 K e)(til:Nat):Fr (e.adv til):=by
 unfold Vi.adv;split;·exact u.run c til
 .exact u
theorem Fr.arr(u:Fr e)(c:V4 K e)(p:Jr):Fr (e.arr p):=by
 rw[Qwb];split;·exact u
 .have k:=c.run e.now;have u1:=u.run c e.now;split;·rename_i d;exact Fr.run (e:=(e.run e.now).came (e.arrP p)) u1 (k.came d) _
  .exact u1
theorem Fr.does(u:Fr e)(d:V4 K e)(k:Nat)(s:Yk)(p:Jr)(c:Nat):Fr (e.does k s p c):=by
 unfold Vi.does;split;·exact u.add s
 split;·exact u.change s
 split;·exact u.drop s.id
 split;·exact u.arr d p
 split;·exact u.adv d _
 .exact u.step d _
end
theorem Qz5:prog.eqGuardType prog.depth 46=false:=by kernel_rfl
theorem Q02:prog.stoodInHeld 46=false:=by kernel_rfl
section
attribute [local go_sem] Qz5 Q02
theorem Qy8(c d k q u z B E:Int)(w):(binOp .eql 46 (.agg #[ZU c,ZU d,ZU k,ZU q,ZU u,ZU z,ZU B,ZU E]) (.agg #[ZU c,ZU d,ZU k,ZU q,ZU u,ZU z,ZU B,ZU E])).run prog w=.ok (.bool true) w:=by go_simp
end
structure GE(W w:World)(G:Fp)(b:Nat)(e:Vi):Prop where
 is:Qxn w G b e
 lo:∀k,G k->W.heap.size<=k
 chg:Qc Qb W w
section
variable{W w w':World}{G:Fp}{b r:Nat}{e e':Vi}{cs:Array Value}{t:TypeId}
theorem GE.step(h:GE W w G b e)(d:Qxn w' (Qn G w w') b e')(q:Qc G w w'):GE W w' (Qn G w w') b e':=
 ⟨d,λk c=>c.elim (h.lo k) (λe=>Zp h.chg.size e.1),h.chg.trans q λk c=>.inr (h.lo k c)⟩
theorem GE.aB(h:GE W w G b e)(c:Qc Qb w w'):GE W w' G b e:=⟨Qxn.obj.aB h.is c (Jl.none _),h.lo,h.chg.aA c⟩
theorem GE.new(h:Qxn w (Qn Qb W w) b e)(c:Qc Qb W w):GE W w (Qn Qb W w) b e:=⟨h,λk d=>d.elim (λh=>h.elim) (λh=>h.1),c⟩
def Qy2(w:World)(G:Fp)(r:Nat)(cs:Array Value)(t:TypeId):Prop:=Qh w r cs t/\¬G r
theorem Qy2.step(h:Qy2 w G r cs t)(c:Qc G w w'):Qy2 w' (Qn G w w') r cs t:=
 ⟨c.blk h.1 h.2,λd=>d.elim h.2 (λe=>by have:=h.1.lt;omega)⟩
theorem Qy2.aB(h:Qy2 w G r cs t)(c:Qc Qb w w'):Qy2 w' G r cs t:=⟨c.blk h.1 (λh=>h),h.2⟩
theorem Q0a(o:Option D7):∀v∈(Lq o).toList,v.oneCell'=true:=by
 cases o with
 |none=>intro v c;simp[Lq]at c;rcases c with rfl|rfl|rfl|rfl|rfl<;>rfl
 |some x=>intro v c;simp[Lq]at c;rcases c with rfl|rfl|rfl|rfl|rfl|rfl|rfl|rfl<;>rfl
theorem Q12(h:GE W w G b e)(o:Option D7):
  ∃w',(storeCells ⟨w.heap.size,0,none⟩ (Lq o).toList 0).run prog (w.alloc (.cells ZG 51))=.ok () w'/\GE W w' G b e/\Qy2 w' G w.heap.size (Lq o) 51/\Qc Qb w w':=by
 have d:(Lq o).size=8:=by cases o<;>rfl
 obtain⟨w',s3,c,q⟩:=Q0 (P:=prog) (vs:=Lq o) (Qh.new w ZG 51) d (Q0a o);have N3:Qc Qb w w':=((Zg Qb w).alloc _).trans q (λk e=>.inr (by omega));refine⟨w',s3,h.aB N3,⟨c,λu=>?_⟩,N3⟩;have:=Qxn.obj.bd h.is _ u;omega
end
section
attribute [local go_sem ↓] Qy8
theorem Qzx(W):ZW 7 #[] W (.bool true) λw'=>Qc Qb W w':=by
 have u0:Fr ew0:=Fr.new _ _ _;have u1:Fr ew1:=u0.add ewC;have u2:Fr ew2:=u1.adv ew_ok1 5;have u3:Fr ew3:=u2.arr ew_ok2 ewP;have u4:Fr ew4:=u3.arr ew_ok3 ewQ;have u5:Fr ew5:=u4.adv ew_ok4 4;have u6:Fr ew6:=u5.adv ew_ok5 99;have u7:Fr ew7:=u6.adv ew_ok6 200;have UN:Hi (∀w b G,Qxn w G b ew3->ZW 21 #[ZP b] w (.tuple #[.agg (Lq (some ewX)),.bool true]) λw'=>Qc Qb w w'):=O (λw b G h=>by
  obtain⟨A,hA⟩:=h;have:=Qzv hA;rw[Qyt]at this;exact this)
 have SE:Hi (∀w b G,Qxn w G b ew6->Cl 14 #[ZP b] w λe w'=>∃g cap,e=.returned (.slice (some ⟨g,0,none⟩) 1 cap)/\(∃cs,Qy2 w' G g cs 51/\∀(j:Nat)(u:Value),(Qxe ewX)[j]? =some u->cs[j]? =some u)/\Qc Qb w w'):=O (λw b G h=>by
  have aj:=Qxn.obj.bd h;obtain⟨A,hA⟩:=h;have:=Qz8 hA (by rw[Qyr];decide);rw[Qyr]at this;refine this.mono ?_;rintro r w'⟨v',rfl,h1,c1,h2⟩;obtain⟨g,cap,rfl,ho,cs,hB,hx⟩:=Qxw.one h1;exact⟨g,cap,rfl,⟨cs,⟨hB,λhk=>by have:=aj _ hk;have:=h2 g ho;omega⟩,hx⟩,c1⟩)
 have SA:Hi (∀w b G,Qxn w G b ew7->ZW 15 #[ZP b,ZI 0] w (.agg #[ZU 1,ZU 1,ZU 1,ZU 10,ZU 0,ZU 10,ZU 0,ZU 0]) λw'=>Qc Qb w w'):=O (λw b G h=>by
  obtain⟨A,hA⟩:=h;have:=Qzu hA ew_ok7.book 0;rw[Qyp]at this;exact this)
 obtain⟨N0,ag,_⟩:=ew_ok0.sok;have e7:ew7.adv 100=ew7:=by unfold Vi.adv;rw[if_neg (by rw[Qyo];decide)]
 have U:=O (Zt u1 (Zt u2 (Zt u3 (Zt u4 (Zt u5 (Zt u6 (Zt u7 (Zt e7 ag))))))));clear u0 u1 u2 u3 u4 u5 u6 u7 e7 ag;apply WH func7;go_wp2_with fail;refine(Q0r 256 1500 100 W Qyb).mono ?_;rintro e w1⟨b,rfl,h1,c1⟩;have S1:=O (show GE W _ _ b ew0 from GE.new h1 c1);unfold ptr;clear h1 c1;generalize Qn Qb W w1=G1 at S1;go_wp2_with fail;apply Zz (Q1k 256 1500 0 _ (by rw[Qyq];decide));intro w2 c2;rw[Qyq];have S2:=O (S1.o.aB c2);clear c2;go_wp2_with fail;apply Zz (Q0p S2.o.is U.o.2.2.2.2.2.2.2.2 ewC);rintro w3⟨h3,c3⟩;rw[Qyh];have S3:=O (show GE W _ _ b ew1 from S2.o.step h3 c3);clear h3 c3;generalize Qn G1 w2 w3=G3 at S3;go_wp2_with fail;apply Zz (Qyy S3.o.is ew_ok1 (by decide) U.o.1 5);rintro w4⟨h4,c4⟩;rw[Qyi];have S4:=O (show GE W _ _ b ew2 from S3.o.step h4 c4);clear h4 c4;generalize Qn G3 w3 w4=G4 at S4;go_wp2_with fail;apply Zz (Qzs S4.o.is ew_ok2 (by decide) U.o.2.1 ewP);rintro w5⟨h5,c5⟩;rw[Qyj];have S5:=O (show GE W _ _ b ew3 from S4.o.step h5 c5);clear h5 c5;generalize Qn G4 w4 w5=G5 at S5;go_wp2_with fail;apply Zz (UN.o _ _ _ S5.o.is);intro w6 c6;obtain⟨W6,s6,g6,a6,n6⟩:=Q12 (S5.o.aB c6) (some ewX);have S6:=O g6;have B6:=O a6;clear c6 g6 a6 n6;go_wp2_with fail;clear s6;apply Zz (Qzs S6.o.is ew_ok3 (by decide) U.o.2.2.1 ewQ);rintro w7⟨h7,c7⟩;rw[Qyk];have S7:=O (show GE W _ _ b ew4 from S6.o.step h7 c7);have B7:=O (B6.o.step c7);clear h7 c7;generalize Qn G5 W6 w7=G7 at S7 B7;go_wp2_with fail;apply Zz (Qyy S7.o.is ew_ok4 (by decide) U.o.2.2.2.1 4);rintro w8⟨h8,c8⟩;rw[Qyl];have S8:=O (show GE W _ _ b ew5 from S7.o.step h8 c8);have B8:=O (B7.o.step c8);clear h8 c8;generalize Qn G7 w7 w8=G8 at S8 B8;go_wp2_with fail;apply Zz (Qyy S8.o.is ew_ok5 (by decide) U.o.2.2.2.2.1 99);rintro w9⟨h9,c9⟩;rw[Qym];have S9:=O (show GE W _ _ b ew6 from S8.o.step h9 c9);have B9:=O (B8.o.step c9);clear h9 c9;generalize Qn G8 w8 w9=G9 at S9 B9;go_wp2_with fail;refine(SE.o _ _ _ S9.o.is).mono ?_;rintro e ak⟨g,cap,rfl,⟨cs,ae,hx⟩,E⟩;have V:=O (S9.o.aB E);have ah:=O (B9.o.aB E);have K:=O (Zt ae hx);clear ae hx E;go_wp2_with fail;apply Zz (Qyy V.o.is ew_ok6 (by decide) U.o.2.2.2.2.2.1 200);rintro c⟨af,d⟩;rw[Qyn];have z:=O (show GE W _ _ b ew7 from V.o.step af d);have J:=O (ah.o.step d);have R:=O (K.o.1.step d);clear af d;generalize Qn G9 ak c=an at z J R;have x0:=Ja (show Qh c w6.heap.size #[ZU 7,ZI 1,ZI 10,ZU 5,.int .u8 2,ZU 5,ZU 15,ZU 0] _ from J.o.1);have y0:=(show c.cell? ⟨g,0,none⟩=some (ZU 7)/\c.cell? ⟨g,1,none⟩=some (ZI 1)/\c.cell? ⟨g,2,none⟩=some (ZI 10)/\c.cell? ⟨g,3,none⟩=some (ZU 5)/\c.cell? ⟨g,4,none⟩=some (.int .u8 2)/\c.cell? ⟨g,5,none⟩=some (ZU 5)/\c.cell? ⟨g,6,none⟩=some (ZU 15)/\c.cell? ⟨g,7,none⟩=some (ZU 0)from Q2u R.o.1 K.o.2);go_wp2_with fail;clear x0 y0;obtain⟨al,k⟩:=z.o.is;apply Zz (Qy1 k.blk.1);intro ao aa;rw[Qys.2];clear k;have B:=O (z.o.aB aa);clear aa;go_wp2_with fail;obtain⟨am,q⟩:=B.o.is;apply Zz (Qzt q.blk.1);rintro ap rfl;rw[Qys.1];clear q;go_wp2_with fail;apply Zz (Qyy B.o.is ew_ok7 (by decide) U.o.2.2.2.2.2.2.1 100);rintro aq⟨I,ab⟩;rw[Qyo];rw[U.o.2.2.2.2.2.2.2.1]at I;have Z:=O (B.o.step I ab);clear I ab;go_wp2_with fail;apply Z9 (SA.o _ _ _ Z.o.is) (λ_ ac=>(Z.o.aB ac).chg);intro ar ai;exact WD ai
end
def Q2e(x:Nat×Vi):Ya:=λw F=>Qxn w F x.1 x.2
theorem Qyw(l:List (Nat×Vi)):∀P∈l.map Q2e,Uy P:=λP c=>by obtain⟨x,_,rfl⟩:=Z3.1 c;exact Qxn.obj.good _ _
structure ES(V w:World)(F:Fp)(l:List (Nat×Vi)):Prop where
 is:Oh (l.map Q2e) w F
 lo:∀k,F k->V.heap.size<=k
 chg:Qc Qb V w
section
variable{V w w':World}{F G:Fp}{l:List (Nat×Vi)}{i b p K N:Nat}{e e':Vi}
theorem ES.aB(h:ES V w F l)(c:Qc Qb w w'):ES V w' F l:=⟨(Je (Qyw l)).aB h.is c (Jl.none _),h.lo,h.chg.aA c⟩
theorem ES.far{S:Nat->Prop}(h:ES V w F l)(c:Qc S w w')(d:Jl F S)(u:∀k,S k->V.heap.size<=k):ES V w' F l:=⟨(Je (Qyw l)).aB h.is c d,h.lo,h.chg.trans c λk q=>.inr (u k q)⟩
theorem ES.bd(h:ES V w F l):Bd F w:=(Je (Qyw l)).bd h.is
theorem ES.one(h:GE V w G b e):ES V w G [(b,e)]:=⟨Y6 h.is (Qxn.obj.bd h.is),h.lo,h.chg⟩
theorem ES.at(h:ES V w F l)(z:l[i]? =some (b,e)):∃G:Fp,Qxn w G b e/\∀w' e',Qxn w' (Qn G w w') b e'->Qc G w w'->ES V w' (Qn F w w') (l.set i (b,e'))/\Qc F w w':=by obtain⟨G,B,q,_,E⟩:=Xv i (Qyw l) (P:=Q2e (b,e)) (by rw[List.getElem?_map,z];rfl) h.is;refine⟨G,B,λw' e' u c=>⟨⟨by have:=E w' (Q2e (b,e')) c u;show Oh _ _ _;rw[List.map_set];exact this,λk d=>d.elim (h.lo k) (λx=>Zp h.chg.size x.1),h.chg.trans c λk d=>.inr (h.lo k (q k d))⟩,c.sub q⟩⟩
theorem ES.more(h:ES V w F l)(u:Qxn w' (Qn Qb w w') p e)(c:Qc Qb w w'):ES V w' (Qn F w w') ((p,e)::l):=
 have q:=(Je (Qyw l)).bd h.is
 ⟨Q7 u ((Je (Qyw l)).aB h.is c (Jl.none _)) (λk d z=>by have:=q k z;have:=(Qr k).1 d;omega) (λk d=>.inr ((Qr k).1 d)) (λk d=>.inl d) (q.ext c),λk d=>d.elim (h.lo k) (λx=>Zp h.chg.size x.1),h.chg.aA c⟩
theorem ES.adv(h:ES V w F l)(z:l[i]? =some (b,e))(E:V4 K e)(q:K<549755813000)(u:Fr e)(til:Nat):ZW 12 #[ptr b,ZU til] w (ZI (e.advE til)) λw'=>ES V w' (Qn F w w') (l.set i (b,e.adv til))/\Qc F w w':=by obtain⟨G,k,B⟩:=h.at z;refine(Qyy k E q u til).mono ?_;rintro r w'⟨rfl,d,c⟩;exact⟨rfl,B w' _ d c⟩
theorem ES.step(h:ES V w F l)(z:l[i]? =some (b,e))(E:V4 K e)(q:K<549755813000)(u:Fr e)(til:Nat):ZW 18 #[ptr b,ZU til] w (.tuple #[.agg (evO (e.step til).1),.bool (e.step til).1.isSome]) λw'=>ES V w' (Qn F w w') (l.set i (b,(e.step til).2))/\Qc F w w':=by obtain⟨G,k,B⟩:=h.at z;refine(Qzi k E q u til).mono ?_;rintro r w'⟨rfl,d,c⟩;exact⟨rfl,B w' _ d c⟩
theorem ES.now(h:ES V w F l)(d:l[i]? =some (b,e)):ZW 13 #[ptr b] w (ZU e.now) λw'=>w=w':=by obtain⟨G,⟨A,c⟩,_⟩:=h.at d;exact Qzt c.blk.1
theorem ES.stop(h:ES V w F l)(d:l[i]? =some (b,e)):ZW 10 #[ptr b] w (.bool e.stopped) λw'=>Qc Qb w w':=by obtain⟨G,⟨A,c⟩,_⟩:=h.at d;exact Qy1 c.blk.1
theorem ES.sent(h:ES V w F l)(z:l[i]? =some (b,e))(B:e.sent.length<1099511627776):Cl 14 #[ptr b] w λr w'=>∃c,r=.returned c/\Qxw w' c e.sent/\Qc Qb w w':=by obtain⟨G,⟨A,u⟩,_⟩:=h.at z;refine(Qz8 u B).mono ?_;rintro r w'⟨c,d,k,q,_⟩;exact⟨c,d,k,q⟩
theorem ES.aM(h:ES V w F l)(d:l[i]? =some (b,e)):ZW 21 #[ptr b] w (.tuple #[.agg (Lq e.aM),.bool e.aM.isSome]) λw'=>Qc Qb w w':=by obtain⟨G,⟨A,c⟩,_⟩:=h.at d;exact Qzv c
theorem ES.stats(h:ES V w F l)(d:l[i]? =some (b,e))(k:BOk e.book)(id:Int):ZW 15 #[ptr b,ZI id] w (.agg (Qw0 (e.book.get id))) λw'=>Qc Qb w w':=by obtain⟨G,⟨A,c⟩,_⟩:=h.at d;exact Qzu c k id
theorem ES.copy(h:ES V w F l)(B:l[i]? =some (b,e))(E:V4 K e)(z:K<549755813000):Cl 26 #[ptr b] w λr w'=>∃p,r=.returned (ptr p)/\∃d,ES V w' d ((p,e)::l):=by obtain⟨G,⟨A,u⟩,_⟩:=h.at B;refine(Q1o u E z).mono ?_;rintro r w'⟨p,k,q,c⟩;exact⟨p,k,_,h.more q c⟩
end
section
variable{K:Nat}{e:Vi}
theorem Qxa{t til:Nat}(B:t<=til)(c:(e.step t).1.isSome=true):e.step til=e.step t:=by
 have z:e.clip t<=e.clip til:=by unfold Vi.clip;omega
 have k:¬e.stopped=true:=λh=>by rw[V3 h]at c;cases c
 unfold Vi.step at c|-;rw[if_neg k]at c|-;rw[if_neg k];cases q:e.aM with
 |some x=>
  rw[q]at c;dsimp only at c|-;by_cases d:x.til<=e.clip t;·rw[if_pos d,if_pos (by omega)]
  .rw[if_neg d]at c;cases c
 |none=>
  rw[q]at c;dsimp only at c|-;by_cases d:e.clip t<max e.now e.sched.tick;·rw[if_pos d]at c;cases c
  .rw[if_neg d];by_cases u:e.clip til<max e.now e.sched.tick;·omega
   .rw[if_neg u];have:e.idle (e.clip til)=e.idle (e.clip t):=by unfold Vi.idle;congr 1;omega
    rw[this]
theorem Qxb(h:V4 K e){t til:Nat}(h0:e.now<=t)(h1:t<=til)(hx:(e.step t).1=none):
  (e.step t).2.step til=e.step til\/((e.step t).2.step til=(none,(e.step t).2)/\e.step til=(none,(e.step t).2)):=by
 cases hs:e.stopped with
 |true=>rw[V3 hs];exact .inl rfl
 |false=>
  obtain⟨q1,q2,q3,q4,q5,q6,q7⟩:=(h.step t).2.2 hx hs;have u:¬e.stopped=true:=by rw[hs];decide
  have hn:=h.now;by_cases hh:e.hor<=t
  ·
   have U:e.clip t=e.hor:=by unfold Vi.clip;omega
   have V:e.clip til=e.clip t:=by unfold Vi.clip;omega
   have d:e.step til=e.step t:=by unfold Vi.step;rw[V]
   have q:(e.step t).2.stopped=true:=by unfold Vi.stopped;rw[q1,(W8 e t).1,U];simp
   exact .inr ⟨V3 q til,by rw[d];exact Prod.ext hx rfl⟩
  .have U:e.clip t=t:=by unfold Vi.clip;omega
   refine .inl ?_;cases z:e.aM with
   |some x=>
    have q:e.step t=(none,{e with now:=t}):=by have:=(q6 x z).1;unfold Vi.step;rw[if_neg u,z];dsimp only;rw[if_neg (by omega),U]
    rw[q];dsimp only;have B:Vi.clip {e with now:=t} til=e.clip til:=by unfold Vi.clip;dsimp only;omega
    unfold Vi.step;rw[if_neg u,if_neg (show¬Vi.stopped {e with now:=t}=true by unfold Vi.stopped;simp;omega),B,z];dsimp only;by_cases R:x.til<=e.clip til;·rw[if_pos R,if_pos R];rfl
    .rw[if_neg R,if_neg R]
   |none=>
    have h7:=q7 z;have hf:=h.free z;have Z:e.link.idle e.now={e.link with idles:=true}:=by unfold V2.idle V2.free;rw[if_pos (by simpa using hf)]
    obtain⟨J,I⟩:∃J:V2,J={e.link with idles:=true}:=⟨_,rfl⟩;have aa:J.idle t=J:=by rw[I];unfold V2.idle;split<;>rfl
    rw[<-I]at Z;obtain⟨d,c⟩:∃d:Vi,d={e with link:=J,now:=t}:=⟨_,rfl⟩;have q:e.step t=(none,d):=by unfold Vi.step;rw[if_neg u,z];dsimp only;rw[if_pos (by omega)];unfold Vi.idle;rw[if_pos (by omega),Z,U,c];congr 2;omega
    rw[q];dsimp only;have B:d.clip til=e.clip til:=by unfold Vi.clip;rw[c];dsimp only;omega
    have E:∀k,d.idle k=e.idle k:=λk=>by unfold Vi.idle;rw[c];dsimp only;rw[if_pos (by omega),if_pos (by omega),aa,Z];congr 1;omega
    have ac:d.aM=none:=by rw[c];exact z
    have ab:max d.now d.sched.tick=max e.now e.sched.tick:=by rw[c];show max t e.sched.tick=_;omega
    unfold Vi.step;rw[if_neg u,if_neg (show¬d.stopped=true by rw[c];unfold Vi.stopped;simp;omega),B,z,ac];dsimp only;rw[E,ab]
theorem Qxl(h:V4 K e){t:Nat}(k:e.now<=t):(e.step t).2.now<=max e.now (min t e.hor):=by
 have q:=h.now;have c:e.clip t<=min t e.hor:=by unfold Vi.clip;omega
 unfold Vi.step;split;·exact Nat.le_max_left _ _
 .split
  .rename_i x u;split;·show x.til<=_;omega
   .show e.clip t<=_;omega
  .split;·show min _ (e.clip t)<=_;omega
   .have d:(e.idle (e.clip t)).now<=max e.now (min t e.hor):=by show min _ (e.clip t)<=_;omega
    unfold Vi.choose;split<;>exact d
theorem Q01(d:e.stopped=true)(c:Nat):e.run c=e:=by rw[G9 (by rw[V3 d]),V3 d]
theorem Qxd:∀(n:Nat){e:Vi},e.left<n->V4 K e->∀{t til:Nat},e.now<=t->t<=til->(e.run t).run til=e.run til
 |0,_,h,_,_,_,_,_=>absurd h (Nat.not_lt_zero _)
 |n+1,e,hl,ok,t,til,h0,h1=>by
  obtain⟨B,E,_⟩:=ok.step t;cases d:(e.step t).1 with
  |some x=>
   have u:(e.step t).1.isSome=true:=by rw[d];rfl
   have k:=Qxa h1 u;have:=E x d;rw[P6 ok d,P6 ok (til:=til) (x:=x) (by rw[k];exact d),k];refine Qxd n (by omega) B ?_ h1;have:=Qxl ok h0;omega
  |none=>
   rw[G9 d];rcases Qxb ok h0 h1 d with c|⟨c,z⟩
   .cases q:(e.step til).1 with
    |none=>rw[G9 (by rw[c];exact q),G9 q,c]
    |some y=>rw[P6 B (x:=y) (by rw[c];exact q),P6 ok q,c]
   .rw[G9 (by rw[c]),G9 (by rw[z]),c,z]
theorem Qw8(q:V4 K e){t c:Nat}(d:e.now<=t)(k:t<=c):(e.run t).run c=e.run c:=Qxd _ (Nat.lt_succ_self _) q d k
end
section
variable{K:Nat}{e b d:Vi}{t t' til:Nat}
theorem Q0i(z:V4 K e)(til:Nat):(e.step til).2.left<=e.left:=by
 obtain⟨_,q,u⟩:=z.step til;cases c:e.stopped with
 |true=>rw[V3 c];exact Zv _
 |false=>
  cases k:(e.step til).1 with
  |some x=>have:=q x k;omega
  |none=> obtain⟨_,B,E,_⟩:=u k c;unfold Vi.left;rw[B,E];exact Zv _
theorem Q08(k:V4 K e)(til:Nat):(e.run til).left<=e.left:=
 Qwr (P:=λx=>x.left<=e.left) (Q:=λx=>x.left<=e.left) (λx c h _=>Zp (Q0i c til) h) (λx c h _=>Zp (Q0i c til) h) _ (Nat.lt_succ_self _) k (Zv _)
theorem Q2h(B:V4 K e)(k:Nat)(s:Yk)(p:Jr)(c:Nat):(e.does k s p c).left<=e.left+2:=by
 obtain⟨N,z,U⟩:=B.sok;have q:∀{M:Nat}{x:Qf},Xp M x->(∀i,x.qOf i=e.sched.qOf i)->∀b,Vi.left {e with sched:=x,book:=b}<=e.left+2:=λh J b=>by show 2*(Qf.many _ 0).toNat+_<=_;rw[Qe6 z h J];exact Nat.le_add_right _ _
 unfold Vi.does;split
 .unfold Vi.add;split;·omega
  .by_cases u:e.sched.aO s=0;·exact q (z.add u) (Qt8 z s) e.book
   .rw[Qem u];exact Nat.le_add_right _ _
 split
 .unfold Vi.change;split;·omega
  .by_cases u:e.sched.aG s=0;·exact q (z.change u) (Qbb s) e.book
   .rw[Sj u];exact Nat.le_add_right _ _
 split
 .unfold Vi.drop;split;·omega
  .split;·rename_i u;exact q (z.drop u) (Qsf z s.id) _
   .omega
 split
 .rw[Qwb];split;·omega
  .have hr:=Q08 B e.now;have E:=B.run e.now;obtain⟨M,R,_⟩:=E.sok;split
   .rename_i u;have V:=Q08 (E.came u) (e.run e.now).now;have I:=Qw6 R (e.run e.now).now u;have Z:=Qhw (s:=(e.run e.now).sched) 0;have h6:((e.run e.now).came (e.arrP p)).left=(e.run e.now).left+2:=by show 2*(((e.run e.now).sched.push (e.arrP p) (e.run e.now).now).many 0).toNat+(if(e.run e.now).aM.isSome then 1 else 0)=2*((e.run e.now).sched.many 0).toNat+(if(e.run e.now).aM.isSome then 1 else 0)+2;rw[I];omega
    omega
   .show(e.run e.now).left<=_;omega
 split
 .unfold Vi.adv;split;·have:=Q08 B (P4 e.now c);omega
  .omega
 .have:=Q0i B (P4 e.now c);omega
structure PcB(e b:Vi)(t:Nat):Prop where
 run:∀til,t<=til->b.run til=e.run til
 now:b.now<=t
theorem PcB.start(h:e.now<=t):PcB e e t:=⟨λ_ _=>rfl,h⟩
theorem Q1j(h:e.now<=til)(c:e.stopped=false):e.adv til=e.run til:=by unfold Vi.adv Vi.advE;rw[c,if_neg Bool.false_ne_true,if_neg (show¬til<e.now by omega),if_pos rfl]
theorem PcB.adv(h:PcB e b t)(k:V4 K b)(z:b.stopped=false)(q:t<=t'):PcB e (b.adv t') t'/\(b.adv t').run t'=b.adv t':=by have c:=Zp h.now q;rw[Q1j c z];exact⟨⟨λtil u=>(Qw8 k c u).trans (h.run til (Zp q u)),by rw[Qxc k c z];exact Nat.min_le_left _ _⟩,Qw8 k c (Zv _)⟩
theorem PcB.fin(h:PcB e b t)(k:t<=til)(c:b.stopped=true\/(b.run t=b/\t=til)):b=e.run til:=by
 rw[<-h.run til k];rcases c with c|⟨c,rfl⟩;·exact(Q01 c til).symm
 .exact c.symm
theorem Q2i(I:V4 K d){x:EvM}(k:(d.step til).1=some x):
  (x.kind=2/\(d.step til).2.sent=d.sent++[x.x]/\x.x.til=(d.step til).2.now)\/(x.kind=1/\(d.step til).2.sent=d.sent/\(d.step til).2.aM=some x.x/\x.x.frm=(d.step til).2.now):=by
 cases E:d.stopped with
 |true=>rw[V3 E]at k;cases k
 |false=>
  have B:¬d.stopped=true:=by rw[E];decide
  obtain⟨J,R⟩:=Qwo I til;unfold Vi.step at k|-;rw[if_neg B]at k|-;cases u:d.aM with
  |some y=>
   rw[u]at k;dsimp only at k|-;by_cases q:y.til<=d.clip til;·rw[if_pos q]at k|-;obtain rfl:=Zs k;exact .inl ⟨rfl,rfl,rfl⟩
   .rw[if_neg q]at k;cases k
  |none=>
   rw[u]at k;dsimp only at k|-;by_cases q:d.clip til<max d.now d.sched.tick;·rw[if_pos q]at k;cases k
   .rw[if_neg q]at k|-;have U:=I.idle u J R;rcases U.choose u with⟨V,_⟩|⟨c,s,_,z,_⟩;·rw[V]at k;cases k
    .rw[z]at k|-;obtain rfl:=Zs k;exact .inr ⟨rfl,rfl,rfl,rfl⟩
end
section
theorem Q0g:prog.eqGuardType prog.depth 51=false:=by kernel_rfl
theorem Q1h:prog.stoodInHeld 51=false:=by kernel_rfl
section
attribute [local go_sem] Q0g Q1h
theorem Q0k(x:D7)(w):(binOp .neq 51 (.agg (ZM x)) (.agg (ZM x))).run prog w=.ok (.bool false) w:=by go_simp
end
attribute [local go_sem ↓] Q0k
theorem Q1f(l:List D7)(a b:Option Addr)(E I:Nat)(w)(Z:l.length<1099511627776)(ha:Kb Qxe 8 w a l)(B:Kb Qxe 8 w b l):
  ZW 19 #[.slice a l.length E,.slice b l.length I] w (.bool true) λw'=>Qc Qb w w':=by
 have z:=O (Zt ha B);clear ha B;have J:((l.length:Int) !=(l.length:Int))=false:=by simp
 apply WH func19;go_wp2;go_loopw [5] (λi wr=>∃k:Nat,k<=l.length/\i=ZI k/\Qc Qb w wr) (λi _=>l.length-(intOf i).toNat);case atStart=>exact⟨0,by omega,rfl,Zg _ _⟩
 case round=>
  obtain⟨k,V,rfl,q⟩:=hrel;by_cases Xg:k<l.length
  .obtain⟨g,o,rfl,d⟩:=z.o.1.aB q (λ_ _ h=>h) k Xg;obtain⟨U,o2,rfl,c⟩:=z.o.2.aB q (λ_ _ h=>h) k Xg;generalize l[k]=x at d c;have K:=d 0 _ rfl;have s1:=d 1 _ rfl;have s2:=d 2 _ rfl;have s3:=d 3 _ rfl;have s4:=d 4 _ rfl;have s5:=d 5 _ rfl;have s6:=d 6 _ rfl;have s7:=d 7 _ rfl;have R:=c 0 _ rfl;have t1:=c 1 _ rfl;have t2:=c 2 _ rfl;have t3:=c 3 _ rfl;have t4:=c 4 _ rfl;have t5:=c 5 _ rfl;have t6:=c 6 _ rfl;have t7:=c 7 _ rfl;simp only[Nat.add_zero]at K R;have u:=O q;have k0:(0:Int)<=(k:Int):=by omega
   have k1:(k:Int)<(l.length:Int):=by omega
   clear d c q;go_wp2;go_quiet (fail);go_wp2;go_roundw;case rel=>exact⟨k+1,by omega,by go_num,u.o.drewN _⟩
   case measure=>simp[intOf];omega
  .have u:=O q;clear q;exact WD u
theorem Q00{l:List D7}{v k:Value}{w}(u:l.length<1099511627776)(h:Qxw w v l)(h':Qxw w k l):
  ZW 19 #[v,k] w (.bool true) λw'=>Qc Qb w w':=by
 obtain⟨a,cap,rfl,_,_,z⟩:=Own.row Qws h;obtain⟨q,c,rfl,_,_,d⟩:=Own.row Qws h';exact Q1f l a q cap c w u z d
end
def Uh(v:Value)(L:List Jr):Ya:=λw F=>Bd F w/\((v=.slice none 0 0/\L=[])\/∃b o cap c,v=.slice (some ⟨b,o,none⟩) L.length cap/\F b/\L.length<=cap/\cap<=maxLen/\Qh w b c 31/\o+cap*4<=c.size/\∀(j:Nat)(u:Value),(Jm Jr.cells L)[j]? =some u->c[o+j]? =some u)
theorem Nk(v:Value)(L:List Jr):Uy (Uh v L) where
 bd:=λh=>h.1
 aB:=λ⟨z,h⟩B K=>⟨z.later B,h.imp id λ⟨b,o,cap,c,k,d,q,E,I,J⟩=>⟨b,o,cap,c,k,d,q,E,B.blk I (K b d),J⟩⟩
 more:=λ⟨z,h⟩R u=>⟨u,h.imp id λ⟨b,o,cap,c,k,d,q⟩=>⟨b,o,cap,c,k,R b d,q⟩⟩
theorem Nj(L:List Jr):(Jm Jr.cells L).length=L.length*4:=by
 unfold Jm;induction L with
 |nil=>rfl
 |cons x t c=> simp only[List.flatMap_cons,List.length_append,c,Zm,Jr.aF];omega
theorem Qc7(L:List Jr)(p:Jr):Jm Jr.cells (L++[p])=Jm Jr.cells L++p.cells:=by unfold Jm;simp
section
variable{w w1:World}{F:Fp}{v:Value}{L:List Jr}
theorem Uh.nil{w}{F:Fp}(h:Bd F w):Uh (.slice none 0 0) [] w F:=⟨h,.inl ⟨rfl,rfl⟩⟩
theorem Uh.row(h:Uh v L w F):∃a cap,v=.slice a L.length cap/\L.length<=cap/\cap<=maxLen/\(L≠[]->∃b o c,a=some ⟨b,o,none⟩/\F b/\Qh w b c 31/\∀(j:Nat)(u:Value),(Jm Jr.cells L)[j]? =some u->w.cell? ⟨b,o+j,none⟩=some u):=by
 obtain⟨J,⟨rfl,rfl⟩|⟨b,o,cap,c,rfl,k,q,z,d,I,B⟩⟩:=h;·exact⟨none,0,rfl,Zv _,by simp[maxLen],λh=>absurd rfl h⟩
 .exact⟨_,cap,rfl,q,z,λ_=>⟨b,o,c,rfl,k,d,λj u E=>by rw[d.cell];exact B j u E⟩⟩
theorem Uh.ofOwn{w'}{L':List Jr}{I:Value}(B:Bd F w)(E:Qc F w w')(h:w'.ownsRow w.heap.size 31 4 I L'.length (Jm Jr.cells L')):Uh I L' w' (Qn F w w'):=by
 obtain⟨U,⟨k,q⟩|⟨g,cap,d,k,q,z,J,K,V,R⟩⟩:=h;·exact⟨B.ext E,.inl ⟨k,List.eq_nil_of_length_eq_zero q⟩⟩
 .refine⟨B.ext E,.inr ⟨g,0,cap,d,k,.inr ⟨q,(Z2.1 z).1⟩,J,K,z,by omega,λj u c=>?_⟩⟩;rw[<-R,List.getElem?_take]at c;split at c;·rw[Nat.zero_add,<-Array.getElem?_toList];exact c
  .cases c
theorem Uh.append(h:Uh v L w F)(hn:L.length+1<=4096)(p:Jr)(w1)(B:Qc Qb w w1){a:Addr}{c:Nat}(d:∀(j:Nat)(u:Value),p.cells[j]? =some u->w1.cell? (a.add j)=some u)(ty:TypeId):
  ∃q w',(Builtin.append_ #[58,58] ty #[v,.slice (some a) 1 c]).run prog w1=.ok q w'/\Uh q (L++[p]) w' (Qn F w w')/\Qc F w w':=by
 obtain⟨i,z,hi,hz,Z,U,aa⟩:=pktT.hi;have ab:∀u∈p.cells,u.oneCell'=true:=pktT.one p;obtain⟨hb,hv⟩:=h;have V:(L++[p]).length=L.length+1:=by simp
 have own:∀q w',w'.ownsRow w1.heap.size 31 4 q (L.length+1) (Jm Jr.cells L++p.cells)->w1.grownBy w' none->Uh q (L++[p]) w' (Qn F w w')/\Qc F w w':=by intro q w' h1 h2;have R:Qc F w1 w':=(Zg F w1).grown h2 (λk e=>by cases e);have h3:=Uh.ofOwn (F:=F) (w:=w1) (L':=L++[p]) (hb.later B) R (by rw[V,Qc7];exact h1);have c3:Qc F w w':=B.none.aA R;exact⟨(Nk q _).more h3 (Ke B.size) (hb.ext c3),c3⟩
 rcases hv with⟨rfl,rfl⟩|⟨b,o,cap,ae,rfl,h2,h3,h4,h5,h6,h7⟩;·obtain⟨q,w',K,ho,hg,_,_⟩:=run_append_own_at (P:=prog) w1 w1.heap.size 58 ty 31 i z 4 32 pktT.ht hi hz Z U (by rw[aa];rfl) (by omega) (.slice none 0 0) 0 [] (World.ownsRow_nil w1 _ _ _) a 1 c p.cells rfl d ab (by simp[maxLen]) (by omega) (Zv _);exact⟨q,w',K,own q w' ho hg⟩
 .have E:=B.blk h5 (λh=>h);by_cases J:L.length+1<=cap
  .have K:=run_append_room_cells (P:=prog) w1 58 ty 31 i pktT.ht hi b o L.length cap a 1 c p.cells (by rw[Z];rfl) d ab J
    (λj hj=>by rw[E.cell];simp only[Jr.aF]at hj;rw[Z];simp;omega) (λj hj=>E.frozen _)
   rw[Z]at K;obtain⟨ac,k1,k2,k3,k4⟩:=Vc (t:=31) p.cells (o+L.length*4) w1 ae E (by simp only[Jr.aF];omega);have R:Qc F w (w1.setCells b (o+L.length*4) p.cells):=B.none.aA (k4.sub λk e=>e▸h2);refine⟨_,_,K,⟨hb.ext R,.inr ⟨b,o,cap,ac,by rw[V],.inl h2,by omega,h4,k1,by omega,λj u I=>?_⟩⟩,R⟩;rw[Qc7]at I;rw[k3];have pl:=Jr.aF p;by_cases hj:j<L.length*4;·rw[if_neg (by omega)];rw[List.getElem?_append_left (by rw[Nj];exact hj)]at I;exact h7 j u I
   .rw[List.getElem?_append_right (by rw[Nj];omega),Nj]at I;have af:j-L.length*4<4:=(Z1.1 I).1;rw[if_pos (by omega)];rw[show o+j-(o+L.length*4)=j-L.length*4 from by omega];exact I
  .obtain⟨q,w',K,ho,hg⟩:=run_append_arg_grows (P:=prog) w1 58 ty 31 i z 4 32 pktT.ht hi hz Z U (by rw[aa];rfl) (by omega) ⟨b,o,none⟩ L.length cap (Jm Jr.cells L) (Nj L) (λj u I=>by
    rw[Addr.add_lit,E.cell];exact h7 j u I) a 1 c p.cells rfl d (by omega) (by simp[maxLen];omega) (by omega)
   exact⟨q,w',K,own q w' ho hg⟩
theorem Uh.head{x:Jr}{t:List Jr}(h:Uh v (x::t) w F):∃b o cap c,v=.slice (some ⟨b,o,none⟩) (t.length+1) cap/\t.length+1<=cap/\cap<=maxLen/\F b/\Qh w b c 31/\c[o]? =some (ZU x.id)/\c[o+1]? =some (ZI x.cls)/\c[o+2]? =some (ZI x.len)/\c[o+3]? =some (ZU x.at_)/\
  Uh (.slice (some ⟨b,o+4,none⟩) t.length (cap-1)) t w F/\(t=[]->Uh (.slice (some ⟨b,o,none⟩) 0 (cap-1)) t w F):=by
 obtain⟨E,⟨_,I⟩|⟨b,o,cap,c,rfl,k,B,J,q,K,d⟩⟩:=h;·cases I
 .simp only[Zm]at B;refine⟨b,o,cap,c,rfl,B,J,k,q,d 0 _ rfl,d 1 _ rfl,d 2 _ rfl,d 3 _ rfl,⟨E,.inr ⟨b,o+4,cap-1,c,rfl,k,by omega,by omega,q,by omega,λj u z=>?_⟩⟩,λe=>⟨E,.inr ⟨b,o,cap-1,c,by rw[e];rfl,k,by rw[e];exact Nat.zero_le _,by omega,q,by omega,λj u z=>by subst e;cases z⟩⟩⟩;have:=d (4+j) u (by
   show((Jr.cells x)++Jm Jr.cells t)[4+j]? =some u;rw[List.getElem?_append_right (by simp[Jr.aF])];rw[Jr.aF,show 4+j-4=j from by omega];exact z)
  rw[show o+4+j=o+(4+j)from by omega];exact this
end
def upd{X:Type}(f:Nat->X)(c:Nat)(x:X):Nat->X:=λk=>if k=c then x else f k
theorem Qbz{X:Type}(f:Nat->X)(c:Nat)(x:X):upd f c x c=x:=if_pos rfl
theorem Qb0{X:Type}(f:Nat->X){c k:Nat}(x:X)(h:k≠c):upd f c x k=f k:=if_neg h
theorem Qed{X:Type}(f:Nat->X)(n c:Nat)(x:X):((List.range n).map f).set c x=(List.range n).map (upd f c x):=by
 refine List.ext_getElem? λk=>?_;rw[List.getElem?_set];simp only[List.getElem?_map,List.length_map,List.length_range];by_cases d:k<n
 .rw[List.getElem?_range d];by_cases e:c=k;·subst e;simp[upd,d]
  .rw[if_neg e];simp only[upd,Zn];rw[if_neg (λh=>e h.symm)]
 .rw[List.getElem?_eq_none (by simp;omega)];split;·rw[if_neg (by omega)];rfl
  .rfl
section
variable{sb b now:Nat}{us vs:Nat->Value}{w w1:World}{F:Fp}{s:Qf}{fine:Bool}{ps:Nat->List Jr}
end
section
attribute [local go_sem ↓] X8 Yd
structure Yy where
 kind:Int
 s:Yk
 p:Jr
 after:Nat
def Yy.cells(a:Yy):List Value:=[.int .u8 a.kind,ZI a.s.id,ZI a.s.par,.bool a.s.leaf,ZU a.s.real.f,ZU a.s.real.l,ZU a.s.real.r,ZU a.s.share.f,ZU a.s.share.l,ZU a.s.share.r,ZU a.s.aN.f,ZU a.s.aN.l,ZU a.s.aN.r,ZI a.s.pk,ZI a.s.bt,ZU a.p.id,ZI a.p.cls,ZI a.p.len,ZU a.p.at_,ZU a.after]
def Yy.wf(a:Yy):Prop:=0<=a.kind/\a.kind<256/\a.after<18446744073709551616
theorem Q0w(n:Nat)(a:Option Addr)(cap:Nat)(w):ZW 8 #[.slice a n cap] w (.bool (decide (200<n))) λw'=>w=w':=by
 apply WH func8;go_wp2;go_ret;refine⟨?_,rfl⟩;congr 2;by_cases h:200<n;·simp[h];omega
 .simp[h];omega
theorem Q0h(now c:Nat)(w)(u:now<=1099511627776):ZW 35 #[ZU now,ZU c] w (ZU (P4 now c:Int)) λw'=>w=w':=by
 have k:(c:Int).tmod 1048576=((c%1048576:Nat):Int):=by rw[Int.tmod_eq_emod_of_nonneg (by omega)];omega
 obtain⟨q,d⟩:=Zx (c%1048576);have Xg:q<1048576:=by omega
 have z:min ((now:Int)+(q:Int)) 1099511627781=(P4 now c:Int):=by unfold P4;rw[<-d];omega
 rw[<-d]at k;have B:IntKind.u64.wrap ((now:Int)+(q:Int))=(now:Int)+(q:Int):=by rw[IntWalk.u64_in _ (by omega)]
 have E:IntKind.u64.wrap (q:Int)=(q:Int):=by rw[IntWalk.u64_in _ (by omega)]
 clear d Xg u;apply WH func35;exact WE
abbrev Q2d(d:Nat)(c:Int)(k:Nat):Array Value:=#[ZU d,ZI c,ZU k]
abbrev stN(c d k q u z B E:Nat):Array Value:=#[ZU c,ZU d,ZU k,ZU q,ZU u,ZU z,ZU B,ZU E]
theorem Yy.at20{w}{r:Nat}{a:Yy}{t:TypeId}(h:Qh w r a.cells.toArray t):w.cell? ⟨r,0,none⟩=some (.int .u8 a.kind)/\w.cell? ⟨r,1,none⟩=some (ZI a.s.id)/\w.cell? ⟨r,2,none⟩=some (ZI a.s.par)/\w.cell? ⟨r,3,none⟩=some (.bool a.s.leaf)/\w.cell? ⟨r,4,none⟩=some (ZU a.s.real.f)/\w.cell? ⟨r,5,none⟩=some (ZU a.s.real.l)/\w.cell? ⟨r,6,none⟩=some (ZU a.s.real.r)/\w.cell? ⟨r,7,none⟩=some (ZU a.s.share.f)/\w.cell? ⟨r,8,none⟩=some (ZU a.s.share.l)/\w.cell? ⟨r,9,none⟩=some (ZU a.s.share.r)/\w.cell? ⟨r,10,none⟩=some (ZU a.s.aN.f)/\w.cell? ⟨r,11,none⟩=some (ZU a.s.aN.l)/\w.cell? ⟨r,12,none⟩=some (ZU a.s.aN.r)/\w.cell? ⟨r,13,none⟩=some (ZI a.s.pk)/\w.cell? ⟨r,14,none⟩=some (ZI a.s.bt)/\w.cell? ⟨r,15,none⟩=some (ZU a.p.id)/\w.cell? ⟨r,16,none⟩=some (ZI a.p.cls)/\w.cell? ⟨r,17,none⟩=some (ZI a.p.len)/\w.cell? ⟨r,18,none⟩=some (ZU a.p.at_)/\w.cell? ⟨r,19,none⟩=some (ZU a.after):=
 ⟨h.at 0 rfl,h.at 1 rfl,h.at 2 rfl,h.at 3 rfl,h.at 4 rfl,h.at 5 rfl,h.at 6 rfl,h.at 7 rfl,h.at 8 rfl,h.at 9 rfl,h.at 10 rfl,h.at 11 rfl,h.at 12 rfl,h.at 13 rfl,h.at 14 rfl,h.at 15 rfl,h.at 16 rfl,h.at 17 rfl,h.at 18 rfl,h.at 19 rfl⟩
section
variable{w:World}{F:Fp}{b:Nat}{e:Vi}{K:Nat}
theorem Qxn.lifted{W w'}(h:Qxn w F b e)(c:Qc Qb w W){q:Vi}(h':Qxn w' (Qn F W w') b q)(u:Qc F W w'):Qxn w' (Qn F w w') b q/\Qc F w w':=by have d:Qc F w w':=c.none.aA u;exact⟨Qxn.obj.more h' (λk z=>z.elim .inl (λh=>.inr ⟨Zp c.size h.1,h.2⟩)) ((Qxn.obj.bd h).ext d),d⟩
theorem Q0v(h:Qxn w F b e)(J:V4 K e)(hK:K+33<549755813000)(u:Fr e)(a:Yy)(hw:a.wf):
  ZW 11 #[ptr b,.agg a.cells.toArray] w (ZI (e.aY a.kind.toNat a.s a.p a.after)) λw'=>Qxn w' (Qn F w w') b (e.does a.kind.toNat a.s a.p a.after)/\Qc F w w':=by
 have aa:=hw.1;obtain⟨W,Z⟩:=Zx (w.alloc (.cells a.cells.toArray 33));have c0:Qc Qb w W:=by rw[Z];exact(Zg _ _).alloc _
 have B0:Hi (Qh W w.heap.size a.cells.toArray 33):=O (by rw[Z];exact Qh.new _ _ _);have B:Qxn W F b e:=Qxn.obj.aB h c0 (Jl.none F);have d:=O (Zt h c0);obtain⟨N,U,_⟩:=J.sok;have al:=O (Q0p B U a.s);have am:=O (Q0q B U a.s);have an:=O (Q1p B J a.s.id);have ao:=O (Qzs B J hK u a.p);have ap:=O (λk(c:Qc Qb W k)=>Qyy (Qxn.obj.aB B c (Jl.none F)) J (by omega) u (P4 e.now a.after));have aq:=O (λk(c:Qc Qb W k)=>Qzi (Qxn.obj.aB B c (Jl.none F)) J (by omega) u (P4 e.now a.after));have HL:=O (λk=>Q0h e.now a.after k (Zp J.now J.hor.2));have HN:=O (λk(c:Qc Qb W k)=>by obtain⟨A,hA⟩:=Qxn.obj.aB B c (Jl.none F);exact Qzt hA.blk.1);have HX:=O (λk(c:Qc Qb W k)=>(show k.cell? ⟨w.heap.size,19,none⟩=some (ZU a.after)from(c.blk B0.o (λh=>h)).at 19 rfl));have X:=O (Yy.at20 B0.o);have e3:a.kind.tmod 7=a.kind%7:=Int.tmod_eq_emod_of_nonneg aa;have R:a.kind.toNat%7=(a.kind%7).toNat:=by omega
 have h7:a.kind%7=0\/a.kind%7=1\/a.kind%7=2\/a.kind%7=3\/a.kind%7=4\/a.kind%7=5\/a.kind%7=6:=by omega
 unfold Vi.aY Vi.does;unfold Fb at*;unfold Yy.cells at Z;unfold Yy.cells;clear h B c0 U J u hw aa;rcases h7 with I|I|I|I|I|I|I;all_goals
  rw[I]at e3 R;simp only[R];obtain⟨x0,x1,x2,x3,x4,x5,x6,x7,x8,x9,ab,ac,ae,af,ag,ah,ai,aj,ak,q⟩:=X.o;clear I R;go_enter func11,ntmps11;go_wp2_with fail;rw[<-Z];clear Z;go_wp2_with fail
 all_goals try((first|refine Zo al ?_|refine Zo am ?_|refine Zo an ?_|refine Zo ao ?_);rintro r w1⟨rfl,E,z⟩;have K:=O (d.o.1.lifted d.o.2 E z);clear E z;go_wp2;go_ret;exact⟨rfl,K.o⟩)
 .refine ZC [100,1,103,104,202,205,306,307] (λV=>Qc (Qb) (W) V) ?_;simp only[Z8,Zf,Ze,Zd];(refine Qy (h:=?_);try simp only[Act.put,Za,Zc,Zb]);refine Xe (h:=?_);(refine Qy (h:=?_);try simp only[Act.put,Za,Zc,Zb]);iterate 1 (refine Qy (by kernel_rfl) (λV hv=>by(have q:=HX.o V hv);go_simp;try rfl) ?_;try simp only[Act.put,Za,Zc,Zb])
  clear x0 x1 x2 x3 x4 x5 x6 x7 x8 x9 ab ac ae af ag ah ai aj ak q;refine Yb ?_;go_wp2_with fail;refine(HN.o _ (Zg Qb W).drew).mono ?_;rintro r w1⟨rfl,rfl⟩;go_wp2_with fail;refine⟨(Zg Qb W).drew,?_⟩;refine Yb ?_;go_wp2_with fail;refine(HL.o _).mono ?_;rintro r w1⟨rfl,rfl⟩;go_wp2_with fail;refine⟨(Zg Qb W).drew,?_⟩;refine Km ?_;go_wp2_with fail;refine(ap.o _ (Zg Qb W).drew).mono ?_;rintro r w1⟨rfl,E,z⟩;have K:=O (d.o.1.lifted (d.o.2.aA (Zg Qb W).drew) E z);clear E z;go_wp2_with fail;refine Km ?_;go_wp2_with fail;refine Ky ?_;go_wp2;go_ret;exact⟨rfl,K.o⟩
 all_goals
  refine ZC [100,1,103,104,202,205,306] (λV=>Qc (Qb) (W) V) ?_;simp only[Z8,Zf,Ze,Zd];(refine Qy (h:=?_);try simp only[Act.put,Za,Zc,Zb]);refine Xe (h:=?_);(refine Qy (h:=?_);try simp only[Act.put,Za,Zc,Zb]);iterate 1 (refine Qy (by kernel_rfl) (λV hv=>by(have q:=HX.o V hv);go_simp;try rfl) ?_;try simp only[Act.put,Za,Zc,Zb])
  clear x0 x1 x2 x3 x4 x5 x6 x7 x8 x9 ab ac ae af ag ah ai aj ak q;refine Yb ?_;go_wp2_with fail;refine(HN.o _ (Zg Qb W).drew).mono ?_;rintro r w1⟨rfl,rfl⟩;go_wp2_with fail;refine⟨(Zg Qb W).drew,?_⟩;refine Yb ?_;go_wp2_with fail;refine(HL.o _).mono ?_;rintro r w1⟨rfl,rfl⟩;go_wp2_with fail;refine⟨(Zg Qb W).drew,?_⟩;refine Km ?_;go_wp2_with fail;refine(aq.o _ (Zg Qb W).drew).mono ?_;rintro r w1⟨rfl,E,z⟩;have K:=O (d.o.1.lifted (d.o.2.aA (Zg Qb W).drew) E z);clear E z;go_wp2_with fail;refine Ky ?_;go_wp2;go_ret;exact⟨rfl,K.o⟩
end
end
def Vi.alls(e:Vi):List D7:=e.sent++e.aM.toList
def ofC(c:Int)(l:List D7):List Jr:=(l.filter λx=>decide (x.p.cls=c)).map D7.p
theorem Qx1(c:Int)(l m:List D7):ofC c (l++m)=ofC c l++ofC c m:=by unfold ofC;rw[List.filter_append,List.map_append]
theorem Qx2(c:Int)(x:D7):ofC c [x]=if x.p.cls=c then[x.p]else[]:=by grind [ofC]
structure Qx7(rate:Nat)(x:D7):Prop where
 cls:0<=x.p.cls/\x.p.cls<64
 len:Ll x.p
 at_:0<=x.p.at_/\x.p.at_<=x.frm
 til:x.frm<=x.til
 pace:x.p.len.toNat*256+x.frm*rate<(x.til+1)*rate
 far:x.til<=1152921504623624192+1048576
 slow:x.til*rate<=x.frm*rate+x.p.len.toNat*256+rate
structure D6(e:Vi)(put:Int->List Jr):Prop where
 put:∀c,0<=c->c<64->put c=ofC c e.alls++e.sched.qOf c
 none:∀c,¬(0<=c/\c<64)->e.sched.qOf c=[]
 at_:∀c,∀p∈e.sched.qOf c,0<=p.at_/\p.at_<=e.now
 ok:∀x∈e.alls,Qx7 e.rate x
 chain:e.alls.Pairwise λx y=>x.til<=y.frm
 last:∀x∈e.sent,x.til<=e.now
section
variable{K:Nat}{e:Vi}{put:Int->List Jr}
theorem D6.new(k:Nat)(d:Int)(q:Nat):D6 (Vi.new k d q) λ_=>[]:=
 ⟨λ_ _ _=>rfl,λ_ _=>rfl,λc p z=>(by cases z),λx u=>(by cases u),List.Pairwise.nil,λx u=>(by cases u)⟩
theorem D6.sched(h:D6 e put){s:Qf}(d:∀i,s.qOf i=e.sched.qOf i)(b:V1):D6 {e with sched:=s,book:=b} put:=
 ⟨λc k q=>by show put c=ofC c e.alls++s.qOf c;rw[d];exact h.put c k q,λc u=>(d c).trans (h.none c u),λc p z=>h.at_ c p (by rw[<-d c];exact z),h.ok,h.chain,h.last⟩
theorem D6.time(h:D6 e put)(l:V2){t:Nat}(k:e.now<=t):D6 {e with link:=l,now:=t} put:=
 ⟨h.put,h.none,λc p d=>⟨(h.at_ c p d).1,by have:=(h.at_ c p d).2;show p.at_<=(t:Int);omega⟩,h.ok,h.chain,λx q=>Zp (h.last x q) k⟩
theorem D6.through(h:D6 e put)(I:V4 K e){x:D7}(z:e.aM=some x):D6 (e.through x) put:=by
 have d:(e.through x).alls=e.alls:=by unfold Vi.alls Vi.through;rw[z];simp
 have q:=(I.und x z).2;refine⟨λc k B=>?_,h.none,λc p u=>⟨(h.at_ c p u).1,by have:=(h.at_ c p u).2;show p.at_<=(x.til:Int);omega⟩,?_,?_,λy E=>?_⟩;·rw[d];exact h.put c k B
 .rw[d];exact h.ok
 .rw[d];exact h.chain
 .show y.til<=x.til;rcases Zl.1 (show y∈e.sent++[x]from E)with k|k;·exact Zp (h.last y k) q
  .rw[List.mem_singleton.1 k];exact Zv _
theorem Q2p(l:V2)(now:Nat)(c:Int)(q:1<=l.rate):l.til now c*l.rate<=now*l.rate+c.toNat*256+l.rate:=by
 unfold V2.til;split
 .rename_i h;have u:l.send now c=⟨l.rate,l.from_ now+c.toNat*256,false⟩:=by unfold V2.send;rw[if_pos h]
  have B:l.from_ now<=now*l.rate:=by
   unfold V2.from_;split;·rename_i d;simp only[Zw,decide_eq_true_eq]at d;have k:=Qwh l.taken l.rate q;have:(l.taken+l.rate-1)/l.rate=now:=d.2.symm;rw[this]at k;exact k.1
   .exact Zv _
  have z:(l.send now c).aU=(l.from_ now+c.toNat*256+l.rate-1)/l.rate:=by rw[u];rfl
  rw[z];have:=(Qwh (l.from_ now+c.toNat*256) l.rate q).2;omega
 .omega
theorem D6.choose(h:D6 e put)(ok:V4 K e)(hu:e.aM=Option.none):D6 e.choose.2 put:=by
 rcases ok.choose hu with⟨I,_⟩|⟨c,s,_,d,B,_,_,hg,hr,hq,ho,ht,af,ac⟩;·rw[I];exact h
 .have J:e.alls=e.sent:=by unfold Vi.alls;rw[hu];simp
  have q:e.choose.2.alls=e.sent++[e.chosen c]:=by rw[d];rfl
  have hp:c.p∈e.sched.qOf c.p.cls:=by rw[hq];exact List.mem_cons_self ..
  have V:0<=c.p.cls/\c.p.cls<64:=Classical.byContradiction λhn=>by rw[h.none _ hn]at hp;cases hp
  have Z:(e.chosen c).til<=1152921504623624192+1048576:=by
   have ag:=(B.und (e.chosen c) (by rw[d])).1;have aj:=B.taken;have R:=B.rate;have u:=B.lrate;rw[d]at R u;rw[ag];have ah:=Qwh e.choose.2.link.taken e.choose.2.link.rate (by rw[d];dsimp only at u|-;rw[u];exact R.1);show(e.choose.2.link.taken+e.choose.2.link.rate-1)/e.choose.2.link.rate<=_;have ai:e.choose.2.link.rate<=1048576:=by rw[d];dsimp only at u|-;rw[u];exact R.2
   exact Zp (Nat.div_le_self _ _) (by omega)
  have U:∀i,i≠c.p.cls->e.choose.2.sched.qOf i=e.sched.qOf i:=by rw[d];exact ho
  have E:e.sched.qOf c.p.cls=c.p::e.choose.2.sched.qOf c.p.cls:=by rw[d];exact hq
  refine⟨λk I h2=>?_,λk hk=>?_,λk p ab=>?_,?_,?_,λy hy=>?_⟩
  .rw[q,Qx1,Qx2];have:=h.put k I h2;rw[J]at this;rw[this];by_cases z:c.p.cls=k;·rw[if_pos (show(e.chosen c).p.cls=k from z),List.append_assoc,<-z,E];rfl
   .rw[if_neg (show¬(e.chosen c).p.cls=k from z),List.append_nil,U k (λh=>z h.symm)]
  .rw[U k (λz=>hk (by rw[z];exact V))];exact h.none k hk
  .have aa:e.choose.2.now=e.now:=by rw[d]
   rw[aa];by_cases z:k=c.p.cls;·exact h.at_ c.p.cls p (by rw[E];exact Zr _ (by rw[<-z];exact ab))
   .exact h.at_ k p (by rw[<-U k z];exact ab)
  .have ae:e.choose.2.rate=e.rate:=by rw[d]
   rw[q,ae];intro x hx;rcases Zl.1 hx with I|I;·exact h.ok x (by rw[J];exact I)
   .rw[List.mem_singleton.1 I];exact⟨V,hg,h.at_ _ _ hp,af,ac,Z,by have:=Q2p e.link e.now c.p.len (by rw[ok.lrate];exact ok.rate.1);rwa[ok.lrate]at this⟩
  .rw[q];refine List.pairwise_append.2 ⟨by have:=h.chain;rwa[J]at this,List.pairwise_singleton ..,λx hx y hy=>?_⟩;rw[List.mem_singleton.1 hy];exact h.last x hx
  .have:e.choose.2.sent=e.sent/\e.choose.2.now=e.now:=by rw[d];exact⟨rfl,rfl⟩
   rw[this.2];rw[this.1]at hy;exact h.last y hy
theorem D6.step(h:D6 e put)(c:V4 K e)(til:Nat):D6 (e.step til).2 put:=by
 obtain⟨d,q⟩:=Qwo c til;unfold Vi.step;split;·exact h
 .split
  .rename_i x u;split;·exact h.through c u
   .exact h.time e.link d
  .rename_i k;split;·exact h.time _ (show e.now<=min (max e.now e.sched.tick) (e.clip til) by omega)
   .exact(h.time _ (show e.now<=min (max e.now e.sched.tick) (e.clip til) by omega)).choose (c.idle k d q) k
theorem D6.all(c:Nat):∀(n:Nat){e:Vi},D6 e put->V4 K e->D6 (Vi.all c n e) put
 |0,_,h,_=>h
 |n+1,e,h,ok=>by
  rw[Vi.all];split;·exact h.step ok c
  .exact D6.all c n (h.step ok c) (ok.step c).1
theorem D6.run(h:D6 e put)(c:V4 K e)(til:Nat):D6 (e.run til) put:=h.all til _ c
def Qxs(put:Int->List Jr)(q:Jr):Int->List Jr:=λc=>if c=q.cls then put c++[q]else put c
theorem Qxt(c:V4 K e):(e.run e.now).now=e.now:=by grind [Vi.run,Vi.stopped,G9,V3,Qxc]
theorem D6.came(h:D6 e put)(Z:V4 K e){q:Jr}(I:e.sched.aQ q=0)(R:0<=q.cls/\q.cls<64)(z:q.at_=(e.now:Int)):D6 (e.came q) (Qxs put q):=by
 obtain⟨N,J,_⟩:=Z.sok;have B:=Qsg J e.now I;refine⟨λc U V=>?_,λc E=>?_,λc p k=>?_,h.ok,h.chain,h.last⟩
 .show Qxs put q c=ofC c e.alls++(e.sched.push q e.now).qOf c;rw[B];unfold Qxs;have:=h.put c U V;by_cases d:c=q.cls;·rw[if_pos d,if_pos d,this,d,List.append_assoc]
  .rw[if_neg d,if_neg d,this]
 .show(e.sched.push q e.now).qOf c=[];rw[B,if_neg (λd=>E (by rw[d];exact R))];exact h.none c E
 .rw[show(e.came q).sched.qOf c=(e.sched.push q e.now).qOf c from rfl,B]at k;show 0<=p.at_/\p.at_<=(e.now:Int);split at k
  .rcases Zl.1 k with u|u;·exact h.at_ _ p u
   .rw[List.mem_singleton.1 u,z];omega
  .exact h.at_ _ p k
theorem D6.arr(h:D6 e put)(d:V4 K e)(p:Jr)(B:0<=p.cls/\p.cls<64):D6 (e.arr p) (if e.arrE p=0 then Qxs put {p with at_:=(e.now:Int)}else put):=by
 have u:=Qxt d;have q:e.arrP p={p with at_:=(e.now:Int)}:=by unfold Vi.arrP;rw[u]
 rw[Qwb];unfold Vi.arrE;cases E:e.stopped with
 |true=> simp only[if_true];rw[if_neg (by decide)];exact h
 |false=>
  simp only[Bool.false_eq_true,if_false];have k:=h.run d e.now;have z:=d.run e.now;by_cases c:(e.run e.now).sched.aQ (e.arrP p)=0;·rw[if_pos c,if_pos c,<-q];exact(k.came z c B (by rw[q,u])).run (z.came c) _
  .rw[if_neg c,if_neg c];exact k.sched (λ_=>rfl) _
theorem D6.does(h:D6 e put)(z:V4 K e)(k:Nat)(s:Yk)(p:Jr)(d:Nat)(U:0<=p.cls/\p.cls<64):
  D6 (e.does k s p d) (if k%7=3/\e.aY k s p d=0 then Qxs put {p with at_:=(e.now:Int)}else put):=by
 unfold Vi.does Vi.aY;obtain⟨N,R,_⟩:=z.sok;by_cases E:k%7=0
 .rw[if_pos E,if_neg (by omega)];unfold Vi.add;split;·exact h
  .exact h.sched (Qt8 R s) _
 rw[if_neg E];by_cases I:k%7=1
 .rw[if_pos I,if_neg (by omega)];unfold Vi.change;split;·exact h
  .exact h.sched (Qbb s) _
 rw[if_neg I];by_cases J:k%7=2
 .rw[if_pos J,if_neg (by omega)];unfold Vi.drop;split;·exact h
  .split;·exact h.sched (Qsf R s.id) _
   .exact h
 rw[if_neg J];by_cases q:k%7=3
 .rw[if_pos q,if_neg E,if_neg I,if_neg J,if_pos q];have:=h.arr z p U;by_cases u:e.arrE p=0;·rw[if_pos u]at this;rw[if_pos ⟨q,u⟩];exact this
  .rw[if_neg u]at this;rw[if_neg (λB=>u B.2)];exact this
 rw[if_neg q];rw[if_neg (c:=k%7=3/\_) (λB=>q B.1)];split
 .unfold Vi.adv;split;·exact h.run z _
  .exact h
 .exact h.step z _
end
def Qzz(us:Nat->Value):Array Value:=((List.range 64).map us).toArray
def Qzn(us:Nat->Value)(ps:Nat->List Jr):List Ya:=(List.range 64).map λc=>Uh (us c) (ps c)
theorem Qzc(us:Nat->Value)(ps:Nat->List Jr):∀P∈Qzn us ps,Uy P:=by intro P d;obtain⟨c,_,rfl⟩:=Z3.1 d;exact Nk _ _
theorem Qz1{w}:∀{L:List Ya},(∀P∈L,P w λ_=>False)->Oh L w λ_=>False
 |[],_=>λk c=>c.elim
 |P::L,h=>Q7 (h P List.mem_cons_self) (Qz1 λQ d=>h Q (Zr _ d)) (λk c=>c.elim) (λk c=>c) (λk c=>c) (λk c=>c.elim)
def Qyx(us:Nat->Value)(w:World)(F:Fp)(b:Nat)(ps:Nat->List Jr):Prop:=Oh (Tv b (Qzz us) 59::Qzn us ps) w F
section
variable{b:Nat}{us:Nat->Value}{w w1:World}{F:Fp}{ps:Nat->List Jr}
theorem Qyx.good(us:Nat->Value)(b:Nat)(ps:Nat->List Jr):Uy (λw F=>Qyx us w F b ps):=Je λP c=>by
 rcases Zu.1 c with rfl|h;·exact Ks _ _ _
 .exact Qzc _ _ P h
theorem Qyx.blk(h:Qyx us w F b ps):Qh w b (Qzz us) 59/\F b:=by obtain⟨_,k,_,c,_,_,d,_⟩:=h;exact⟨c.1,d b c.2.1⟩
theorem Qyx.row(h:Qyx us w F b ps){c:Nat}(hc:c<64):∃G:Fp,Uh (us c) (ps c) w G/\(∀k,G k->F k)/\¬G b/\∀w' q l',Uh q l' w' (Qn G w w')->Qc G w w'->Qyx (upd us c q) (w'.setCell ⟨b,c,none⟩ q) (Qn F w (w'.setCell ⟨b,c,none⟩ q)) b (upd ps c l')/\Qc F w (w'.setCell ⟨b,c,none⟩ q):=by
 obtain⟨I,G0,K,u,h1,E,s0,s1⟩:=h;have e:(Qzn us ps)[c]? =some (Uh (us c) (ps c)):=by unfold Qzn;simp[hc]
 obtain⟨G,k1,J,_,k3⟩:=Xv c (Qzc us ps) e h1;have Z:¬G b:=λd=>E b u.2.1 (J _ d);refine⟨G,k1,λk d=>s1 _ (J _ d),Z,λw' q l' hp z=>?_⟩;have U:Oh ((Qzn us ps).set c (Uh q l')) w' (Qn K w w'):=k3 w' (Uh q l') z hp;have e2:(Qzn us ps).set c (Uh q l')=Qzn (upd us c q) (upd ps c l'):=by
  unfold Qzn;rw[Qed];refine List.map_congr_left λk _=>?_;by_cases d:k=c;·subst d;rw[Qbz,Qbz,Qbz]
  .rw[Qb0 _ _ d,Qb0 _ _ d,Qb0 _ _ d]
 rw[e2]at U;have bw:b<w.heap.size:=u.1.lt;have B:Qc (λk=>k=b) w' (w'.setCell ⟨b,c,none⟩ q):=(Zg _ _).setCell _ (.inl rfl);have R:Qc F w (w'.setCell ⟨b,c,none⟩ q):=(z.sub λk d=>s1 _ (J _ d)).trans B λk e=>.inl (e▸s0 b u.2.1);have V:Qh (w'.setCell ⟨b,c,none⟩ q) b (Qzz (upd us c q)) 59:=by have:=(z.blk u.1 Z).set c q;unfold Qzz at this;rw[Za,Qed]at this;exact this
 refine⟨Q7 (G:=λk=>k=b) (H:=Qn K w w') ⟨V,rfl,λk e=>e▸V.lt⟩ ((Je (Qzc _ _)).aB U B ?_) ?_ (λk e=>.inl (e▸s0 b u.2.1)) ?_ (I.ext R),R⟩
 .rintro k(d|d) rfl;·exact E _ u.2.1 d
  .omega
 .rintro k rfl(d|d);·exact E _ u.2.1 d
  .omega
 .rintro k(d|d);·exact .inl (s1 _ d)
  .exact .inr ⟨d.1,Nat.lt_of_lt_of_le d.2 B.size⟩
theorem Qyx.start(w:World):Qyx (λ_=>.slice none 0 0) (w.alloc (.cells (Qzz λ_=>.slice none 0 0) 59)) (λk=>k=w.heap.size) w.heap.size λ_=>[]:=by have q:Qh (w.alloc (.cells (Qzz λ_=>.slice none 0 0) 59)) w.heap.size (Qzz λ_=>.slice none 0 0) 59:=Qh.new _ _ _;refine Q7 (G:=λk=>k=w.heap.size) (H:=λ_=>False) ⟨q,rfl,λk e=>e▸q.lt⟩ (Qz1 λP u=>?_) (λk _ d=>d) (λk e=>e) (λk d=>d.elim) (λk e=>e▸q.lt);obtain⟨c,_,rfl⟩:=Z3.1 u;exact Uh.nil λk d=>d.elim
end
section
structure RB(V w:World)(G R:Fp)(us:Nat->Value)(pb:Nat)(ps:Nat->List Jr):Prop where
 is:Qyx us w R pb ps
 lo:∀k,R k->V.heap.size<=k
 dis:Jl R G
section
variable{V w w':World}{G R:Fp}{us:Nat->Value}{pb:Nat}{ps:Nat->List Jr}
theorem RB.aB(h:RB V w G R us pb ps)(c:Qc Qb w w'):RB V w' G R us pb ps:=⟨(Qyx.good us pb ps).aB h.is c (Jl.none _),h.lo,h.dis⟩
theorem RB.step(h:RB V w G R us pb ps)(c:Qc G w w'):RB V w' (Qn G w w') R us pb ps:=⟨(Qyx.good us pb ps).aB h.is c h.dis,h.lo,λk d q=>q.elim (h.dis k d) (λe=>by have:=(Qyx.good us pb ps).bd h.is k d;omega)⟩
end
section
variable{V w w':World}{G R S:Fp}{us us':Nat->Value}{b pb:Nat}{ps ps':Nat->List Jr}{e:Vi}
theorem GE.at(h:GE V w G b e)(c:Qc S w w')(d:Jl G S)(u:∀k,S k->V.heap.size<=k):GE V w' G b e:=⟨Qxn.obj.aB h.is c d,h.lo,h.chg.trans c λk q=>.inr (u k q)⟩
theorem RB.at(h:RB V w G R us pb ps)(c:Qc S w w')(d:Jl R S):RB V w' G R us pb ps:=⟨(Qyx.good us pb ps).aB h.is c d,h.lo,h.dis⟩
theorem RB.put(h:RB V w G R us pb ps)(g:GE V w G b e)(u:Qyx us' w' (Qn R w w') pb ps')(c:Qc R w w'):RB V w' G (Qn R w w') us' pb ps'/\GE V w' G b e:=
 ⟨⟨u,λk d=>d.elim (h.lo k) λe=>Zp g.chg.size e.1,λk d q=>d.elim (λd=>h.dis k d q) λe=>by have:=Qxn.obj.bd g.is k q;omega⟩,g.at c (λk d z=>h.dis k z d) h.lo⟩
end
theorem Q0f:prog.eqGuardType prog.depth 31=false:=by kernel_rfl
theorem Q1g:prog.stoodInHeld 31=false:=by kernel_rfl
section
attribute [local go_sem] Q0f Q1g
theorem Qzd(a b c d:Int)(w):(binOp .neq 31 (.agg #[ZU a,ZI b,ZI c,ZU d]) (.agg #[ZU a,ZI b,ZI c,ZU d])).run prog w=.ok (.bool false) w:=by go_simp
end
attribute [local go_sem ↓] Qzd
def rgt:Nat->Code->Code
 |n+1,.seq _ b=>rgt n b
 |_,c=>c
theorem Qyz{L:List Value}{n:Nat}(h:L.length=n+1):∃c M,L=c::M/\M.length=n:=by
 cases L with
 |nil=>cases h
 |cons c M=>exact⟨c,M,rfl,Nat.succ.inj h⟩
section
variable{W V:World}{G R:Fp}{us:Nat->Value}{b pb N rate:Nat}{e:Vi}
end
end
theorem Qzw:prog.eqGuardType prog.depth 51=false:=by kernel_rfl
theorem Q0m:prog.stoodInHeld 51=false:=by kernel_rfl
section
attribute [local go_sem] Qzw Q0m
theorem Q18(o:Option D7)(w):(binOp .eql 51 (.agg (Lq o)) (.agg (Lq o))).run prog w=.ok (.bool true) w:=by cases o<;>unfold Lq<;>go_simp
theorem Q2a(o:Option D7)(w):(binOp .neq 51 (.agg (Lq o)) (.agg (Lq o))).run prog w=.ok (.bool false) w:=by cases o<;>unfold Lq<;>go_simp
theorem Q19(c d k q u z B E:Nat)(w):(binOp .eql 46 (.agg (stN c d k q u z B E)) (.agg (stN c d k q u z B E))).run prog w=.ok (.bool true) w:=Qy8 ..
end
theorem Qzk{P:Program}{ops:Array Oper}{rest:List Oper}{c:Oper}{a:Act}{w:World}{Q:Exit->Act->World->Prop}(k:Region.wanted c (yielded ops a.tmps)=true)(ty:TypeId)(x:Operand)(B:c.op=.load ty x)
  (b o:Nat) (I:a.eval x=.pointer (some ⟨b,o,none⟩)) (cs:List Value) (d:TypeDesc) (q:w.rangeAt b o cs)
  (E:P.underlying ty=some d) (u:d.isRow=true) (z:(P.info? ty).map (·.size)=some cs.length)
  (h:wpList P ops Q rest (a.put c.dst (.agg cs.toArray)) w):wpList P ops Q (c::rest) a w:=by
 unfold wpList;rw[if_pos k];exact .inl (wp_load_mid ty x B b o I cs d q E u z h)
section
variable{W V w w' V8:World}{F G:Fp}{l:List (Nat×Vi)}{ba bb bd b0 K:Nat}{ef e0:Vi}
theorem Qz7(h:ES V w F l)(o:Option D7):
  ∃w',(storeCells ⟨w.heap.size,0,none⟩ (Lq o).toList 0).run prog (w.alloc (.cells ZG 51))=.ok () w'/\ES V w' F l/\Qh w' w.heap.size (Lq o) 51/\Qc Qb w w':=by
 have d:(Lq o).size=8:=by cases o<;>rfl
 obtain⟨w',s3,c,q⟩:=Q0 (P:=prog) (vs:=Lq o) (Qh.new w ZG 51) d (Q0a o);have N3:Qc Qb w w':=((Zg Qb w).alloc _).trans q (λk e=>.inr (by omega));exact⟨w',s3,h.aB N3,c,N3⟩
abbrev Q0b(n:Nat)(W:World)(a:Act)(w:World):Prop:=Code.wp prog (rgt n (f6.body.getD .skip)) (bodyPost prog f6 λe w'=>e=.returned (.bool true)/\Qc Qb W w') a w
theorem Q1c(hS:ES V V8 F [(bd,ef),(bb,ef),(ba,ef),(b0,e0)])(ok:V4 K ef)(hK:K<549755813000)(hc:Qc Qb W V8)
  {L:List Value} (h0:L.length=232) (ae:L[12]? =some (ZP ba)) (af:L[13]? =some (ZP bb)) (ag:L[14]? =some (ZP bd)):Q0b 14 W ⟨L.toArray,[]⟩ V8:=by
 obtain⟨l,hl⟩:=Zx ([(bd,ef),(bb,ef),(ba,ef),(b0,e0)]);have I0:=O (show l[0]? =some (bd,ef) by rw[hl];rfl);have I1:=O (show l[1]? =some (bb,ef) by rw[hl];rfl);have I:=O (show l[2]? =some (ba,ef) by rw[hl];rfl);rw[<-hl]at hS;have SL:=O (show ef.sent.length<1099511627776 by obtain⟨N,_,h⟩:=ok.sok;omega);obtain⟨n0,n1,n2,n3,n4,n5,n6,n7,ah⟩:=eight (ok.book.get 0).1;have d:Hi (∀w F i b,ES V w F l->l[i]? =some (b,ef)->ZW 15 #[ZP b,ZI 0] w (.agg (stN n0 n1 n2 n3 n4 n5 n6 n7)) λw'=>Qc Qb w w'):=O (λw F i b h J=>by
  have:=h.stats J ok.book 0;rw[ah]at this;exact this)
 have B:Hi (∀w F i b,ES V w F l->l[i]? =some (b,ef)->Cl 14 #[ZP b] w λr w'=>∃v',r=.returned v'/\Qxw w' v' ef.sent/\Qc Qb w w'):=O (λw F i b h J=>h.sent J SL.o);have z:Hi (∀w F i b,ES V w F l->l[i]? =some (b,ef)->ZW 13 #[ZP b] w (ZU ef.now) λw'=>w=w'):=O (λw F i b h J=>h.now J);have k:Hi (∀w F i b,ES V w F l->l[i]? =some (b,ef)->ZW 21 #[ZP b] w (.tuple #[.agg (Lq ef.aM),.bool ef.aM.isSome]) λw'=>Qc Qb w w'):=O (λw F i b h J=>h.aM J);have BX:=O (λw F(h:ES V w F l)=>Qz7 h ef.aM);have an:=Q18 ef.aM;have hz:(Lq ef.aM).size=8:=by cases ef.aM<;>rfl
 have E:=O (λw v v'(h:Qxw w v ef.sent)(h':Qxw w v' ef.sent)=>Q00 SL.o h h');have ap:((ef.now:Int)==(ef.now:Int))=true:=by simp
 have ao:=Q19 n0 n1 n2 n3 n4 n5 n6 n7;have S0:=O hS;have C0:=O hc;obtain⟨U,ai⟩:=Zx (Lq ef.aM);rw[<-ai]at k BX an hz;obtain⟨st,aj⟩:=Zx (stN n0 n1 n2 n3 n4 n5 n6 n7);rw[<-aj]at d ao;generalize ef.aM.isSome=us at k;clear hS ok hK hc ah hl ai aj;unfold Q0b;iterate 232 (obtain⟨_,_,rfl,h1⟩:=Qyz h0;clear h0;have h0:=h1;clear h1)
 obtain rfl:=List.eq_nil_of_length_eq_zero h0;obtain rfl:=Zs ae;obtain rfl:=Zs af;obtain rfl:=Zs ag;clear h0 ae af ag
 conv=>arg 2;whnf
 go_wp2_with fail;refine(k.o _ _ _ _ S0.o I.o).mono ?_;rintro r w1⟨rfl,c1⟩;obtain⟨W1,s1,g1,b1,k1⟩:=BX.o _ _ (S0.o.aB c1);have S1:=O g1;have B1:=O b1;have C1:=O (C0.o.aA (c1.aA k1));clear c1 g1 b1 k1;go_wp2_with fail;clear s1;refine(k.o _ _ _ _ S1.o I1.o).mono ?_;rintro r w2⟨rfl,c2⟩;obtain⟨W2,s2,g2,b2,k2⟩:=BX.o _ _ (S1.o.aB c2);have S2:=O g2;have ak:=O ((c2.aA k2).blk B1.o (λh=>h));have B2:=O b2;have C2:=O (C1.o.aA (c2.aA k2));clear c2 g2 b2 k2;go_wp2_with fail;clear s2;refine(k.o _ _ _ _ S2.o I0.o).mono ?_;rintro r w3⟨rfl,c3⟩;obtain⟨W3,s3,g3,b3,k3⟩:=BX.o _ _ (S2.o.aB c3);have c:=O g3;have al:=O ((c3.aA k3).blk ak.o (λh=>h));have am:=O ((c3.aA k3).blk B2.o (λh=>h));have B3:=O b3;have C3:=O (C2.o.aA (c3.aA k3));clear c3 g3 b3 k3;go_wp2_with fail;clear s3;refine(B.o _ _ _ _ c.o I.o).mono ?_;rintro r w4⟨v1,rfl,h1,c4⟩;have H1:=O h1;have C4:=O c4;clear h1 c4;go_wp2_with fail;refine(B.o _ _ _ _ (c.o.aB C4.o) I1.o).mono ?_;rintro r w5⟨v2,rfl,h2,c5⟩;have HS:=O (E.o _ _ _ (H1.o.aB c5 (λ_ _ h=>h)) h2);have C5:=O (C4.o.aA c5);clear h2 c5;go_wp2_with fail;apply Zo HS;rintro r w6⟨rfl,c6⟩;have C6:=O (C5.o.aA c6);clear c6;go_wp2_with fail;refine(B.o _ _ _ _ (c.o.aB C6.o) I.o).mono ?_;rintro r w7⟨v3,rfl,h3,c7⟩;have H3:=O h3;have C7:=O (C6.o.aA c7);clear h3 c7;go_wp2_with fail;refine(B.o _ _ _ _ (c.o.aB C7.o) I0.o).mono ?_;rintro r w8⟨v4,rfl,h4,c8⟩;have HS:=O (E.o _ _ _ (H3.o.aB c8 (λ_ _ h=>h)) h4);have C8:=O (C7.o.aA c8);clear h4 c8;go_wp2_with fail;apply Zo HS;rintro r w9⟨rfl,c9⟩;have q:=O (C8.o.aA c9);clear c9;go_wp2_with fail;refine(z.o _ _ _ _ (c.o.aB q.o) I.o).mono ?_;rintro r R⟨rfl,rfl⟩;go_wp2_with fail;refine(z.o _ _ _ _ (c.o.aB q.o) I1.o).mono ?_;rintro r R⟨rfl,rfl⟩;go_wp2_with fail;refine(z.o _ _ _ _ (c.o.aB q.o) I.o).mono ?_;rintro r R⟨rfl,rfl⟩;go_wp2_with fail;refine(z.o _ _ _ _ (c.o.aB q.o) I0.o).mono ?_;rintro r R⟨rfl,rfl⟩;have R1:Hi (w9.rangeAt w1.heap.size 0 U.toList):=O (λj u hu=>by rw[Nat.zero_add];exact(q.o.blk al.o (λh=>h)).at j (by simpa using hu));have R2:Hi (w9.rangeAt w2.heap.size 0 U.toList):=O (λj u hu=>by rw[Nat.zero_add];exact(q.o.blk am.o (λh=>h)).at j (by simpa using hu));have R3:Hi (w9.rangeAt w3.heap.size 0 U.toList):=O (λj u hu=>by rw[Nat.zero_add];exact(q.o.blk B3.o (λh=>h)).at j (by simpa using hu));go_wp2_with (first
  |(with_reducible refine Qzk (by kernel_rfl) 51 (.tmp 25) rfl w1.heap.size 0 rfl U.toList _ R1.o underlying51 rfl (by rw[Array.length_toList,hz];kernel_rfl) ?_)
  |(with_reducible refine Qzk (by kernel_rfl) 51 (.tmp 27) rfl w2.heap.size 0 rfl U.toList _ R2.o underlying51 rfl (by rw[Array.length_toList,hz];kernel_rfl) ?_)
  |(with_reducible refine Qzk (by kernel_rfl) 51 (.tmp 29) rfl w3.heap.size 0 rfl U.toList _ R3.o underlying51 rfl (by rw[Array.length_toList,hz];kernel_rfl) ?_))
 refine(d.o _ _ _ _ (c.o.aB q.o) I.o).mono ?_;rintro r aq⟨rfl,Z⟩;have D1:=O (q.o.aA Z);clear Z;go_wp2_with fail;refine(d.o _ _ _ _ (c.o.aB D1.o) I1.o).mono ?_;rintro r ar⟨rfl,aa⟩;have D2:=O (D1.o.aA aa);clear aa;go_wp2_with fail;refine(d.o _ _ _ _ (c.o.aB D2.o) I.o).mono ?_;rintro r au⟨rfl,ab⟩;have D3:=O (D2.o.aA ab);clear ab;go_wp2_with fail;refine(d.o _ _ _ _ (c.o.aB D3.o) I0.o).mono ?_;rintro r av⟨rfl,ac⟩;have D4:=O (C3.o.aA (D3.o.aA ac));clear ac;exact WD D4
end
def Q0j(k:Nat):Code->Option Code
 | .region n o d=>if n=k then some (.region n o d)else none
 | .seq a b=>(Q0j k a).or (Q0j k b)
 | .cond _ a b=>(Q0j k a).or (Q0j k b)
 | .block _ c=>Q0j k c
 | .loop c=>Q0j k c
 | .scope c=>Q0j k c
 |_=>none
theorem Q2s{P:List Value->Prop}(n m:Nat){l L:List Value}(c:l.take n=L.take n)(d:l.drop (n+m)=L.drop (n+m))(k:((l.drop n).take m).length=m)(h:∀M:List Value,M.length=m->M=(l.drop n).take m->P (L.take n++M++L.drop (n+m))):P l:=by have:=h _ k rfl;rwa[<-c,<-d,<-List.drop_drop,List.append_assoc,List.take_append_drop,List.take_append_drop]at this
section
attribute [local go_sem ↓] Qzd
variable{Q:Exit->Act->World->Prop}{w:World}{x:D7}{q wb pb b2 o2 tn cap3 rate:Nat}{L:List Value}
end
section
variable{Q:Exit->Act->World->Prop}{w:World}{x:D7}{bd eb ub g o m cap:Nat}{L:List Value}
theorem Q17(x:D7)(w):(binOp .neq 51 (.agg (ZM x)) (.agg (ZM x))).run prog w=.ok (.bool false) w:=Q2a (some x) w
attribute [local go_sem ↓] Q17
theorem Q1d(J:Qh w eb (evA 2 x) 53)(k:∀j u,(Qxe x)[j]? =some u->w.cell? ⟨g,o+m*8+j,none⟩=some u)(hm:m<1099511627776)
  (Z:∀w',Qc Qb w w'->ZW 13 #[ZP bd] w' (ZU x.til) λR=>w'=R)
  (q:L.length=232) (z:L[14]? =some (ZP bd)) (B:L[19]? =some (ZI ((m:Int)+1))) (E:L[21]? =some (ZP eb)) (I:L[22]? =some (.slice (some ⟨g,o,none⟩) (m+1) cap)) (hP:∀c(a:Act)(d:Tmp)v w,Q (.panic c) (a.put (some d) v) w->Q (.panic c) a w) (hQ:∀M:List Value,M.length=22->M[21]? =some (.bool false)->Q .normal ⟨(L.take 119++M++L.drop 141).toArray,[]⟩ w.drew):((Q0j 33 (f6.body.getD .skip)).getD .skip).wp prog Q ⟨L.toArray,[]⟩ w:=by
 have x0:=Av (show Qh w.drew eb #[.int .u8 2,ZU x.p.id,ZI x.p.cls,ZI x.p.len,ZU x.p.at_,.int .u8 x.rule,ZU x.frm,ZU x.til,ZU x.due] _ from J.drew);have HE:=O J;have HN:=O Z;have K:=k 0 _ rfl;have p1:=k 1 _ rfl;have p2:=k 2 _ rfl;have p3:=k 3 _ rfl;have p4:=k 4 _ rfl;have p5:=k 5 _ rfl;have p6:=k 6 _ rfl;have p7:=k 7 _ rfl;simp only[Nat.add_zero]at K;obtain⟨q0,q1,q2,q3,q4,q5,q6,q7⟩:w.drew.cell? ⟨g,o+m*8,none⟩=some (ZU x.p.id)/\w.drew.cell? ⟨g,o+m*8+1,none⟩=some (ZI x.p.cls)/\w.drew.cell? ⟨g,o+m*8+2,none⟩=some (ZI x.p.len)/\w.drew.cell? ⟨g,o+m*8+3,none⟩=some (ZU x.p.at_)/\w.drew.cell? ⟨g,o+m*8+4,none⟩=some (.int .u8 x.rule)/\w.drew.cell? ⟨g,o+m*8+5,none⟩=some (ZU x.frm)/\w.drew.cell? ⟨g,o+m*8+6,none⟩=some (ZU x.til)/\w.drew.cell? ⟨g,o+m*8+7,none⟩=some (ZU x.due):=⟨K,p1,p2,p3,p4,p5,p6,p7⟩;clear K p1 p2 p3 p4 p5 p6 p7 k J Z;have k0:(0:Int)<=(m:Int):=by omega
 have k1:(m:Int)<((m+1:Nat):Int):=by omega
 have ew:IntKind.i64.wrap ((m:Int)+1-1)=(m:Int):=by rw[IntWalk.i64_in _ (by omega)];omega
 have ew2:IntKind.i64.wrap (m:Int)=(m:Int):=by rw[IntWalk.i64_in _ (by omega)]
 have k2:(m:Int)<(m:Int)+1:=by omega
 have d3:(((m:Int)+1) !=((m:Int)+1))=false:=by simp
 have d4:((x.til:Int) !=(x.til:Int))=false:=by simp
 have HQ:=O hQ;clear hQ hm;iterate 232 (obtain⟨_,_,rfl,V⟩:=Qyz q;clear q;have q:=V;clear V)
 obtain rfl:=List.eq_nil_of_length_eq_zero q;obtain rfl:=Zs z;obtain rfl:=Zs B;obtain rfl:=Zs E;obtain rfl:=Zs I;clear q z B E I
 conv=>arg 2;whnf
 refine Jp [(0,0),(0,1),(0,2),(0,3),(0,4),(0,5),(0,6),(0,7),(0,8),(0,9),(0,10),(0,11),(0,12),(0,13),(0,14),(1,15),(1,16),(1,17),(0,18),(2,19),(0,20),(0,21)] (λU=>Qc Qb w U) Zq (by kernel_rfl) hP ((Zg Qb w).drew) ?_;simp only[Jk,Zf,Ze,Zd];iterate 4 (refine Xe (h:=?_))
 iterate 4 (refine Xe (h:=?_))
 iterate 7 (refine Xe (h:=?_))
 iterate 2 (refine Qy (h:=?_);try simp only[Act.put,Za,Zc,Zb])
 iterate 1 (apply YK λU hv=>Av (show Qh U eb #[.int .u8 2,ZU x.p.id,ZI x.p.cls,ZI x.p.len,ZU x.p.at_,.int .u8 x.rule,ZU x.frm,ZU x.til,ZU x.due] _ from hv.blk HE.o (λh=>h)))
 apply YA 0;go_wp2_with fail;refine(HN.o _ (Zg Qb w).drew).mono ?_;rintro r w1⟨rfl,rfl⟩;go_wp2_with fail;refine⟨(Zg Qb w).drew,?_⟩;iterate 2 (refine Xe (h:=?_))
 refine Ky ?_;exact Q2s (P:=λl=>Q .normal ⟨l.toArray,[]⟩ w.drew) 119 22 rfl rfl rfl λM hM e=>HQ.o M hM (by rw[e];rfl)
theorem Q1e(R:Qh w eb (evA 1 x) 53)(E:Qh w ub (Lq (some x)) 51)
  (U:∀w',Qc Qb w w'->ZW 13 #[ZP bd] w' (ZU x.frm) λI=>w'=I)
  (k:L.length=232) (q:L[14]? =some (ZP bd)) (u:L[21]? =some (ZP eb)) (z:L[23]? =some (ZP ub)) (B:L[24]? =some (.bool true)) (hP:∀c(a:Act)(d:Tmp)v w,Q (.panic c) (a.put (some d) v) w->Q (.panic c) a w) (V:∀M:List Value,M.length=15->M[14]? =some (.bool false)->Q .normal ⟨(L.take 152++M++L.drop 167).toArray,[]⟩ w.drew):((Q0j 37 (f6.body.getD .skip)).getD .skip).wp prog Q ⟨L.toArray,[]⟩ w:=by
 have x0:=Av (show Qh w.drew eb #[.int .u8 1,ZU x.p.id,ZI x.p.cls,ZI x.p.len,ZU x.p.at_,.int .u8 x.rule,ZU x.frm,ZU x.til,ZU x.due] _ from R.drew);have q0:=Ja (show Qh w.drew ub (ZM x) _ from E.drew);have HU:=O E;have Z:=O U;have d4:((x.frm:Int) !=(x.frm:Int))=false:=by simp
 have HQ:=O V;clear V R E U;iterate 232 (obtain⟨_,_,rfl,K⟩:=Qyz k;clear k;have k:=K;clear K)
 obtain rfl:=List.eq_nil_of_length_eq_zero k;obtain rfl:=Zs q;obtain rfl:=Zs u;obtain rfl:=Zs z;obtain rfl:=Zs B;clear k q u z B
 conv=>arg 2;whnf
 refine Jp [(0,0),(0,1),(0,2),(0,3),(0,4),(0,5),(0,6),(0,7),(0,8),(1,9),(1,10),(0,11),(2,12),(0,13),(0,14)] (λJ=>Qc Qb w J) Zq (by kernel_rfl) hP ((Zg Qb w).drew) ?_;simp only[Jk,Zf,Ze,Zd];iterate 8 (refine Xe (h:=?_))
 refine Xe (h:=?_);(refine Qy (h:=?_);try simp only[Act.put,Za,Zc,Zb]);iterate 1 (apply YK λJ hv=>Ja (show Qh J ub (ZM x) _ from hv.blk HU.o (λh=>h)))
 apply YA 0;go_wp2_with fail;refine(Z.o _ (Zg Qb w).drew).mono ?_;rintro r w1⟨rfl,rfl⟩;go_wp2_with fail;refine⟨(Zg Qb w).drew,?_⟩;iterate 2 (refine Xe (h:=?_))
 refine Ky ?_;exact Q2s (P:=λl=>Q .normal ⟨l.toArray,[]⟩ w.drew) 152 15 rfl rfl rfl λM hM e=>HQ.o M hM (by rw[e];rfl)
end
theorem Q0t(o:Option EvM):(evO o).size=9:=by cases o<;>rfl
theorem Q2f(o:Option EvM):∀v∈(evO o).toList,v.oneCell'=true:=by
 cases o with
 |none=>intro v c;simp[evO]at c;rcases c with rfl|rfl|rfl|rfl|rfl|rfl|rfl|rfl|rfl<;>rfl
 |some x=>intro v c;simp[evO,evA]at c;rcases c with rfl|rfl|rfl|rfl|rfl|rfl|rfl|rfl|rfl<;>rfl
section
variable{W V w w' V7:World}{F G:Fp}{ba bb bd b0 K tq m:Nat}{ef e d:Vi}
abbrev es4(bd bb ba b0:Nat)(d ef e:Vi):List (Nat×Vi):=[(bd,d),(bb,ef),(ba,ef),(b0,e)]
structure PcS(K tq:Nat)(ef d:Vi)(m:Nat)(is:Bool):Prop where
 ok:V4 K d
 u:Fr d
 go:is=true->m+d.left<=400/\d.run tq=ef
 fin:is=false->d=ef/\m<=401
theorem PcS.none(h:PcS K tq ef d m true)(c:(d.step tq).1=none):PcS K tq ef (d.step tq).2 (m+1) false:=
 ⟨(h.ok.step tq).1,h.u.step h.ok tq,nofun,λ_=>⟨by rw[<-G9 c];exact(h.go rfl).2,by have:=(h.go rfl).1;omega⟩⟩
theorem PcS.some(h:PcS K tq ef d m true){x:EvM}(c:(d.step tq).1=some x):PcS K tq ef (d.step tq).2 (m+1) true:=
 ⟨(h.ok.step tq).1,h.u.step h.ok tq,λ_=>⟨by have:=(h.go rfl).1;have:=(h.ok.step tq).2.1 x c;omega,by rw[<-P6 h.ok c];exact(h.go rfl).2⟩,nofun⟩
theorem Q1t(q:V4 K d)(k:(d.step tq).1=none):(d.step tq).2.sent=d.sent:=by
 cases c:d.stopped with
 |true=>rw[V3 c]
 |false=>exact((q.step tq).2.2 k c).2.2.2.1
theorem Q1w(q:ES V V7 F (es4 bd bb ba b0 e ef e))(ok:V4 K e)(hK:K<549755813000)(u:Fr e)(hl:e.left<=400)(be:tq<18446744073709551616)(ae:e.run tq=ef)(hV:Qc Qb W V)
  {L:List Value} (h0:L.length=232) (R:L[12]? =some (ZP ba)) (U:L[13]? =some (ZP bb)) (Z:L[14]? =some (ZP bd)) (al:L[15]? =some (ZU tq)):Q0b 12 W ⟨L.toArray,[]⟩ V7:=by
 have S0:=O q;have OK:=O ok;have ac:Hi (PcS K tq ef e 0 true):=O ⟨ok,u,λ_=>⟨by omega,ae⟩,nofun⟩;have a8:=O (show V4 K ef by rw[<-ae];exact ok.run tq);have KB:=O hK;have FC:=O hV;have aj:Hi (∀w F d,ES V w F (es4 bd bb ba b0 d ef e)->V4 K d->Cl 14 #[ZP bd] w λr w'=>∃v',r=.returned v'/\Qxw w' v' d.sent/\Qc Qb w w'):=O (λw F d h ok=>h.sent (i:=0) rfl (by obtain⟨N,_,h⟩:=ok.sok;have:=KB.o;omega));have ai:Hi (∀w F d,ES V w F (es4 bd bb ba b0 d ef e)->ZW 13 #[ZP bd] w (ZU d.now) λw'=>w=w'):=O (λw F d h=>h.now (i:=0) rfl);have ay:Hi (∀w F d,ES V w F (es4 bd bb ba b0 d ef e)->ZW 21 #[ZP bd] w (.tuple #[.agg (Lq d.aM),.bool d.aM.isSome]) λw'=>Qc Qb w w'):=O (λw F d h=>h.aM (i:=0) rfl);have ax:Hi (∀w F d,ES V w F (es4 bd bb ba b0 d ef e)->V4 K d->Fr d->ZW 18 #[ZP bd,ZU tq] w (.tuple #[.agg (evO (d.step tq).1),.bool (d.step tq).1.isSome]) λw'=>ES V w' (Qn F w w') (es4 bd bb ba b0 (d.step tq).2 ef e)/\Qc F w w'):=O (λw F d h ok u=>h.step (i:=0) rfl ok KB.o u tq);clear q ok u hl ae hV hK be;unfold Q0b;iterate 232 (obtain⟨_,_,rfl,z⟩:=Qyz h0;clear h0;have h0:=z;clear z)
 obtain rfl:=List.eq_nil_of_length_eq_zero h0;obtain rfl:=Zs R;obtain rfl:=Zs U;obtain rfl:=Zs Z;obtain rfl:=Zs al;clear h0 R U Z al
 conv=>arg 2;whnf
 go_wp2_with fail;refine(aj.o _ _ _ S0.o OK.o).mono ?_;rintro r w1⟨v1,rfl,z,c1⟩;obtain⟨a1,bi,rfl,_⟩:=z.row sentT.hc;have S1:=O (S0.o.aB c1);clear z c1;go_wp2_with fail;rename_i KX am;have hX:∀(a:Act)(w),(∃(L:List Value)(F:Fp),a=⟨L.toArray,[]⟩/\L.length=232/\L[12]? =some (ZP ba)/\L[13]? =some (ZP bb)/\L[14]? =some (ZP bd)/\ES V w F (es4 bd bb ba b0 ef ef e))->KX a w:=λa w⟨L,F,e1,h0,R,U,Z,q⟩=>by subst e1;exact am _ w (Q1c q a8.o KB.o (FC.o.aA q.chg) h0 R U Z)
 clear am;go_loopw [18,19,20,21,22,23,24] (λag bg bh _ _ _ _ wz=>∃(m:Nat)(d:Vi)(F:Fp)(is:Bool),ag=ZI m/\bg=ZI d.sent.length/\bh=.bool is/\ES V wz F (es4 bd bb ba b0 d ef e)/\PcS K tq ef d m is) (λag _ _ _ _ _ _ _=>402-(intOf ag).toNat);case atStart=>exact⟨0,e,_,true,rfl,rfl,rfl,S1.o,ac.o⟩
 case round=>
  obtain⟨m,d,F,is,rfl,rfl,rfl,q,hp⟩:=hrel;obtain⟨V9,an⟩:=Zx wr;rw[<-an]at q|-;clear an;cases is with
  |false=> obtain⟨rfl,hm⟩:=hp.fin rfl;have D:=O q;clear q hp;go_wp2_with fail;exact⟨_,F,rfl,rfl,rfl,rfl,rfl,D.o⟩
  |true=>
   have S9:=O q;have P9:=O hp;have hm:m<=400:=by have:=(hp.go rfl).1;omega
   have ap:d.sent.length<1099511627776:=by obtain⟨N,_,h⟩:=hp.ok.sok;have:=KB.o;omega
   have ak:=O ap;have d5:decide (500<(m:Int))=false:=by simp;omega
   have d6:decide (500<m)=false:=by simp;omega
   have ew:IntKind.i64.wrap ((m:Int)+1)=(m:Int)+1:=by rw[IntWalk.i64_in _ (by omega)]
   have HM:=O hm;obtain⟨W9,aa⟩:=Zx (V9.alloc (.cells ZH 53));have c9:Qc Qb V9 W9:=by rw[aa];exact(Zg _ _).alloc _
   have B9:Hi (Qh W9 V9.heap.size ZH 53):=O (by rw[aa];exact Qh.new _ _ _);have NF:Hi (¬F V9.heap.size):=O (λhk=>by have:=q.bd _ hk;omega);have bc:Hi (V.heap.size<=V9.heap.size):=O (q.chg.size);have T9:=O (q.aB c9);have a4:=O (ax.o W9 F d T9.o hp.ok hp.u);have a7:=O aa;clear q hp hm ap aa c9;go_wp2_with fail;rw[<-a7.o];apply Zo a4;rintro r w2⟨rfl,h2,c2⟩;obtain⟨W2,s2,b2,I⟩:=Q0 (P:=prog) (vs:=evO (d.step tq).1) (c2.blk B9.o NF.o) (by rw[Q0t];rfl) (Q2f _);have S2:=O (h2.far I (λk hk e=>by subst e;exact hk.elim NF.o (λh=>by have:=B9.o.lt;omega)) (λk e=>by subst e;exact bc.o));have B2:=O b2;have hz:=Q0t (d.step tq).1;clear h2 c2 I b2;generalize Qn F W9 w2=F2 at S2;cases hx:(d.step tq).1 with
   |none=>
    have NX:=O (P9.o.none hx);have SN:=O (Q1t P9.o.ok hx);rw[hx]at s2 hz B2;have x0:W2.cell? ⟨V9.heap.size,0,none⟩=some (.int .u8 0):=B2.o.at 0 rfl;generalize evO none=eo at s2 hz|-;go_wp2_with fail;clear s2;go_roundw;case measure=>have:=HM.o;simp only[intOf];omega
    case rel=>exact⟨m+1,_,F2,false,by rw[<-Int.natCast_one,<-Int.natCast_add],by rw[SN.o],rfl,S2.o,NX.o⟩
   |some x=>
    have NX:=O (P9.o.some hx);have HV:=Q2i P9.o.ok hx;rw[hx]at s2 hz B2;obtain⟨k,y⟩:=x;rcases HV with⟨k2,E,ar⟩|⟨k1,E,au,ao⟩
    .obtain rfl:k=2:=k2;have x0:W2.cell? ⟨V9.heap.size,0,none⟩=some (.int .u8 2):=B2.o.at 0 rfl;have ew2:IntKind.i64.wrap ((d.sent.length:Int)+1)=(d.sent.length:Int)+1:=by rw[IntWalk.i64_in _ (by have:=ak.o;omega)]
     have J:=O E;have a5:=O ar;clear E ar hx;generalize evO (some ⟨2,y⟩)=eo at s2 hz|-;go_wp2_with fail;clear s2 x0;refine(aj.o _ _ _ S2.o NX.o.ok).mono ?_;rintro r w3⟨v3,rfl,h3,I⟩;obtain⟨a3,bj,rfl,_,_,B⟩:=h3.row sentT.hc;rw[J.o]at B;obtain⟨g,o,rfl,hj⟩:=B d.sent.length (by simp);have a9:Hi (∀j u,(Qxe y)[j]? =some u->w3.cell? ⟨g,o+d.sent.length*8+j,none⟩=some u):=O (λj u hu=>hj j u (by rw[List.getElem_append_right (Zv _)];simpa using hu));have S3:=O (S2.o.aB I);have B3:Hi (Qh w3 V9.heap.size (evA 2 y) 53):=O (I.blk B2.o (λh=>h));have ab:Hi (∀w',Qc Qb w3 w'->ZW 13 #[ZP bd] w' (ZU y.til) λah=>w'=ah):=O (λw' c=>by
      have:=ai.o w' F2 _ (S3.o.aB c);rw[<-a5.o]at this;exact this)
     have af:(d.step tq).2.sent.length=d.sent.length+1:=by rw[J.o,List.length_append];rfl
     rw[af];have a0:=O af;clear h3 I B hj af;go_upto_region 33 with fail;go_cut [140] (λav wz=>av=.bool false/\wz=w3.drew)
     case first=>
      refine Q1d B3.o a9.o ak.o ab.o rfl rfl rfl rfl rfl (λ_ _ _ _ _ h=>h) (λM hM h3=>?_);iterate 22 (obtain⟨_,_,rfl,z⟩:=Qyz hM;clear hM;have hM:=z;clear z)
      obtain rfl:=List.eq_nil_of_length_eq_zero hM;obtain rfl:=Zs h3;go_wp2_with fail;go_meet;exact⟨rfl,rfl⟩
     case rest=>
      obtain⟨rfl,rfl⟩:=hcut;have x1:w3.drew.cell? ⟨V9.heap.size,0,none⟩=some (.int .u8 2):=B3.o.drew.at 0 rfl;have S4:=O (S3.o.aB (Zg Qb w3).drew);go_wp2_with fail;go_roundw;case measure=>have:=HM.o;simp only[intOf];omega
      case rel=>exact⟨m+1,_,F2,true,by rw[<-Int.natCast_one,<-Int.natCast_add],by rw[a0.o,<-Int.natCast_one,<-Int.natCast_add],rfl,S4.o,NX.o⟩
    .obtain rfl:k=1:=k1;have x0:W2.cell? ⟨V9.heap.size,0,none⟩=some (.int .u8 1):=B2.o.at 0 rfl;have J:=O E;have az:=O ao;have a6:Hi (ZW 21 #[ZP bd] W2 (.tuple #[.agg (Lq (some y)),.bool true]) λw'=>Qc Qb W2 w'):=O (by
      have:=ay.o W2 F2 _ S2.o;rw[au]at this;exact this)
     clear E ao au hx;generalize evO (some ⟨1,y⟩)=eo at s2 hz|-;go_wp2_with fail;clear s2 x0;apply Zo a6;rintro r w3⟨rfl,I⟩;obtain⟨W3,s3,g3,b3,k3⟩:=Qz7 (S2.o.aB I) (some y);have S3:=O g3;have U3:=O b3;have B3:Hi (Qh W3 V9.heap.size (evA 1 y) 53):=O ((I.aA k3).blk B2.o (λh=>h));have ab:Hi (∀w',Qc Qb W3 w'->ZW 13 #[ZP bd] w' (ZU y.frm) λah=>w'=ah):=O (λw' c=>by
      have:=ai.o w' F2 _ (S3.o.aB c);rw[<-az.o]at this;exact this)
     have bf:(Lq (some y)).size=8:=rfl;clear I g3 b3 k3;generalize aq:Lq (some y)=so at s3 bf U3|-;have a2:=O aq;clear aq;go_upto_region 37 with fail;clear s3;go_cut [166] (λaw wz=>aw=.bool false/\wz=W3.drew)
     case first=>
      refine Q1e B3.o (by rw[a2.o];exact U3.o) ab.o rfl rfl rfl rfl rfl (λ_ _ _ _ _ h=>h) (λM hM h3=>?_);iterate 15 (obtain⟨_,_,rfl,z⟩:=Qyz hM;clear hM;have hM:=z;clear z)
      obtain rfl:=List.eq_nil_of_length_eq_zero hM;obtain rfl:=Zs h3;go_wp2_with fail;go_meet;exact⟨rfl,rfl⟩
     case rest=>
      obtain⟨rfl,rfl⟩:=hcut;have S4:=O (S3.o.aB (Zg Qb W3).drew);go_wp2_with fail;go_roundw;case measure=>have:=HM.o;simp only[intOf];omega
      case rel=>exact⟨m+1,_,F2,true,by rw[<-Int.natCast_one,<-Int.natCast_add],by rw[J.o],rfl,S4.o,NX.o⟩
end
section
variable{W V V6 w w':World}{F G:Fp}{b K more pc:Nat}{e:Vi}
theorem Q10{more k n:Nat}(c:1<=k):more*(k-1)/n<=more*k/n:=Nat.div_le_div_right (Nat.mul_le_mul_left _ (by omega))
theorem Q11{more k n:Nat}(d:k<=n+1)(q:1<=n):more*(k-1)/n<=more:=by refine Zp (Nat.div_le_div_right (c:=n) (Nat.mul_le_mul_left more (show k-1<=n by omega))) ?_;rw[Nat.mul_div_cancel _ (by omega)];exact Zv _
theorem Q1v(hS:GE V V6 G b e)(ok:V4 K e)(hK:K<549755813000)(u:Fr e)(hl:e.left<=400)(E:more<65536)(ay:pc<256)(hV:Qc Qb W V)
  {L:List Value}(h0:L.length=232)(h2:L[2]? =some (.int .u16 more))(h3:L[3]? =some (.int .u8 pc))(h9:L[9]? =some (ZP b)):Q0b 6 W ⟨L.toArray,[]⟩ V6:=by
 obtain⟨r,hr⟩:=Zx (pc%20);obtain⟨n,hn⟩:=Zx (1+r);obtain⟨J,ap⟩:=Zx (e.now+more);have aa:e.now<=1099511627776:=Zp ok.now ok.hor.2;have e1:(pc:Int).tmod 20=(r:Int):=by rw[Int.tmod_eq_emod_of_nonneg (by omega)];omega
 have e2:IntKind.u64.wrap (r:Int)=(r:Int):=by rw[IntWalk.u64_in _ (by omega)]
 have e3:IntKind.u64.wrap (1+(r:Int))=(n:Int):=by rw[IntWalk.u64_in _ (by omega)];omega
 have e4:IntKind.u64.wrap (more:Int)=(more:Int):=by rw[IntWalk.u64_in _ (by omega)]
 have e5:IntKind.u64.wrap ((e.now:Int)+(more:Int))=(J:Int):=by rw[IntWalk.u64_in _ (by omega)];omega
 have I:Hi (1<=n/\n<=20):=O (by omega);have MB:=O E;have TQ:=O ap;have Z:=O aa;have S0:=O (ES.one hS);have OK:=O ok;have U0:=O u;have LE:=O hl;have KB:=O hK;have FC:=O hV;have aj:=O (λw F(l:List (Nat×Vi))i b e(h:ES V w F l)(hi:l[i]? =some (b,e))=>h.stop hi);have ac:=O (λw F(l:List (Nat×Vi))i b(h:ES V w F l)(hi:l[i]? =some (b,e))=>h.copy hi OK.o KB.o);have ai:=O (λw F(l:List (Nat×Vi))i b(h:ES V w F l)(hi:l[i]? =some (b,e))=>h.now hi);have ah:=O (λw F(l:List (Nat×Vi))i b d(h:ES V w F l)(hi:l[i]? =some (b,d))(ok:V4 K d)(u:Fr d)til=>h.adv hi ok KB.o u til);have EN:=Zx (e.now);clear hS ok u hl hV hK E ay ap aa hr hn EN;unfold Q0b;iterate 232 (obtain⟨_,_,rfl,h1⟩:=Qyz h0;clear h0;have h0:=h1;clear h1)
 obtain rfl:=List.eq_nil_of_length_eq_zero h0;obtain rfl:=Zs h2;obtain rfl:=Zs h3;obtain rfl:=Zs h9;clear h0 h2 h3 h9
 conv=>arg 2;whnf
 go_wp2_with fail;refine(aj.o _ _ _ 0 b e S0.o rfl).mono ?_;rintro r1 w1⟨rfl,c1⟩;have S1:=O (S0.o.aB c1);clear c1;cases hs:e.stopped with
 |true=> have D:=O (FC.o.aA S1.o.chg);clear hs;exact WD D
 |false=>
  have NS:=O hs;clear hs;go_wp2_with fail;refine(ac.o _ _ _ 0 b S1.o rfl).mono ?_;rintro r2 w2⟨ba,rfl,F2,h2⟩;have S2:=O h2;clear h2;go_wp2_with fail;refine(ac.o _ _ _ 1 b S2.o rfl).mono ?_;rintro r3 w3⟨bb,rfl,F3,h3⟩;have S3:=O h3;clear h3;go_wp2_with fail;refine(ac.o _ _ _ 2 b S3.o rfl).mono ?_;rintro r4 w4⟨bd,rfl,F4,h4⟩;have S4:=O h4;clear h4;go_wp2_with fail;refine(ai.o _ _ _ 3 b S4.o rfl).mono ?_;rintro r5 w5⟨rfl,rfl⟩;go_wp2_with fail;refine(ah.o _ _ _ 2 ba e S4.o rfl OK.o U0.o J).mono ?_;rintro r6 w6⟨rfl,h6,c6⟩;have ab:=Q1j (til:=J) (e:=e) (by have:=TQ.o;omega) NS.o;have S6:Hi (ES V w6 (Qn F4 w4 w6) [(bd,e),(bb,e),(ba,e.run J),(b,e)]):=O (by rw[<-ab];exact h6);clear h6 c6 ab;generalize Qn F4 w4 w6=F6 at S6;go_wp2_with fail;rename_i KX al;have hX:∀(a:Act)(w),(∃(L:List Value)(F:Fp),a=⟨L.toArray,[]⟩/\L.length=232/\L[12]? =some (ZP ba)/\L[13]? =some (ZP bb)/\L[14]? =some (ZP bd)/\L[15]? =some (ZU J)/\ES V w F (es4 bd bb ba b e (e.run J) e))->KX a w:=λa w⟨L,F,e1,h0,au,av,aw,ax,hS⟩=>by subst e1;exact al _ w (Q1w hS OK.o KB.o U0.o LE.o (by have:=TQ.o;have:=Z.o;have:=MB.o;omega) rfl FC.o h0 au av aw ax)
  clear al;go_loopw [17] (λag wz=>∃(k:Nat)(z:Vi)(F:Fp),ag=ZU k/\1<=k/\k<=n+1/\ES V wz F [(bd,e),(bb,z),(ba,e.run J),(b,e)]/\V4 K z/\Fr z/\PcB e z (e.now+more*(k-1)/n)/\(k=1\/z.run (e.now+more*(k-1)/n)=z)) (λag _=>n+1-(intOf ag).toNat);case atStart=>exact⟨1,e,_,rfl,Zv _,by have:=I.o;omega,S6.o,OK.o,U0.o,PcB.start (Nat.le_add_right _ _),.inl rfl⟩
  case round=>
   obtain⟨k,z,F,rfl,af,R,hS,an,hu,hp,U⟩:=hrel;have S7:=O hS;have c:=O (Zt an (Zt hu (Zt hp U)));have KN:=O (Zt af R);have HT:=O (Q11 (more:=more) R I.o.1);clear hS an hu hp U;by_cases B:k<=n
   .have d1:decide ((k:Int)<=(n:Int))=true:=by simp;omega
    have d2:decide (k<=n)=true:=by simpa using B
    clear af R;go_wp2_with fail;refine(aj.o _ _ _ 1 bb z S7.o rfl).mono ?_;rintro r7 w7⟨rfl,c7⟩;have S8:=O (S7.o.aB c7);clear c7;cases hs:z.stopped with
    |true=> have hf:z=e.run J:=c.o.2.2.1.fin (by have:=TQ.o;have:=HT.o;omega) (.inl hs);rw[hf]at S8;have S9:=O S8.o;clear hf hs d1 d2;go_wp2_with fail;exact⟨_,F,rfl,rfl,rfl,rfl,rfl,rfl,S9.o⟩
    |false=>
     have ar:=O hs;have ak:=O B;obtain⟨q,U⟩:=Zx (more*k/n);have am:more*k<=65536*20:=Nat.mul_le_mul (by have:=MB.o;omega) (by have:=I.o;omega);have ao:q<=more*k:=by rw[U];exact Nat.div_le_self _ _
     obtain⟨P,hP⟩:=Zx (more*k);rw[<-hP]at am ao U;have m1:IntKind.u64.wrap ((more:Int)*(k:Int))=(P:Int):=by rw[IntWalk.u64_in _ (by rw[<-Int.natCast_mul,<-hP];omega),<-Int.natCast_mul,<-hP]
     have m2:((P:Int)).tdiv (n:Int)=(q:Int):=by rw[U];exact(Int.ofNat_tdiv P n).symm
     have az:(P:Int)/(n:Int)=(q:Int):=by rw[U];rfl
     have a1:¬n=0:=by have:=I.o;omega
     have a0:¬(n:Int)=0:=by have:=I.o;omega
     have m3:IntKind.u64.wrap (q:Int)=(q:Int):=by rw[IntWalk.u64_in _ (by omega)]
     have m4:((n:Int)==0)=false:=by have:=I.o;simp;omega
     have m5:decide ((n:Int)=0)=false:=by have:=I.o;simp;omega
     obtain⟨t,ht⟩:=Zx (e.now+q);have m6:IntKind.u64.wrap ((e.now:Int)+(q:Int))=(t:Int):=by rw[IntWalk.u64_in _ (by have:=Z.o;omega)];omega
     have m7:IntKind.u64.wrap ((k:Int)+1)=(k:Int)+1:=by rw[IntWalk.u64_in _ (by have:=I.o;omega)]
     have ae:Hi (t=e.now+more*k/n):=O (by rw[ht,U,hP]);have NX:=O (c.o.2.2.1.adv (t':=t) c.o.1 ar.o (by have:=Q10 (more:=more) (n:=n) KN.o.1;have:=ae.o;omega));clear hs B am ao U hP ht;go_wp2_with fail;apply YC [100,1,103,104,105,106,107,108,202,9,310] Qb w7;apply YA 0;go_wp2_with fail;refine(ai.o _ _ _ 3 b (S8.o.aB (Zg Qb w7).drew) rfl).mono ?_;rintro r8 w8⟨rfl,rfl⟩;go_wp2_with fail;refine⟨(Zg Qb w7).drew,?_⟩;apply YA 0;go_wp2_with fail;refine(ah.o _ _ _ 1 bb z (S8.o.aB (Zg Qb w7).drew) rfl c.o.1 c.o.2.1 t).mono ?_;rintro r9 w9⟨rfl,h9,c9⟩;have aq:Hi (∃F',ES V w9 F' [(bd,e),(bb,z.adv t),(ba,e.run J),(b,e)]/\V4 K (z.adv t)/\Fr (z.adv t)/\PcB e (z.adv t) (e.now+more*(k+1-1)/n)/\(k+1=1\/(z.adv t).run (e.now+more*(k+1-1)/n)=z.adv t)):=O (⟨_,h9,c.o.1.adv t,c.o.2.1.adv c.o.1 t,by rw[Nat.add_sub_cancel,<-ae.o];exact NX.o.1,.inr (by rw[Nat.add_sub_cancel,<-ae.o];exact NX.o.2)⟩);clear h9 c9 m1 m2 m3 m4 m5 m6;go_wp2_with fail;refine Ky ?_;go_wp2_with fail;go_roundw;case measure=>have:=ak.o;have:=KN.o;simp only[intOf];omega
     case rel=> obtain⟨F',f1,f2,f3,f4,f5⟩:=aq.o;exact⟨k+1,_,F',by rw[<-Int.natCast_one,<-Int.natCast_add],by omega,by have:=ak.o;omega,f1,f2,f3,f4,f5⟩
   .have d1:decide ((k:Int)<=(n:Int))=false:=by simp;omega
    have d2:decide (k<=n)=false:=by simpa using B
    have hk:k=n+1:=by omega
    have hf:z=e.run J:=c.o.2.2.1.fin (by have:=TQ.o;have:=HT.o;omega) (.inr ⟨c.o.2.2.2.elim (λh=>by have:=I.o;omega) id,by have:=TQ.o;rw[hk,Nat.add_sub_cancel,Nat.mul_div_cancel _ (by have:=I.o;omega)];exact this.symm⟩);rw[hf]at S7;have S9:=O S7.o;clear hf hk B af R;go_wp2_with fail;exact⟨_,F,rfl,rfl,rfl,rfl,rfl,rfl,S9.o⟩
end
section
theorem Qz6(c:Nat)(d:Int)(z:Nat)(ak:c<18446744073709551616)(ah:z<18446744073709551616)(l:List Yy)(U pc:Nat)(a:Option Addr)(cap:Nat)(W)(hl:l.length<=maxLen)(hr:Kb Yy.cells 20 W a l)(hw:∀x∈l,x.wf)(I:U<65536)(aa:pc<256):
  ZW 6 #[.agg (Q2d c d z),.slice a l.length cap,.int .u16 U,.int .u8 pc] W (.bool true) λw'=>Qc Qb W w':=by
 obtain⟨W0,V⟩:=Zx (W.alloc (.cells (Q2d c d z) 24));have C0:Hi (Qc Qb W W0):=O (by rw[V];exact(Zg _ _).alloc _);have al:Hi (Qh W0 W.heap.size (Q2d c d z) 24):=O (by rw[V];exact Qh.new _ _ _);have af:=O V;have AW:=O (Qzx W0);have LG:=O (λw=>Q0w l.length a cap w);clear V;by_cases E:200<l.length;·rw[decide_eq_true E]at LG;clear hr hw hl E ak ah I aa;apply WH func6;go_wp2_with fail;rw[<-af.o];apply ZF AW (λ_ c1=>C0.o.aA c1);intro w1 C1;go_wp2_with fail;apply Zz (LG.o w1);rintro w2 rfl;exact WD C1
 .rw[decide_eq_false E]at LG;have ap:=O (λw(h:Qxy c d z≠0)=>Q1k c d z w h);have ao:=O (λw(h:Qxy c d z=0)=>Q0r c d z w h);have HR:=O hr;have an:=O hw;have J:=O E;have MO:=O (Zt I aa);clear hr hw hl E ak ah I aa;apply WH func6;go_wp2_with fail;rw[<-af.o];generalize Value.agg (Q2d c d z)=gc;apply Zy AW;intro w1 c1;have C1:=O (C0.o.aA c1);have am:=O (c1.blk al.o (λh=>h));clear c1;go_wp2_with fail;apply Zz (LG.o w1);rintro w2 rfl;have d0:=L6 am.o;go_wp2_with fail;by_cases Z:Qxy c d z=0
  .refine(ao.o _ Z).mono ?_;rintro r w3⟨b,rfl,h3,c3⟩;have S3:=O (GE.new h3 c3);have ar:=O (V4.new Z);clear h3 c3 Z d0;generalize Qn Qb w1 w3=G3 at S3;go_wp2_with fail;rename_i KX ag;have hX:∀(a:Act)(w),(∃(L:List Value)(K:Nat)(e:Vi)(G:Fp),a=⟨L.toArray,[]⟩/\L.length=232/\L[2]? =some (.int .u16 U)/\L[3]? =some (.int .u8 pc)/\L[9]? =some (ZP b)/\GE w1 w G b e/\V4 K e/\K<549755813000/\Fr e/\e.left<=400)->KX a w:=λa w⟨L,K,e,G,e1,h0,h2,h3,h9,hS,ok,hK,u,hl⟩=>by subst e1;exact ag _ w (Q1v hS ok hK u hl MO.o.1 MO.o.2 C1.o h0 h2 h3 h9)
   clear ag;go_loopw [11] (λac wr=>∃(k:Nat)(e:Vi)(G:Fp),ac=ZI k/\k<=l.length/\GE w1 wr G b e/\V4 (33*k) e/\Fr e/\e.left<=2*k) (λac _=>l.length-(intOf ac).toNat);case atStart=>exact⟨0,_,_,rfl,Nat.zero_le _,S3.o,ar.o,Fr.new _ _ _,Zv _⟩
   case round=>
    obtain⟨k,e,G,rfl,hk,hG,aj,hu,ai⟩:=hrel;have S4:=O hG;have B:=O (Zt aj (Zt hu ai));clear hG aj hu ai;by_cases R:k<l.length
    .have hd:=ZT (show k<l.length by omega);obtain⟨g,o,rfl,hj⟩:=HR.o k R;have ab:=an.o _ (List.getElem_mem R);generalize l[k]=q at hj ab;have HD:=O (Q0v S4.o.is B.o.1 (by have:=J.o;omega) B.o.2.1 q ab);have HL:Hi (wr.rangeAt g (o+k*20) q.cells):=O (λj u hu=>(C1.o.aA S4.o.chg).same (hj j u hu));have aq:Hi (∀w' G',GE w1 w' G' b (e.does q.kind.toNat q.s q.p q.after)->∃(e':Vi)(G:Fp),GE w1 w' G b e'/\V4 (33*(k+1)) e'/\Fr e'/\e'.left<=2*(k+1)):=O (λw' G' h=>⟨_,G',h,by have:=B.o.1.does q.kind.toNat q.s q.p q.after;rwa[show 33*(k+1)=33*k+33 from by omega],B.o.2.1.does B.o.1 _ _ _ _,by have:=Q2h B.o.1 q.kind.toNat q.s q.p q.after;have:=B.o.2.2;omega⟩);have ew:IntKind.i64.wrap ((k:Int)+1)=(k:Int)+1:=by rw[IntWalk.i64_in _ (by have:=J.o;omega)]
     have i0:(0:Int)<=(k:Int):=by omega
     have i1:(k:Int)<(l.length:Int):=by omega
     have ae:=O R;clear hj ab R;go_wp2_with (with_reducible refine wpList_load_mid rfl 33 (.tmp 51) rfl g (o+k*20) rfl q.cells _ HL.o underlying33 rfl (by kernel_rfl) ?_);apply Zo HD;rintro r w5⟨rfl,h5,c5⟩;have S6:=O (S4.o.step h5 c5);have FF:=O (aq.o _ _ S6.o);clear h5 c5;go_wp2_with fail;go_roundw;case measure=>have:=ae.o;simp only[intOf];omega
     case rel=> obtain⟨e',G',f1,f2,f3,f4⟩:=FF.o;exact⟨k+1,e',G',by rw[<-Int.natCast_one,<-Int.natCast_add],ae.o,f1,f2,f3,f4⟩
    .have hd:=ZN (show¬k<l.length by omega);clear R;go_wp2_with fail;exact⟨_,_,e,G,rfl,rfl,rfl,rfl,rfl,S4.o,B.o.1,by have:=J.o;omega,B.o.2.1,by have:=B.o.2.2;have:=J.o;omega⟩
  .refine(ap.o _ Z).mono ?_;rintro r w3⟨rfl,c3⟩;have C3:=O (C1.o.aA c3);have hz:(Qxy c d z==0)=false:=by simp[Z]
   have av:decide (Qxy c d z=0)=false:=by simp[Z]
   have aw:(Qxy c d z != 0)=true:=by simp[Z]
   clear c3 Z;generalize Qxy c d z=er at hz av aw|-;exact WD C3
end
theorem Uv{n:Int}(h:(Lit.int .u64 n).wf=true):∃k:Nat,n=(k:Int)/\k<18446744073709551616:=by
 refine⟨n.toNat,?_⟩;simp[Lit.wf]at h;have c:IntKind.u64.min=0:=by kernel_rfl
 have d:IntKind.u64.max=18446744073709551615:=by kernel_rfl
 omega
theorem Qum{n:Int}(h:(Lit.int .u8 n).wf=true):0<=n/\n<256:=by
 simp[Lit.wf]at h;have c:IntKind.u8.min=0:=by kernel_rfl
 have d:IntKind.u8.max=255:=by kernel_rfl
 omega
def Al:List (Option IntKind):=[some .u8,some .i64,some .i64,none,some .u64,some .u64,some .u64,some .u64,some .u64,some .u64,some .u64,some .u64,some .u64,some .i64,some .i64,some .u64,some .i64,some .i64,some .u64,some .u64]
theorem Yy.of_fits{x:List Value}(h:O2 Al x):∃a:Yy,x=a.cells/\a.wf:=by unfold Al at h;obtain⟨k,y0,rfl,wk,h1⟩:=h.int1;obtain⟨v0,y1,rfl,_,h2⟩:=h1.int1;obtain⟨v1,y2,rfl,_,h3⟩:=h2.int1;obtain⟨v2,y3,rfl,h4⟩:=h3.bool1;obtain⟨u4,y4,rfl,w4,h5⟩:=h4.int1;obtain⟨v3,rfl,_⟩:=Uv w4;clear w4;obtain⟨u5,y5,rfl,w5,h6⟩:=h5.int1;obtain⟨v4,rfl,_⟩:=Uv w5;clear w5;obtain⟨u6,y6,rfl,w6,h7⟩:=h6.int1;obtain⟨v5,rfl,_⟩:=Uv w6;clear w6;obtain⟨u7,y7,rfl,w7,h8⟩:=h7.int1;obtain⟨v6,rfl,_⟩:=Uv w7;clear w7;obtain⟨u8,y8,rfl,w8,h9⟩:=h8.int1;obtain⟨v7,rfl,_⟩:=Uv w8;clear w8;obtain⟨u9,y9,rfl,w9,z⟩:=h9.int1;obtain⟨v8,rfl,_⟩:=Uv w9;clear w9;obtain⟨u10,ac,rfl,c,B⟩:=z.int1;obtain⟨v9,rfl,_⟩:=Uv c;clear c;obtain⟨u11,ae,rfl,d,E⟩:=B.int1;obtain⟨v10,rfl,_⟩:=Uv d;clear d;obtain⟨u12,af,rfl,q,I⟩:=E.int1;obtain⟨v11,rfl,_⟩:=Uv q;clear q;obtain⟨v12,ag,rfl,_,J⟩:=I.int1;obtain⟨v13,ah,rfl,_,K⟩:=J.int1;obtain⟨p0,ai,rfl,_,R⟩:=K.int1;obtain⟨p1,aj,rfl,_,U⟩:=R.int1;obtain⟨p2,ak,rfl,_,V⟩:=U.int1;obtain⟨p3,al,rfl,_,Z⟩:=V.int1;obtain⟨u19,am,rfl,u,aa⟩:=Z.int1;obtain⟨va,rfl,ab⟩:=Uv u;clear u;have hz:=aa.nil0;subst hz;exact⟨⟨k,⟨v0,v1,v2,⟨v3,v4,v5⟩,⟨v6,v7,v8⟩,⟨v9,v10,v11⟩,v12,v13⟩,⟨p0,p1,p2,p3⟩,va⟩,rfl,(Qum wk).1,(Qum wk).2,ab⟩
theorem own:ownKnob prog.godebug=none:=by kernel_rfl
def Qzq:List (Option IntKind):=[some .u64,some .i64,some .u64]
theorem Q0o{x:List Value}(h:O2 Qzq x):∃(c:Nat)(k:Int)(d:Nat),x.toArray=#[ZU c,ZI k,ZU d]/\c<18446744073709551616/\d<18446744073709551616:=by unfold Qzq at h;obtain⟨u0,I,rfl,w0,z⟩:=h.int1;obtain⟨u1,J,rfl,_,B⟩:=z.int1;obtain⟨u2,K,rfl,w2,E⟩:=B.int1;have:=E.nil0;subst this;obtain⟨v0,rfl,q⟩:=Uv w0;obtain⟨v2,rfl,u⟩:=Uv w2;exact⟨v0,u1,v2,rfl,q,u⟩
theorem Q2j{n:Int}(h:(Lit.int .u16 n).wf=true):∃k:Nat,n=(k:Int)/\k<65536:=by
 refine⟨n.toNat,?_⟩;simp[Lit.wf]at h;have c:IntKind.u16.min=0:=by kernel_rfl
 have d:IntKind.u16.max=65535:=by kernel_rfl
 omega
theorem Q2q{n:Int}(h:(Lit.int .u8 n).wf=true):∃k:Nat,n=(k:Int)/\k<256:=by have:=Qum h;exact⟨n.toNat,by omega,by omega⟩
theorem Q2v:O9 prog 5 24=some Qzq:=by kernel_rfl
theorem Q2l:O9 prog 5 33=some Al:=by kernel_rfl
end Go.Proofs.YtigcnnkagkbflaaGreat
