/- A part of the proof: no condition. -/
import Derived.Test.YtigcnnkagkbflaaGreatXb24
namespace Go.Proofs.YtigcnnkagkbflaaGreat
set_option linter.unusedVariables false
set_option maxRecDepth 100000
set_option maxHeartbeats 4000000
open Go.RowKit
open Go.Proofs.Tryz
attribute [local go_sem] Qp
attribute [local irreducible] Kl J9 Xo
section
attribute [local go_sem ↓] X8 Yd
theorem Q0d(n:Nat)(a:Option Addr)(cap:Nat)(w):ZW 8 #[.slice a n cap] w (.bool (decide (200<n))) fun w'=>w=w':=by
 go_enter func8,ntmps8;go_wp2;go_ret;refine⟨?_,rfl⟩;congr 2;by_cases h:200<n;·simp[h];omega
 ·simp[h];omega
theorem Qz2(now c:Nat)(w)(u:now≤1099511627776):ZW 35 #[ZU now,ZU c] w (ZU (P4 now c:Int)) fun w'=>w=w':=by
 have k:(c:Int).tmod 1048576=((c%1048576:Nat):Int):=by rw[Int.tmod_eq_emod_of_nonneg (by omega)];omega
 obtain⟨q,d⟩:=Zx (c%1048576);have Xg:q<1048576:=by omega
 have z:min ((now:Int)+(q:Int)) 1099511627781=(P4 now c:Int):=by unfold P4;rw[←d];omega
 rw[←d]at k;have B:IntKind.u64.wrap ((now:Int)+(q:Int))=(now:Int)+(q:Int):=by rw[IntWalk.u64_in _ (by omega)]
 have E:IntKind.u64.wrap (q:Int)=(q:Int):=by rw[IntWalk.u64_in _ (by omega)]
 clear d Xg u;go_enter func35,ntmps35;go_wp2;go_ret;exact⟨rfl,rfl⟩
abbrev Q1k(d:Nat)(c:Int)(k:Nat):Array Value:=#[ZU d,ZI c,ZU k]
theorem Yy.at20{w}{r:Nat}{a:Yy}{t:TypeId}(h:Qh w r a.cells.toArray t):w.cell? ⟨r,0,none⟩=some (.int .u8 a.kind)∧w.cell? ⟨r,1,none⟩=some (ZI a.s.id)∧w.cell? ⟨r,2,none⟩=some (ZI a.s.par)∧w.cell? ⟨r,3,none⟩=some (.bool a.s.leaf)∧w.cell? ⟨r,4,none⟩=some (ZU a.s.real.f)∧w.cell? ⟨r,5,none⟩=some (ZU a.s.real.l)∧w.cell? ⟨r,6,none⟩=some (ZU a.s.real.r)∧w.cell? ⟨r,7,none⟩=some (ZU a.s.share.f)∧w.cell? ⟨r,8,none⟩=some (ZU a.s.share.l)∧w.cell? ⟨r,9,none⟩=some (ZU a.s.share.r)∧w.cell? ⟨r,10,none⟩=some (ZU a.s.aN.f)∧w.cell? ⟨r,11,none⟩=some (ZU a.s.aN.l)∧w.cell? ⟨r,12,none⟩=some (ZU a.s.aN.r)∧w.cell? ⟨r,13,none⟩=some (ZI a.s.pk)∧w.cell? ⟨r,14,none⟩=some (ZI a.s.bt)∧w.cell? ⟨r,15,none⟩=some (ZU a.p.id)∧w.cell? ⟨r,16,none⟩=some (ZI a.p.cls)∧w.cell? ⟨r,17,none⟩=some (ZI a.p.len)∧w.cell? ⟨r,18,none⟩=some (ZU a.p.at_)∧w.cell? ⟨r,19,none⟩=some (ZU a.after):=
 ⟨h.at 0 rfl,h.at 1 rfl,h.at 2 rfl,h.at 3 rfl,h.at 4 rfl,h.at 5 rfl,h.at 6 rfl,h.at 7 rfl,h.at 8 rfl,h.at 9 rfl,h.at 10 rfl,h.at 11 rfl,h.at 12 rfl,h.at 13 rfl,h.at 14 rfl,h.at 15 rfl,h.at 16 rfl,h.at 17 rfl,h.at 18 rfl,h.at 19 rfl⟩
section
variable{w:World}{F:Fp}{b:Nat}{e:Vi}{K:Nat}
theorem Qxn.lifted{W w'}(h:Qxn w F b e)(c:Qc Qb w W){q:Vi}(h':Qxn w' (Qn F W w') b q)(u:Qc F W w'):Qxn w' (Qn F w w') b q∧Qc F w w':=by have d:Qc F w w':=c.none.aA u;exact⟨Qxn.obj.more h' (fun k z=>z.elim .inl (fun h=>.inr ⟨Zp c.size h.1,h.2⟩)) ((Qxn.obj.bd h).ext d),d⟩
theorem Q0c(h:Qxn w F b e)(J:V4 K e)(hK:K+33<549755813000)(u:UOk e)(a:Yy)(hw:a.wf):
  ZW 11 #[ptr b,.agg a.cells.toArray] w (ZI (e.aY a.kind.toNat a.s a.p a.after)) fun w'=>Qxn w' (Qn F w w') b (e.does a.kind.toNat a.s a.p a.after)∧Qc F w w':=by
 have aa:=hw.1;obtain⟨W,Z⟩:=Zx (w.alloc (.cells a.cells.toArray 33));have c0:Qc Qb w W:=by rw[Z];exact(Zg _ _).alloc _
 have B0:Hi (Qh W w.heap.size a.cells.toArray 33):=O (by rw[Z];exact Qh.new _ _ _);have B:Qxn W F b e:=Qxn.obj.aB h c0 (Jl.none F);have d:=O (Zt h c0);obtain⟨N,U,_⟩:=J.sok;have al:=O (Qz7 B U a.s);have am:=O (Qz8 B U a.s);have an:=O (Q00 B J a.s.id);have ao:=O (Qzl B J hK u a.p);have ap:=O (fun k(c:Qc Qb W k)=>Qyz (Qxn.obj.aB B c (Jl.none F)) J (by omega) u (P4 e.now a.after));have aq:=O (fun k(c:Qc Qb W k)=>Qzv (Qxn.obj.aB B c (Jl.none F)) J (by omega) u (P4 e.now a.after));have HL:=O (fun k=>Qz2 e.now a.after k (Zp J.now J.hor.2));have HN:=O (fun k(c:Qc Qb W k)=>by obtain⟨A,hA⟩:=Qxn.obj.aB B c (Jl.none F);exact Qzm hA.blk.1);have HX:=O (fun k(c:Qc Qb W k)=>(show k.cell? ⟨w.heap.size,19,none⟩=some (ZU a.after)from(c.blk B0.o (fun h=>h)).at 19 rfl));have X:=O (Yy.at20 B0.o);have e3:a.kind.tmod 7=a.kind%7:=Int.tmod_eq_emod_of_nonneg aa;have R:a.kind.toNat%7=(a.kind%7).toNat:=by omega
 have h7:a.kind%7=0∨a.kind%7=1∨a.kind%7=2∨a.kind%7=3∨a.kind%7=4∨a.kind%7=5∨a.kind%7=6:=by omega
 unfold Vi.aY Vi.does;unfold Fb at*;unfold Yy.cells at Z;unfold Yy.cells;clear h B c0 U J u hw aa;rcases h7 with I|I|I|I|I|I|I;all_goals
  rw[I]at e3 R;simp only[R];obtain⟨x0,x1,x2,x3,x4,x5,x6,x7,x8,x9,ab,ac,ae,af,ag,ah,ai,aj,ak,q⟩:=X.o;clear I R;go_enter func11,ntmps11;go_wp2_with fail;rw[←Z];clear Z;go_wp2_with fail
 all_goals try((first|refine Zo al ?_|refine Zo am ?_|refine Zo an ?_|refine Zo ao ?_);rintro r w1⟨rfl,E,z⟩;have K:=O (d.o.1.lifted d.o.2 E z);clear E z;go_wp2;go_ret;exact⟨rfl,K.o⟩)
 ·refine ZC [100,1,103,104,202,205,306,307] (fun V=>Qc (Qb) (W) V) ?_;simp only[Z8,Zf,Ze,Zd];(refine Qy (h:=?_);try simp only[Act.put,Za,Zc,Zb]);refine Xe (h:=?_);(refine Qy (h:=?_);try simp only[Act.put,Za,Zc,Zb]);iterate 1 (refine Qy (by kernel_rfl) (fun V hv=>by(have q:=HX.o V hv);go_simp;try rfl) ?_;try simp only[Act.put,Za,Zc,Zb])
  clear x0 x1 x2 x3 x4 x5 x6 x7 x8 x9 ab ac ae af ag ah ai aj ak q;refine Yb ?_;go_wp2_with fail;refine(HN.o _ (Zg Qb W).drew).mono ?_;rintro r w1⟨rfl,rfl⟩;go_wp2_with fail;refine⟨(Zg Qb W).drew,?_⟩;refine Yb ?_;go_wp2_with fail;refine(HL.o _).mono ?_;rintro r w1⟨rfl,rfl⟩;go_wp2_with fail;refine⟨(Zg Qb W).drew,?_⟩;refine Km ?_;go_wp2_with fail;refine(ap.o _ (Zg Qb W).drew).mono ?_;rintro r w1⟨rfl,E,z⟩;have K:=O (d.o.1.lifted (d.o.2.aA (Zg Qb W).drew) E z);clear E z;go_wp2_with fail;refine Km ?_;go_wp2_with fail;refine Ky ?_;go_wp2;go_ret;exact⟨rfl,K.o⟩
 all_goals
  refine ZC [100,1,103,104,202,205,306] (fun V=>Qc (Qb) (W) V) ?_;simp only[Z8,Zf,Ze,Zd];(refine Qy (h:=?_);try simp only[Act.put,Za,Zc,Zb]);refine Xe (h:=?_);(refine Qy (h:=?_);try simp only[Act.put,Za,Zc,Zb]);iterate 1 (refine Qy (by kernel_rfl) (fun V hv=>by(have q:=HX.o V hv);go_simp;try rfl) ?_;try simp only[Act.put,Za,Zc,Zb])
  clear x0 x1 x2 x3 x4 x5 x6 x7 x8 x9 ab ac ae af ag ah ai aj ak q;refine Yb ?_;go_wp2_with fail;refine(HN.o _ (Zg Qb W).drew).mono ?_;rintro r w1⟨rfl,rfl⟩;go_wp2_with fail;refine⟨(Zg Qb W).drew,?_⟩;refine Yb ?_;go_wp2_with fail;refine(HL.o _).mono ?_;rintro r w1⟨rfl,rfl⟩;go_wp2_with fail;refine⟨(Zg Qb W).drew,?_⟩;refine Km ?_;go_wp2_with fail;refine(aq.o _ (Zg Qb W).drew).mono ?_;rintro r w1⟨rfl,E,z⟩;have K:=O (d.o.1.lifted (d.o.2.aA (Zg Qb W).drew) E z);clear E z;go_wp2_with fail;refine Ky ?_;go_wp2;go_ret;exact⟨rfl,K.o⟩
end
end
theorem Qz9(d:Nat)(c:Int)(q:Nat)(w)(h:Qxy d c q=0):Cl 9 #[.agg #[ZU d,ZI c,ZU q]] w fun r w'=>∃b,r=.returned (.tuple #[ptr b,ZI 0])∧Qxn w' (Qn Qb w w') b (.new d c q)∧Qc Qb w w':=by
 obtain⟨W0,z⟩:=Zx (w.alloc (.cells #[ZU d,ZI c,ZU q] 24));have C0:Hi (Qc Qb w W0):=O (by rw[z];exact(Zg _ _).alloc _);have U:Hi (Qh W0 w.heap.size #[ZU d,ZI c,ZU q] 24):=O (by rw[z];exact Qh.new _ _ _);have Z:=O z;have hh:(1≤d∧d≤1048576)∧(1≤c∧c<65536)∧1≤q∧q≤1099511627776:=by
  unfold Qxy at h;split at h;·exact absurd h (by decide)
  split at h;·exact absurd h (by decide)
  omega
 obtain⟨⟨r1,r2⟩,⟨m1,m2⟩,p1,p2⟩:=hh;have HL:=O (Qzw d W0 r1 r2);have HS:=O (fun w1=>Qeb c m1 m2 w1);have HK:=O Q0y;have d1:decide ((q:Int)<1)=false:=by simp;omega
 have aa:decide (q<1)=false:=by simp;omega
 have d2:decide ((1099511627776:Int)<(q:Int))=false:=by simp;omega
 have ab:decide (1099511627776<q)=false:=by simp;omega
 clear h r1 r2 m1 m2 p1 p2 z;obtain⟨a0,a1,a2⟩:=L6 (show Qh (w.alloc (.cells #[ZU d,ZI c,ZU q] 24)) w.heap.size #[ZU d,ZI c,ZU q] 24 from Qh.new _ _ _);go_enter func9,ntmps9;go_wp2_with fail;rw[←Z.o];refine Zo HL ?_;rintro r w1⟨lb,rfl,hl,J⟩;have C1:=O (C0.o.aA J);have L1:=O (Zt hl J);obtain⟨b0,b1,b2⟩:=L6 (J.blk U.o (fun h=>h));clear J hl a0 a1 a2;go_wp2_with fail;refine(HS.o _).mono ?_;rintro r w2⟨sb,rfl,hs,K⟩;have C2:=O (C1.o.aA K);have S2:=O (Zt hs K);have I:=O (K.blk (L1.o.2.blk U.o (fun h=>h)) (fun h=>h));obtain⟨b0,b1,b2⟩:=L6 I.o;clear K hs;go_wp2_with fail;refine ZC [100,101,102,203,4,305,306,307] (fun wv=>Qc (Qb) (w2) wv) ?_;simp only[Z8,Zf,Ze,Zd];iterate 1 (refine Qy (by kernel_rfl) (fun wv hv=>by(obtain⟨c0,J,K⟩:=L6 (hv.blk I.o (fun h=>h)));go_simp;try rfl) ?_;try simp only[Act.put,Za,Zc,Zb])
 iterate 2 (refine Qy (h:=?_);try simp only[Act.put,Za,Zc,Zb])
 refine Yb ?_;go_wp2_with fail;refine(HK.o _).mono ?_;rintro r w3⟨kb,rfl,u,c3⟩;have E:=O (Zt u ((Zg Qb w2).drew.aA c3));clear u c3;go_wp2_with fail;refine⟨E.o.2,?_⟩;refine Xe (h:=?_);refine Km ?_;go_wp2_with fail;refine Km ?_;go_wp2_with fail;refine Km ?_;go_wp2_with fail;refine Ky ?_;have V:Hi (∀B,B=w3.alloc (.cells #[ZU d,ZI c,ZU q,ZU 0,ptr sb,ptr lb,ptr kb,.slice none 0 0,.slice none 0 0] 87)→Qxn B (Qn Qb w B) w3.heap.size (.new d c q)∧Qc Qb w B):=O (by
  intro B hz;have R:Qc Qb w3 B:=by rw[hz];exact(Zg _ _).alloc _
  have hB:Qh B w3.heap.size #[ZU d,ZI c,ZU q,ZU 0,ptr sb,ptr lb,ptr kb,.slice none 0 0,.slice none 0 0] 87:=by rw[hz];exact Qh.new _ _ _
  have z0:=U.o.lt;have z1:=L1.o.2.size;have z2:=S2.o.2.size;have z3:=E.o.2.size;have z4:=hB.lt;have hd:w2.drew.heap.size=w2.heap.size:=rfl;have hm:Qyf ⟨sb,lb,kb,.slice none 0 0,.slice none 0 0⟩ B (Qn Qb w B) w3.heap.size (.new d c q):=Qyf.made
   (fun k=>if k<w1.heap.size then 2 else if k<w2.heap.size then 1 else if k<w3.heap.size then 3 else 0) hB (Qt.obj.aB S2.o.1 (E.o.2.aA R) (Jl.none _)) (P3.obj.aB L1.o.1 ((S2.o.2.aA E.o.2).aA R) (Jl.none _)) (Qau.obj.aB E.o.1 R (Jl.none _)) (Qwq.none _) (Qwq.none _)
   (by(try dsimp only);rw[if_neg (by omega),if_neg (by omega),if_neg (by omega)])
   (fun k u=>u.elim (fun h=>h.elim) (fun h=>by(try dsimp only);rw[if_neg (by omega),if_pos (by omega)]))
   (fun k u=>u.elim (fun h=>h.elim) (fun h=>by(try dsimp only);rw[if_pos (by omega)]))
   (fun k u=>u.elim (fun h=>h.elim) (fun h=>by(try dsimp only);rw[if_neg (by omega),if_neg (by omega),if_pos (by omega)]))
   (fun k u=>u.elim) (fun k u=>u.elim) (.inr ⟨by omega,by omega⟩)
   (fun k u=>u.elim (fun h=>h.elim) (fun h=>.inr ⟨by omega,by omega⟩)) (fun k u=>u.elim (fun h=>h.elim) (fun h=>.inr ⟨by omega,by omega⟩)) (fun k u=>u.elim (fun h=>h.elim) (fun h=>.inr ⟨by omega,by omega⟩)) (fun k u=>u.elim) (fun k u=>u.elim)
   (fun k u=>u.elim (fun h=>h.elim) (fun h=>h.2))
  exact⟨⟨_,hm⟩,(C2.o.aA E.o.2).aA R⟩)
 go_wp2;go_ret2;exact⟨_,rfl,V.o _ rfl⟩
section
theorem Qzu(c d k q u z B E:Int)(w):(binOp .eql 46 (.agg #[ZU c,ZU d,ZU k,ZU q,ZU u,ZU z,ZU B,ZU E]) (.agg #[ZU c,ZU d,ZU k,ZU q,ZU u,ZU z,ZU B,ZU E])).run prog w=.ok (.bool true) w:=by go_simp
end
structure GE(W w:World)(G:Fp)(b:Nat)(e:Vi):Prop where
 is:Qxn w G b e
 lo:∀k,G k→W.heap.size≤k
 chg:Qc Qb W w
section
variable{W w w':World}{G:Fp}{b r:Nat}{e e':Vi}{cs:Array Value}{t:TypeId}
theorem GE.step(h:GE W w G b e)(d:Qxn w' (Qn G w w') b e')(q:Qc G w w'):GE W w' (Qn G w w') b e':=
 ⟨d,fun k c=>c.elim (h.lo k) (fun e=>Zp h.chg.size e.1),h.chg.trans q fun k c=>.inr (h.lo k c)⟩
theorem GE.aB(h:GE W w G b e)(c:Qc Qb w w'):GE W w' G b e:=⟨Qxn.obj.aB h.is c (Jl.none _),h.lo,h.chg.aA c⟩
theorem GE.new(h:Qxn w (Qn Qb W w) b e)(c:Qc Qb W w):GE W w (Qn Qb W w) b e:=⟨h,fun k d=>d.elim (fun h=>h.elim) (fun h=>h.1),c⟩
def Qy2(w:World)(G:Fp)(r:Nat)(cs:Array Value)(t:TypeId):Prop:=Qh w r cs t∧¬G r
theorem Qy2.step(h:Qy2 w G r cs t)(c:Qc G w w'):Qy2 w' (Qn G w w') r cs t:=
 ⟨c.blk h.1 h.2,fun d=>d.elim h.2 (fun e=>by have:=h.1.lt;omega)⟩
theorem Qy2.aB(h:Qy2 w G r cs t)(c:Qc Qb w w'):Qy2 w' G r cs t:=⟨c.blk h.1 (fun h=>h),h.2⟩
theorem Q08(o:Option D7):∀v∈(Qzb o).toList,v.oneCell'=true:=by
 cases o with
 |none=>intro v c;simp[Qzb]at c;rcases c with rfl|rfl|rfl|rfl|rfl<;>rfl
 |some x=>intro v c;simp[Qzb]at c;rcases c with rfl|rfl|rfl|rfl|rfl|rfl|rfl|rfl<;>rfl
theorem Q1a(h:GE W w G b e)(o:Option D7):
  ∃w',(storeCells ⟨w.heap.size,0,none⟩ (Qzb o).toList 0).run prog (w.alloc (.cells ZG 51))=.ok () w'∧GE W w' G b e∧Qy2 w' G w.heap.size (Qzb o) 51∧Qc Qb w w':=by
 have d:(Qzb o).size=8:=by cases o<;>rfl
 obtain⟨w',s3,c,q⟩:=Q0 (P:=prog) (vs:=Qzb o) (Qh.new w ZG 51) d (Q08 o);have N3:Qc Qb w w':=((Zg Qb w).alloc _).trans q (fun k e=>.inr (by omega));refine⟨w',s3,h.aB N3,⟨c,fun u=>?_⟩,N3⟩;have:=Qxn.obj.bd h.is _ u;omega
end
section
attribute [local go_sem ↓] Qzu
theorem Qzo(W):ZW 7 #[] W (.bool true) fun w'=>Qc Qb W w':=by
 have u0:UOk ew0:=UOk.new _ _ _;have u1:UOk ew1:=u0.add ewC;have u2:UOk ew2:=u1.adv ew_ok1 5;have u3:UOk ew3:=u2.arr ew_ok2 ewP;have u4:UOk ew4:=u3.arr ew_ok3 ewQ;have u5:UOk ew5:=u4.adv ew_ok4 4;have u6:UOk ew6:=u5.adv ew_ok5 99;have u7:UOk ew7:=u6.adv ew_ok6 200;have UN:Hi (∀w b G,Qxn w G b ew3→ZW 21 #[ZP b] w (.tuple #[.agg (Qzb (some ewX)),.bool true]) fun w'=>Qc Qb w w'):=O (fun w b G h=>by
  obtain⟨A,hA⟩:=h;have:=Q0p hA;rw[Qyt]at this;exact this)
 have SE:Hi (∀w b G,Qxn w G b ew6→Cl 14 #[ZP b] w fun e w'=>∃g cap,e=.returned (.slice (some ⟨g,0,none⟩) 1 cap)∧(∃cs,Qy2 w' G g cs 51∧∀(j:Nat)(u:Value),(Qxe ewX)[j]? =some u→cs[j]? =some u)∧Qc Qb w w'):=O (fun w b G h=>by
  have aj:=Qxn.obj.bd h;obtain⟨A,hA⟩:=h;have:=Q02 hA (by rw[Qyr];decide);rw[Qyr]at this;refine this.mono ?_;rintro r w'⟨v',rfl,h1,c1,h2⟩;obtain⟨g,cap,rfl,ho,cs,hB,hx⟩:=Qxw.one h1;exact⟨g,cap,rfl,⟨cs,⟨hB,fun hk=>by have:=aj _ hk;have:=h2 g ho;omega⟩,hx⟩,c1⟩)
 have SA:Hi (∀w b G,Qxn w G b ew7→ZW 15 #[ZP b,ZI 0] w (.agg #[ZU 1,ZU 1,ZU 1,ZU 10,ZU 0,ZU 10,ZU 0,ZU 0]) fun w'=>Qc Qb w w'):=O (fun w b G h=>by
  obtain⟨A,hA⟩:=h;have:=Q0o hA ew_ok7.book 0;rw[Qyp]at this;exact this)
 obtain⟨N0,ag,_⟩:=ew_ok0.sok;have e7:ew7.adv 100=ew7:=by unfold Vi.adv;rw[if_neg (by rw[Qyo];decide)]
 have U:=O (Zt u1 (Zt u2 (Zt u3 (Zt u4 (Zt u5 (Zt u6 (Zt u7 (Zt e7 ag))))))));clear u0 u1 u2 u3 u4 u5 u6 u7 e7 ag;go_enter func7,ntmps7;go_wp2_with fail;refine(Qz9 256 1500 100 W Qyb).mono ?_;rintro e w1⟨b,rfl,h1,c1⟩;have S1:=O (show GE W _ _ b ew0 from GE.new h1 c1);unfold ptr;clear h1 c1;generalize Qn Qb W w1=G1 at S1;go_wp2_with fail;refine Zz (Q0v 256 1500 0 _ (by rw[Qyq];decide)) ?_;intro w2 c2;rw[Qyq];have S2:=O (S1.o.aB c2);clear c2;go_wp2_with fail;refine Zz (Qz7 S2.o.is U.o.2.2.2.2.2.2.2.2 ewC) ?_;rintro w3⟨h3,c3⟩;rw[Qyh];have S3:=O (show GE W _ _ b ew1 from S2.o.step h3 c3);clear h3 c3;generalize Qn G1 w2 w3=G3 at S3;go_wp2_with fail;refine Zz (Qyz S3.o.is ew_ok1 (by decide) U.o.1 5) ?_;rintro w4⟨h4,c4⟩;rw[Qyi];have S4:=O (show GE W _ _ b ew2 from S3.o.step h4 c4);clear h4 c4;generalize Qn G3 w3 w4=G4 at S4;go_wp2_with fail;refine Zz (Qzl S4.o.is ew_ok2 (by decide) U.o.2.1 ewP) ?_;rintro w5⟨h5,c5⟩;rw[Qyj];have S5:=O (show GE W _ _ b ew3 from S4.o.step h5 c5);clear h5 c5;generalize Qn G4 w4 w5=G5 at S5;go_wp2_with fail;refine Zz (UN.o _ _ _ S5.o.is) ?_;intro w6 c6;obtain⟨W6,s6,g6,a6,n6⟩:=Q1a (S5.o.aB c6) (some ewX);have S6:=O g6;have B6:=O a6;clear c6 g6 a6 n6;go_wp2_with fail;clear s6;refine Zz (Qzl S6.o.is ew_ok3 (by decide) U.o.2.2.1 ewQ) ?_;rintro w7⟨h7,c7⟩;rw[Qyk];have S7:=O (show GE W _ _ b ew4 from S6.o.step h7 c7);have B7:=O (B6.o.step c7);clear h7 c7;generalize Qn G5 W6 w7=G7 at S7 B7;go_wp2_with fail;refine Zz (Qyz S7.o.is ew_ok4 (by decide) U.o.2.2.2.1 4) ?_;rintro w8⟨h8,c8⟩;rw[Qyl];have S8:=O (show GE W _ _ b ew5 from S7.o.step h8 c8);have B8:=O (B7.o.step c8);clear h8 c8;generalize Qn G7 w7 w8=G8 at S8 B8;go_wp2_with fail;refine Zz (Qyz S8.o.is ew_ok5 (by decide) U.o.2.2.2.2.1 99) ?_;rintro w9⟨h9,c9⟩;rw[Qym];have S9:=O (show GE W _ _ b ew6 from S8.o.step h9 c9);have B9:=O (B8.o.step c9);clear h9 c9;generalize Qn G8 w8 w9=G9 at S9 B9;go_wp2_with fail;refine(SE.o _ _ _ S9.o.is).mono ?_;rintro e ak⟨g,cap,rfl,⟨cs,ae,hx⟩,E⟩;have V:=O (S9.o.aB E);have ah:=O (B9.o.aB E);have K:=O (Zt ae hx);clear ae hx E;go_wp2_with fail;refine Zz (Qyz V.o.is ew_ok6 (by decide) U.o.2.2.2.2.2.1 200) ?_;rintro c⟨af,d⟩;rw[Qyn];have z:=O (show GE W _ _ b ew7 from V.o.step af d);have J:=O (ah.o.step d);have R:=O (K.o.1.step d);clear af d;generalize Qn G9 ak c=an at z J R;obtain⟨x0,x1,x2,x3,x4,x5,x6,x7⟩:=Ja (show Qh c w6.heap.size #[ZU 7,ZI 1,ZI 10,ZU 5,.int .u8 2,ZU 5,ZU 15,ZU 0] _ from J.o.1);obtain⟨y0,y1,y2,y3,y4,y5,y6,y7⟩:=(show c.cell? ⟨g,0,none⟩=some (ZU 7)∧c.cell? ⟨g,1,none⟩=some (ZI 1)∧c.cell? ⟨g,2,none⟩=some (ZI 10)∧c.cell? ⟨g,3,none⟩=some (ZU 5)∧c.cell? ⟨g,4,none⟩=some (.int .u8 2)∧c.cell? ⟨g,5,none⟩=some (ZU 5)∧c.cell? ⟨g,6,none⟩=some (ZU 15)∧c.cell? ⟨g,7,none⟩=some (ZU 0)from Q1r R.o.1 K.o.2);go_wp2_with fail;clear x0 x1 x2 x3 x4 x5 x6 x7 y0 y1 y2 y3 y4 y5 y6 y7;obtain⟨al,k⟩:=z.o.is;refine Zz (Qy1 k.blk.1) ?_;intro ao aa;rw[Qys.2];clear k;have B:=O (z.o.aB aa);clear aa;go_wp2_with fail;obtain⟨am,q⟩:=B.o.is;refine Zz (Qzm q.blk.1) ?_;rintro ap rfl;rw[Qys.1];clear q;go_wp2_with fail;refine Zz (Qyz B.o.is ew_ok7 (by decide) U.o.2.2.2.2.2.2.1 100) ?_;rintro aq⟨I,ab⟩;rw[Qyo];rw[U.o.2.2.2.2.2.2.2.1]at I;have Z:=O (B.o.step I ab);clear I ab;go_wp2_with fail;refine Zz (SA.o _ _ _ Z.o.is) ?_;intro ar ac;have ai:=O (Z.o.aB ac).chg;clear ac;go_wp2;go_ret;exact⟨rfl,ai.o⟩
end
def LN(p:Qe):Prop:=∀c∈p,c.limit=none
section
variable{p:Qe}
theorem LN.at(h:LN p){i:Int}{c:Qx}(d:p.at i=some c):c.limit=none:=h c (Qe.aE d).1
theorem LN.set(h:LN p){x:Qx}(k:x.limit=none):LN (p.set x):=fun c d=>by
 rcases mem_set d with rfl|⟨d,_⟩;·exact k
 ·exact h c d
theorem LN.fam(h:LN p)(i:Int)(f:Jc→Jc):LN (p.fam i f):=by
 unfold Qe.fam;split;·exact h
 ·split;·exact h
  ·rename_i q c;exact h.set (show q.limit=none from h.at c)
theorem LN.note(h:LN p)(i:Int):LN (p.note i):=by
 unfold Qe.note;split;·exact h
 ·split;·exact h
  ·rename_i q c;exact h.set (show q.limit=none from h.at c)
theorem LN.up1(h:LN p)(now:Nat)(i:Int):LN (p.up1 now i):=by
 unfold Qe.up1;split;·exact h
 ·rename_i c d;split;·exact h
  ·refine(h.fam i _).set ?_;show c.limit.wake now c.total=none;rw[h.at d];rfl
theorem LN.aV(h:LN p)(g:Nat)(i:Int):LN (p.aV g i):=by
 unfold Qe.aV;split;·exact h
 ·rename_i c d;exact(h.set (x:={c with total:=c.total+min g (Xw-c.total)}) (show c.limit=none from h.at d)).fam i _
theorem LN.aW(h:LN p)(sl:Bool)(i:Int):LN (p.aW sl i):=by
 unfold Qe.aW;split;·exact h
 ·split;·exact(h.fam i _).note i
  ·exact h.note i
theorem LN.fold{c:Qe→Int→Qe}(d:∀p i,LN p→LN (c p i)):∀(l:List Int)(p:Qe),LN p→LN (l.foldl c p)
 |[],_,h=>h
 |i::l,p,h=>LN.fold d l _ (d p i h)
theorem LN.wake(h:LN p)(i:Int)(now:Nat):LN (p.wake i now):=by
 unfold Qe.wake;split;·exact h
 ·split;·exact h
  ·exact LN.fold (fun p i h=>h.note i) _ _ (LN.fold (fun p i h=>h.up1 now i) _ _ h)
theorem LN.sent(h:LN p)(i:Int)(g:Nat)(c:Bool):LN (p.sent i g c):=by
 unfold Qe.sent;split;·exact h
 ·split;·exact h
  ·exact LN.fold (fun p i h=>h.aW _ i) _ _ (LN.fold (fun p i h=>h.aV g i) _ _ h)
theorem LN.put(h:LN p){s:Yk}(u:s.aN.none=true):LN (p.put s):=by
 unfold Qe.put;split;·exact h
 ·rename_i q k;split;·exact h
  ·refine LN.set (fun c d=>?_) (show q.limit=none from h.at k);rcases Zl.1 d with d|d;·exact h c d
   ·obtain rfl:=List.mem_singleton.1 d;show Ha s.aN=none;unfold Ha;rw[u];rfl
theorem LN.drop(h:LN p)(i:Int):LN (p.drop i):=by
 unfold Qe.drop;split;·exact h
 ·split;·exact h
  ·split;·exact h
   ·rename_i q k;exact fun c d=>(h.set (x:={q with mem:=q.mem.drop i,aM:=q.aM-1}) (show q.limit=none from h.at k)) c (List.mem_filter.1 d).1
theorem LN.aK(h:LN p){s:Yk}(k:s.aN.none=true):LN (p.aK s):=by
 unfold Qe.aK;split;·exact h
 ·split;·exact h
  ·intro c d;obtain⟨x,q,rfl⟩:=Z3.1 d;have:=(h.fam s.id fun f=>if s.aJ then(f.drop s.id).add s.id s.share else f.drop s.id) x q;split;·show Ha s.aN=none;unfold Ha;rw[k];rfl
   ·exact this
end
def UpA(p:Qe):Prop:=∀i c,p.at i=some c→p.aL i=true→0<c.par→p.aL c.par=true
def Qxm(p:Qe):Prop:=∀i c,p.at i=some c→0<i→c.aJ=true
section
variable{p p':Qe}{N L:Nat}{dep:Int→Nat}
theorem Qxm.same(h:Qxm p)(z:Jv p p'):Qxm p':=fun i c k u=>by obtain⟨d,q,_,_,e⟩:=z.back k;rw[←e];exact h i d q u
theorem UpA.wake(h:UpA p)(k:Qs dep N p)(hv:Uz p)(ha:Qxm p)(i:Int)(now:Nat):UpA (p.wake i now):=by
 obtain⟨_,_,u⟩:=hv.wake k i now;have hs:=(k.wake i now).2;intro j c hc z E;obtain⟨d,I,Z,_⟩:=hs.back hc;rw[←Z]at E⊢;rcases(u j).1 z with J|⟨J,_,V,B,hi,hl,R⟩;·exact(u _).2 (.inl (h j d I J E))
 ·have h0:0<j:=Classical.byContradiction fun hn=>by rw[Qe.awake_neg (by omega)]at z;cases z
  obtain⟨q,U⟩:=k.par I h0;exact(u _).2 (.inr ⟨Qnk k (Nat.lt_succ_of_le (Quz k B)) J I E,⟨q,U,ha _ q U E⟩,V,B,hi,hl,R⟩)
structure J5(dep:Int→Nat)(N L:Nat)(p1:Qe)(L0:List Int)(i:Int)(sl:Bool)(rest:List Int)(p:Qe):Prop extends J4 dep N L p1 L0 i sl rest p where
 yet:∀j∈rest,p.aL j=p1.aL j
 up:∀x c,p.at x=some c→p.aL x=true→0<c.par→c.par∉rest→p.aL c.par=true
theorem Qxz{p1:Qe}{L0:List Int}{i:Int}{sl:Bool}(hu:UpA p1)(V:∀i c q,p1.at i=some c→0<i→p1.at c.par=some q→q.leaf=false)(hL:∀j∈L0,j≠i→∃c,p1.at j=some c∧c.leaf=false)(aj:∃c,p1.at i=some c∧c.leaf=true)
  (id:Int)(rest:List Int)(p:Qe)(h:J5 dep N L p1 L0 i sl (id::rest) p):J5 dep N L p1 L0 i sl rest (p.aW sl id):=by
 obtain⟨hi,c,q,I,hq,hp⟩:=h.go.head;have E:=h.go.ok;obtain⟨k1,k2⟩:=E.aW sl I hi hq;have ag:id∉rest:=Qa0 E h.go.path;have ho:∀j,j≠id→(p.aW sl id).aL j=p.aL j:=fun j u=>by rw[Og E I hi hq,if_neg (fun e=>u e.1)]
 have ah:∀j,(p.aW sl id).aL j=true→p.aL j=true:=fun j u=>by
  rw[Og E I hi hq]at u;split at u;·cases u
  ·exact u
 refine⟨Qtv V hL aj id rest p h.toJ4,fun j u=>?_,fun x d hd hx B U=>?_⟩;·rw[ho j (fun e=>ag (e▸u))];exact h.yet j (Zr _ u)
 ·obtain⟨J,Eu,e1,_⟩:=k2.back hd;rw[←e1]at B U⊢;have k:=ah x hx;by_cases e:J.par=id
  ·rw[e];obtain⟨d1,R,f1,_⟩:=h.go.same.back Eu;have ae:p1.aL id=true:=by have:=hu x d1 R (h.less x k) (by rw[f1];exact B);rwa[f1,e]at this
   have af:p.aL id=true:=(h.yet id (List.mem_cons_self)).trans ae;have aa:0<x:=by
    by_cases h0:0<x;·exact h0
    ·rw[Qe.awake_neg (by omega)]at k;cases k
   obtain⟨c1,ab,g1,g2,_⟩:=h.go.same.back I;have ai:c.leaf=false:=by rw[←g2];refine V x d1 c1 R aa ?_;rw[f1,e];exact ab
   have ac:=(E.up.2 J (Qe.aE Eu).1 (by rw[(Qe.aE Eu).2];omega)).2.2.1;rw[(Qe.aE Eu).2,e]at ac;have al:x∉id::rest:=fun Z=>by
    rcases Zu.1 Z with rfl|Z;·omega
    ·have:=Mf E h.go.path x Z;omega
   have z:=(h.ent x al id c I (p.v x) J.fit).2 ⟨aa,k,rfl,J,Eu,e,rfl⟩;have ak:c.tree.length≠0:=fun e=>by rw[List.eq_nil_of_length_eq_zero e]at z;cases z
   rw[Og E I hi hq,if_neg (fun e=>by simp[ai,ak]at e)];exact af
  ·rw[ho _ e];exact h.up x J Eu k B (fun Z=>(Zu.1 Z).elim e U)
theorem UpA.sent(h:UpA p)(V:Qs dep N p)(hv:Uz p)(i:Int)(g:Nat)(u:Bool):UpA (p.sent i g u):=by
 cases Z:p.at i with
 |none=>
  have:p.sent i g u=p:=by unfold Qe.sent;rw[Z]
  rw[this];exact h
 |some c=>
  by_cases R:(decide (i<1)||!c.leaf)=true
  ·have:p.sent i g u=p:=by unfold Qe.sent;rw[Z];dsimp only;rw[if_pos (by simpa using R)]
   rw[this];exact h
  ·have hw:p.sent i g u=(p.path 9 i).foldl (Qe.aW (!u&&((p.path 9 i).foldl (Qe.aV g) p).aL i)) ((p.path 9 i).foldl (Qe.aV g) p):=by unfold Qe.sent;rw[Z];dsimp only;rw[if_neg (by simpa using R)]
   have aa:0<i∧c.leaf=true:=by simp only[Bool.or_eq_true,decide_eq_true_eq,Bool.not_eq_true',not_or,Bool.not_eq_false]at R;exact⟨by omega,R.2⟩
   obtain⟨h1,_,h3⟩:=De V Z;have B:=Wp (Qtu (dep:=dep) (N:=N) (p0:=p) (L:=(p.path 9 i).length) (L0:=p.path 9 i) g) (p.path 9 i) p
    ⟨Y9.start V h1,fun j J=>J,fun j _=>Bo.refl _ _,Hm.refl _,fun j=>rfl⟩
   generalize(p.path 9 i).foldl (Qe.aV g) p=p1 at B hw;have ai:∀k d q,p1.at k=some d→0<k→p1.at d.par=some q→q.leaf=false:=fun k d q I hk hq=>by obtain⟨E,z,e1,_⟩:=B.go.same.back I;obtain⟨q',ag,_,U,_⟩:=B.go.same.back hq;rw[←U];exact hv.inn k E q' z hk (by rw[e1];exact ag)
   have hL:∀j∈p.path 9 i,j≠i→∃c,p1.at j=some c∧c.leaf=false:=fun j J af=>by obtain⟨d,I,hl⟩:=Mi V hv.inn J af;obtain⟨E,z,_,U,_⟩:=B.go.same.get I;exact⟨E,z,U.trans hl⟩
   have ae:∃c,p1.at i=some c∧c.leaf=true:=by obtain⟨E,z,_,U,_⟩:=B.go.same.get Z;exact⟨E,z,U.trans aa.2⟩
   have ab:UpA p1:=fun k d I hk hp=>by obtain⟨E,z,e1,_⟩:=B.go.same.back I;rw[B.aw]at hk⊢;rw[←e1]at hp⊢;exact h k E z hk hp
   obtain⟨sl,ah⟩:=Zx ((!u&&p1.aL i));rw[←ah]at hw;have ac:i∈p.path 9 i:=Sv Z aa.1;have g2:=Wp (Qxz (dep:=dep) (N:=N+(p.path 9 i).length) (p1:=p1) (L:=(p.path 9 i).length) (L0:=p.path 9 i) (i:=i) (sl:=sl) ab ai hL ae) (p.path 9 i) p1
    ⟨⟨Y9.start (by simpa using B.go.ok) (Vy.same B.go.same h1),fun j J=>J,fun j J=>(hv.ent j).off (B.off j J),Hm.refl _,fun j h=>h,fun j _=>rfl,fun _ h=>absurd ac h,fun hs j J ha=>by
     rw[B.aw j]at ha;obtain⟨L',d,k1,k2,k3,k4⟩:=hv.low j ha;obtain⟨E,z,_,U,_⟩:=B.go.same.get k1;exact⟨L',E,fun e=>J (by rw[←e];exact k3),z,U.trans k2,by rw[Gv B.go.same];exact k3,by rw[B.aw];exact k4⟩⟩,fun j _=>rfl,fun x d I hx hp _=>ab x d I hx hp⟩
   rw[hw];exact fun x d I hx hp=>g2.up x d I hx hp (by simp)
end
structure Fr(s:Qf):Prop where
 tree:∀i c,s.tree.at i=some c→c.sp.aN.none=true∧c.sp.share.none=false
 lim:LN s.pick
 up:UpA s.pick
section
variable{N:Nat}{s:Qf}
theorem Fr.allS(h:Fr s)(d:Xp N s):Qxm s.pick:=fun i c q z=>by obtain⟨x,k,_,_,e,_⟩:=d.mt.back (by omega) q;rw[e];have u:=(Md (d.tree.may x (d.tree.pos k).2.2.2.2.2)).2.1;unfold Yk.aJ;rw[(h.tree i x k).2];simp[u]
theorem Fr.new(d:Int):Fr (.new d):=⟨fun i c k=>(by cases k),fun c k=>by
 obtain rfl:=List.mem_singleton.1 (show c∈Qe.new from k);rfl,fun i c k ha q=>by
  rw[show(Qf.new d).pick=Qe.new from rfl,Qdu]at ha;cases ha⟩
theorem Fr.add(h:Fr s)(B:Xp N s){c:Yk}(h1:c.aN.none=true)(h2:c.share.none=false):Fr (s.add c):=by
 by_cases u:s.aO c=0
 ·have z:s.tree.aO c=0:=u;have Z:=B.add u;have et:(s.add c).tree=s.tree.add c:=by unfold Qf.add;rw[if_pos u]
  have I:(s.add c).pick=s.pick.put c:=by unfold Qf.add;rw[if_pos u]
  obtain⟨q,V,hl,aa,J,i1,mt,_⟩:=B.mt.add B.tree z;have E:=Z.pick;rw[I]at E;obtain⟨_,aw⟩:=B.pinv.put B.pick i1 J V hl E;refine⟨fun i d k=>?_,by rw[I];exact h.lim.put h1,fun i d k ha hp=>?_⟩
  ·rw[et,Qjv z]at k;split at k;·obtain rfl:=Zs k;exact⟨h1,h2⟩
   ·exact h.tree i d k
  ·rw[I]at k ha⊢;rw[aw]at ha⊢;have U:=Qsc i1 J V hl i;have R:i≠c.id:=fun e=>by rw[e,Qe.awake_none J]at ha;cases ha
   rw[U]at k;by_cases e:i=c.par;·rw[if_pos e]at k;obtain rfl:=Zs k;exact h.up i q (by rw[e];exact V) ha hp
   ·rw[if_neg e,if_neg R]at k;exact h.up i d k ha hp
 ·rw[Qem u];exact h
theorem Fr.change(h:Fr s)(k:Xp N s){c:Yk}(h1:c.aN.none=true)(h2:c.share.none=false):Fr (s.change c):=by
 by_cases E:s.aG c=0
 ·obtain⟨hm,u⟩:=L8 E;have I:=k.asleep hm;have et:(s.change c).tree=s.tree.change c:=by unfold Qf.change;rw[if_pos E]
  have ep:(s.change c).pick=s.pick.aK c:=by unfold Qf.change;rw[if_pos E]
  obtain⟨x,q,hx,i1,hq,mt,_⟩:=k.mt.aK k.tree k.pick u I;obtain⟨_,aw⟩:=k.pinv.aK k.pick i1 hx I hq;have Z:=k.change E;refine⟨fun i d B=>?_,by rw[ep];exact h.lim.aK h1,fun i d B ha hp=>?_⟩
  ·rw[et,Si u]at B;split at B;·obtain⟨y,J,rfl⟩:=Option.map_eq_some_iff.1 B;exact⟨h1,h2⟩
   ·exact h.tree i d B
  ·have hi:i≠0:=fun e=>by rw[e,Qe.awake_neg (by decide)]at ha;cases ha
   obtain⟨y,J,y1,_⟩:=Z.mt.back hi B;rw[et,Si u]at J;have:∃z,s.tree.at i=some z∧z.sp.par=y.sp.par:=by
    split at J;·rename_i e;obtain⟨z,U,rfl⟩:=Option.map_eq_some_iff.1 J;exact⟨z,by rw[e];exact U,rfl⟩
    ·exact⟨y,J,rfl⟩
   obtain⟨z,U,V⟩:=this;obtain⟨d',R,e1,_⟩:=k.mt.fwd k.tree U;rw[ep]at ha⊢;rw[aw]at ha⊢;rw[y1,←V,←e1]at hp⊢;exact h.up i d' R ha hp
 ·rw[Sj E];exact h
theorem Fr.drop(h:Fr s)(c:Xp N s)(i:Int):Fr (s.drop i):=by
 by_cases u:s.aP i=0
 ·obtain⟨hm,z⟩:=Ng u;have B:=c.asleep hm;have V:(s.drop i).tree=s.tree.drop i:=by unfold Qf.drop;rw[if_pos u]
  have U:(s.drop i).pick=s.pick.drop i:=by unfold Qf.drop;rw[if_pos u]
  obtain⟨x,q,hx,i1,hu,hq,aa,hk,mt,dd⟩:=c.mt.drop c.tree c.pick z B;obtain⟨_,aw⟩:=c.pinv.drop c.pick i1 hx hu B hq hk;have E:=We z;have R:=c.drop u;refine⟨fun j d k=>?_,by rw[U];exact h.lim.drop i,fun j d k ha Z=>?_⟩
  ·rw[V,E]at k;split at k;·cases k
   ·exact h.tree j d k
  ·have hj:j≠0:=fun e=>by rw[e,Qe.awake_neg (by decide)]at ha;cases ha
   obtain⟨y,I,y1,_⟩:=R.mt.back hj k;rw[V,E]at I;split at I;·cases I
   ·obtain⟨d',J,e1,_⟩:=c.mt.fwd c.tree I;rw[U]at ha⊢;rw[aw]at ha⊢;rw[y1,←e1]at Z⊢;exact h.up j d' J ha Z
 ·rw[I0 u];exact h
theorem Fr.push(h:Fr s)(q:Xp N s){p:Jr}(now:Nat):Fr (s.push p now):=by
 by_cases k:s.aQ p=0
 ·obtain⟨c,l,J,B,_,I,_⟩:=Mk k;have z:=Qpn (s:=s) p now;have u:(s.push p now).pick=s.pick∨(s.push p now).pick=s.pick.wake p.cls now:=by
   rw[Ct k I];split;·exact .inl rfl
   ·rw[Rm];exact .inr rfl
  refine⟨fun i d E=>h.tree i d (by rw[←z];exact E),?_,?_⟩
  ·rcases u with e|e;·rw[e];exact h.lim
   ·rw[e];exact h.lim.wake _ _
  ·rcases u with e|e;·rw[e];exact h.up
   ·rw[e];exact h.up.wake q.pick q.pinv (h.allS q) _ _
 ·rw[Qnm k];exact h
theorem Fr.take(h:Fr s)(u:Xp N s)(id:Int)(rule:Nat):Fr (s.take id rule):=by
 cases q:s.leaf id with
 |none=>
  have:s.take id rule=s:=by unfold Qf.take;rw[q]
  rw[this];exact h
 |some l=>
  have z:=Qqk (s:=s) id rule;have k:∃g c,(s.take id rule).pick=s.pick.sent id g c:=by rw[Fd q,Rm];exact⟨_,_,rfl⟩
  obtain⟨g,c,k⟩:=k;exact⟨fun i d B=>h.tree i d (by rw[←z];exact B),by rw[k];exact h.lim.sent _ _ _,by rw[k];exact h.up.sent u.pick u.pinv _ _ _⟩
theorem Fr.next(h:Fr s)(c:Xp N s)(t:Nat):Fr (s.next t).2:=by
 unfold Qf.next;split;·exact h
 ·exact h.take c _ _
theorem Fr.fit0(h:Fr s)(V:Xp N s):∀(n:Nat)(i:Int)(c:Qx),8-Xk s.tree i<n→s.pick.at i=some c→0<i→s.pick.aL i=true→c.fit=0
 |0,_,_,hn,_,_,_=>absurd hn (Nat.not_lt_zero _)
 |n+1,i,c,hn,hc,hi,ha=>by
  have U:=h.lim.at hc;unfold Qx.fit;rw[U];show(if c.leaf=true then 0 else _)=0;split;·rfl
  ·rename_i ae;have I:∀e∈c.tree,e.2.2=0:=fun⟨a,k,b⟩he=>by obtain⟨k0,ka,_,d,Z,hp,hb⟩:=(V.pinv.ent k i c hc a b).1 he;have ac:=(V.pick.up.2 d (Qe.aE Z).1 (by rw[(Qe.aE Z).2];omega)).2.2;rw[(Qe.aE Z).2,hp]at ac;show b=0;rw[hb];exact Fr.fit0 h V n k d (by omega) Z k0 ka
   have E:c.tree≠[]:=by
    obtain⟨L,d,h1,h2,h3,h4⟩:=V.pinv.low i ha;have ab:i≠L:=fun e=>by rw[e,h1]at hc;obtain rfl:=Zs hc;exact ae h2
    obtain⟨k,u,k1,k2,k3,k4⟩:∃k u,s.pick.at k=some u∧0<k∧u.par=i∧s.pick.aL k=true:=by
     have aa:∀(m:Nat)(x:Int)(y:Qx),s.pick.at x=some y→s.pick.aL x=true→i∈s.pick.path m x→i≠x→∃k u,s.pick.at k=some u∧0<k∧u.par=i∧s.pick.aL k=true:=by
      intro m;induction m with
      |zero=>intro x y _ _ q _;rw[Qe.path]at q;cases q
      |succ m ih=>
       intro x y hy J q E;obtain⟨m',c',e0,x0,R,q⟩:=Qd5 q;rw[hy]at R;obtain rfl:=Zs R;obtain rfl:m=m':=by omega
       rcases q with q|q;·exact absurd q E
       ·by_cases e:i=y.par;·exact⟨x,y,hy,x0,e.symm,J⟩
        ·obtain⟨_,z,_,p0,hz,_⟩:=Qd5 q;exact ih y.par z hz (h.up x y hy J p0) q e
     exact aa 9 L d h1 h4 h3 ab
    intro e;have:=(V.pinv.ent k i c hc (s.pick.v k) u.fit).2 ⟨k2,k4,rfl,u,k1,k3,rfl⟩;rw[e]at this;cases this
   cases B:low c.tree with
   |none=>
    have:=Qw5 (l:=c.tree);rw[B]at this;cases ht:c.tree with
    |nil=>exact absurd ht E
    |cons a l=>rw[ht]at this;cases this
   |some x=> obtain⟨a,q⟩:=Sq B;have:=I _ q;dsimp only at this⊢;show max 0 x.1=0;omega
theorem Fr.some(h:Fr s)(q:Xp N s){t:Nat}(ht:t<Qq)(hm:0<s.many 0):∃x,s.who t=Option.some x:=by
 cases hw:s.who t with
 |some x=>exact⟨x,rfl⟩
 |none=>
  exfalso;have ab:∃i∈s.tree.aI 0,0<((s.qOf i).length:Int):=by
   refine Classical.byContradiction fun hn=>?_;have:s.many 0=0:=by
    unfold Qf.many;have:∀l:List Int,(∀x∈l,(s.qOf x).length=0)→(l.map fun x=>((s.qOf x).length:Int)).sum=0:=by
     intro l;induction l with
     |nil=>intro _;rfl
     |cons a l ih=> intro B;rw[List.map_cons,List.sum_cons,ih (fun x d=>B x (Zr _ d)),B a (List.mem_cons_self ..)];rfl
    refine this _ fun x d=>?_;refine Classical.byContradiction fun h0=>hn ⟨x,d,by omega⟩
   omega
  obtain⟨i,hi,hq⟩:=ab;obtain⟨l,B⟩:=(G8 q).1 hi;rw[Ov B]at hq;have I:l.q≠[]:=fun e=>by rw[e]at hq;simp at hq
  obtain⟨_,R⟩:=Qqr q ht hw (q.waits_mem.2 ⟨l,B,I⟩);obtain⟨c,hc,ac⟩:=q.leaf_at B;have J:s.shareNone i=false:=by unfold Qf.shareNone;rw[hc];exact(h.tree i c hc).2
  rcases R with R|⟨x,d,u⟩;·rw[J]at R;cases R
  ·have Z:s.pick.aL i=true:=by rw[q.awake_leaf B I,J];rfl
   rw[←q.mt.path q.tree]at d;have V:∀(m:Nat)(y:Int),s.pick.aL y=true→x∈s.pick.path m y→s.pick.aL x=true:=by
    intro m;induction m with
    |zero=>intro y _ d;rw[Qe.path]at d;cases d
    |succ m ih=>
     intro y U d;obtain⟨m',c',e0,y0,aa,d⟩:=Qd5 d;obtain rfl:m=m':=by omega
     rcases d with d|d;·rw[d];exact U
     ·obtain⟨_,z,_,p0,hz,_⟩:=Qd5 d;exact ih c'.par (h.up y c' aa U p0) d
   have k:=V 9 i Z d;obtain⟨_,cx,_,x0,E,_⟩:∃(m:Nat)(c:Qx),True∧0<x∧s.pick.at x=Option.some c∧True:=by
    by_cases h0:0<x
    ·cases U:s.pick.at x with
     |none=>rw[Qe.awake_none U]at k;cases k
     |some y=>exact⟨0,y,trivial,h0,rfl,trivial⟩
    ·rw[Qe.awake_neg (by omega)]at k;cases k
   have hf:=h.fit0 q 9 x cx (by omega) E x0 k;unfold Qf.fit Qe.fitAt at u;rw[if_pos k,E]at u;have:cx.fit=0:=hf;simp[this]at u
end
section
variable{K:Nat}{e:Vi}
theorem Fr.step(h:Fr e.sched)(z:V4 K e)(til:Nat):Fr (e.step til).2.sched:=by
 obtain⟨N,k,_⟩:=z.sok;have d:∀c:Vi,c.sched=e.sched→Fr c.choose.2.sched:=fun c q=>by
  have:=h.next k c.now;unfold Vi.choose;rw[q];cases u:e.sched.next c.now with
  |mk a b=> rw[u]at this;cases a<;>exact this
 unfold Vi.step;split;·exact h
 ·split;·split<;>exact h
  ·split;·exact h
   ·exact d _ rfl
theorem Fr.all(c:Nat):∀(n:Nat){e:Vi},Fr e.sched→V4 K e→Fr (Vi.all c n e).sched
 |0,_,h,_=>h
 |n+1,e,h,ok=>by
  rw[Vi.all];split;·exact h.step ok c
  ·exact Fr.all c n (h.step ok c) (ok.step c).1
theorem Fr.does(h:Fr e.sched)(d:V4 K e)(k:Nat){s:Yk}(p:Jr)(c:Nat)(u:s.aN.none=true)(z:s.share.none=false):Fr (e.does k s p c).sched:=by
 obtain⟨N,q,_⟩:=d.sok;unfold Vi.does;split
 ·unfold Vi.add;split;·exact h
  ·exact h.add q u z
 split
 ·unfold Vi.change;split;·exact h
  ·exact h.change q u z
 split
 ·unfold Vi.drop;split;·exact h
  ·split;·exact h.drop q _
   ·exact h
 split
 ·rw[Qwb];split;·exact h
  ·have B:Fr (e.run e.now).sched:=Fr.all _ _ h d;have E:=d.run e.now;obtain⟨M,J,_⟩:=E.sok;split;·rename_i I;exact Fr.all _ _ (show Fr (Vi.came (e.run e.now) (e.arrP p)).sched from B.push J _) (E.came I)
   ·exact B
 split
 ·unfold Vi.adv;split;·exact Fr.all _ _ h d
  ·exact h
 ·exact h.step d _
theorem Qw2(R:V4 K e){k:Nat}(s:Yk)(p:Jr)(c:Nat)(u:k%7=3∨k%7=4)(d:(e.does k s p c).stopped=false)(B:(e.does k s p c).aM=none):(e.does k s p c).sched.who (e.does k s p c).now=none:=by
 have z:e.stopped=false:=by
  cases Z:e.stopped with
  |false=>rfl
  |true=>
   exfalso;have:e.does k s p c=e:=by
    unfold Vi.does;rcases u with u|u;·rw[if_neg (by omega),if_neg (by omega),if_neg (by omega),if_pos u,Qwb,if_pos Z]
    ·rw[if_neg (by omega),if_neg (by omega),if_neg (by omega),if_neg (by omega),if_pos u];unfold Vi.adv Vi.advE;rw[if_pos Z,if_neg (by decide)]
   rw[this,Z]at d;cases d
 have q:∀{E:Vi}{M t:Nat},V4 M E→E.stopped=false→E.now≤t→(E.run t).stopped=false→(E.run t).aM=none→(E.run t).sched.who (E.run t).now=none:=fun aa h1 h2 h3 h4=>by
  rcases Qxk aa h2 h1 with V|V;·rw[h3]at V;cases V
  ·exact V h4
 rcases u with u|u
 ·have ha:e.does k s p c=e.arr p:=by unfold Vi.does;rw[if_neg (by omega),if_neg (by omega),if_neg (by omega),if_pos u]
  rw[ha]at d B⊢;rw[Qwb,if_neg (by rw[z];decide)]at d B⊢;have k3:=R.run e.now;split
  ·rename_i U;rw[if_pos U]at d B;refine q (k3.came U) ?_ (Zv _) d B;cases I:((e.run e.now).came (e.arrP p)).stopped with
   |false=>rfl
   |true=>rw[show((e.run e.now).came (e.arrP p)).run (e.run e.now).now=(e.run e.now).came (e.arrP p)from by rw[G9 (by rw[V3 I]),V3 I],I]at d;cases d
  ·rename_i U;rw[if_neg U]at d B;exact q R z (Zv _) d B
 ·have ha:e.does k s p c=e.adv (P4 e.now c):=by unfold Vi.does;rw[if_neg (by omega),if_neg (by omega),if_neg (by omega),if_neg (by omega),if_pos u]
  have hl:e.now≤P4 e.now c:=by unfold P4;have:=R.now;have:=R.hor.2;omega
  rw[ha]at d B⊢;have J:e.adv (P4 e.now c)=e.run (P4 e.now c):=by unfold Vi.adv Vi.advE;simp only[z,Bool.false_eq_true,if_false];rw[if_neg (show¬P4 e.now c<e.now by omega),if_pos rfl]
  rw[J]at d B⊢;exact q R z hl d B
end
theorem Qz1:prog.eqGuardType prog.depth 27=false:=by kernel_rfl
theorem Q0t:prog.stoodInHeld 27=false:=by kernel_rfl
section
attribute [local go_sem] Qz1 Q0t
theorem Qz3(c:Jy)(w):(binOp .eql 27 (.agg #[ZU c.f,ZU c.l,ZU c.r]) (.agg #[ZU 0,ZU 0,ZU 0])).run prog w=.ok (.bool c.none) w:=by
 obtain⟨f,l,r⟩:=c;unfold Jy.none;go_simp;by_cases d:f=0;case neg=>simp[d]
 by_cases k:l=0;case neg=>simp[d,k]
 by_cases q:r=0;case neg=>simp[d,k,q]
 simp[d,k,q]
end
def Qzx(s:Yk):Yk:={s with aN:=⟨0,0,0⟩,share:=if s.share.none then⟨s.share.f,s.share.l,9⟩else s.share}
def Qzh(c:Bool)(a:Yy):Yy:=if c then{a with s:=Qzx a.s}else a
theorem Q1g(s:Yk):(Qzx s).aN.none=true∧(Qzx s).share.none=false:=by
 refine⟨rfl,?_⟩;unfold Qzx;dsimp only;split;·unfold Jy.none;simp
 ·rename_i h;simpa using h
theorem Qy6(c:Bool)(a:Yy):(Qzh c a).kind=a.kind∧(Qzh c a).p=a.p∧(Qzh c a).after=a.after:=by unfold Qzh;split<;>exact⟨rfl,rfl,rfl⟩
abbrev Q1o:Array Value:=#[.int .u8 0,ZI 0,ZI 0,.bool false,ZU 0,ZU 0,ZU 0,ZU 0,ZU 0,ZU 0,ZU 0,ZU 0,ZU 0,ZI 0,ZI 0,ZU 0,ZI 0,ZI 0,ZU 0,ZU 0]
theorem Q0w(a:Yy):∀v∈a.cells,v.oneCell'=true:=by intro v c;simp only[Yy.cells,Zu,List.not_mem_nil,or_false]at c;rcases c with rfl|rfl|rfl|rfl|rfl|rfl|rfl|rfl|rfl|rfl|rfl|rfl|rfl|rfl|rfl|rfl|rfl|rfl|rfl|rfl<;>rfl
theorem Qze(o:Option ChM):(Bq o).size=6∧∀v∈(Bq o).toList,v.oneCell'=true:=by cases o<;>exact⟨rfl,Iy _ _ _⟩
section
attribute [local go_sem ↓] Qz3
theorem Q0e(z:Nat)(q:Int)(B:Nat)(bv:z<18446744073709551616)(bt:B<18446744073709551616)(l:List Yy)(U:Bool)(a:Option Addr)(cap:Nat)(W)(hl:l.length≤maxLen)(hr:Kb Yy.cells 20 W a l)(hw:∀x∈l,x.wf):
  ZW 5 #[.agg (Q1k z q B),.slice a l.length cap,.bool U] W (.bool true) fun w'=>Qc Qb W w':=by
 obtain⟨W0,al⟩:=Zx (W.alloc (.cells (Q1k z q B) 24));have C0:Hi (Qc Qb W W0):=O (by rw[al];exact(Zg _ _).alloc _);have b1:Hi (Qh W0 W.heap.size (Q1k z q B) 24):=O (by rw[al];exact Qh.new _ _ _);have bk:=O al;have AW:=O (Qzo W0);have LG:=O (fun w=>Q0d l.length a cap w);have cd:=O (fun w(h:Qxy z q B≠0)=>Q0v z q B w h);have cc:=O (fun w(h:Qxy z q B=0)=>Qz9 z q B w h);clear al;by_cases J:200<l.length;·rw[decide_eq_true J]at LG;clear hr hw hl J bv bt;go_enter func5,ntmps5;go_wp2_with fail;rw[←bk.o];refine Zy AW ?_;intro w1 c1;have C1:=O (C0.o.aA c1);clear c1;go_wp2_with fail;refine Zz (LG.o w1) ?_;rintro w2 rfl;go_wp2;go_ret;exact⟨rfl,C1.o⟩
 ·rw[decide_eq_false J]at LG;have HR:=O hr;have b9:=O hw;have af:=O J;clear hr hw hl J bv bt;go_enter func5,ntmps5;go_wp2_with fail;rw[←bk.o];refine Zy AW ?_;intro V c1;have CV:=O (C0.o.aA c1);have b2:=O (c1.blk b1.o (fun h=>h));clear c1;go_wp2_with fail;refine Zz (LG.o V) ?_;rintro w2 rfl;obtain⟨d0,d1,d2⟩:=L6 b2.o;go_wp2_with fail;by_cases hE:Qxy z q B=0
  ·refine(cc.o _ hE).mono ?_;rintro r w3⟨b,rfl,h3,c3⟩;have S3:=O (GE.new h3 c3);have cf:=O (V4.new hE);have b4:Hi (U=true→Fr (Vi.new z q B).sched):=O (fun _=>Fr.new q);clear h3 c3 hE d0 d1 d2;generalize Qn Qb V w3=G3 at S3;go_wp2_with fail;go_loopw [9,10,11,12] (fun t9 _ _ _ wr=>∃(k:Nat)(e:Vi)(G:Fp),t9=ZI k∧k≤l.length∧GE V wr G b e∧V4 (33*k) e∧UOk e∧(U=true→Fr e.sched)) (fun t9 _ _ _ _=>l.length-(intOf t9).toNat);case atStart=>exact⟨0,_,_,rfl,Nat.zero_le _,S3.o,cf.o,UOk.new _ _ _,b4.o⟩
   case round=>
    obtain⟨k,e,G,rfl,hk,hG,bu,hu,br⟩:=hrel;have S4:=O hG;have I:=O (Zt bu (Zt hu br));clear hG bu hu br;by_cases ai:k<l.length
    ·obtain⟨hd,bq⟩:=ZT (show k<l.length by omega);obtain⟨g,o,rfl,hj⟩:=HR.o k ai;have a3:=b9.o _ (List.getElem_mem ai);generalize l[k]=d at hj a3;have HL:Hi (wr.rangeAt g (o+k*20) d.cells):=O (fun j u hu=>(CV.o.aA S4.o.chg).same (hj j u hu));obtain⟨V0,ci⟩:=Zx wr;obtain⟨W6,s6,bm,c6⟩:=Q0 (P:=prog) (vs:=d.cells.toArray) (Qh.new wr Q1o 33) rfl (by simpa using Q0w d);have C6:Hi (Qc Qb wr W6):=O (((Zg Qb wr).alloc _).trans c6 fun k e=>.inr (by omega));have B6:=O bm;have ew:IntKind.i64.wrap ((k:Int)+1)=(k:Int)+1:=by rw[IntWalk.i64_in _ (by have:=af.o;omega)]
     have i0:(0:Int)≤(k:Int):=by omega
     have i1:(k:Int)<(l.length:Int):=by omega
     have WF:=O a3;have hz:(d.cells.toArray).size=20:=rfl;obtain⟨ac,ay⟩:=Zx (d.cells.toArray);rw[←ay]at s6 hz;have b5:=O ay;have aa:=O ai;clear hj bm c6 ay a3 ci ai;go_upto_if 34 with(with_reducible refine wpList_load_mid rfl 33 (.tmp 32) rfl g (o+k*20) rfl d.cells _ HL.o underlying33 rfl (by kernel_rfl) ?_;rw[←b5.o]);clear s6;go_cut [] (fun wz=>Qh wz wr.heap.size (Qzh U d).cells.toArray 33∧Qc (fun k=>k=wr.heap.size) W6 wz)
     case first=>
      cases U with
      |false=> go_wp2_with fail;go_meet;exact⟨B6.o,Zg _ _⟩
      |true=>
       obtain⟨x0,x1,x2,x3,x4,x5,x6,x7,x8,x9,a4,a5,a6,a7,a8,a9,ba,bb,bc,bd⟩:=Yy.at20 B6.o;have xf:=B6.o.frozen;obtain⟨W7,am⟩:=Zx (((W6.setCell ⟨wr.heap.size,10,none⟩ (ZU 0)).setCell ⟨wr.heap.size,11,none⟩ (ZU 0)).setCell ⟨wr.heap.size,12,none⟩ (ZU 0));have B7:Hi (Qh W7 wr.heap.size (Yy.cells {d with s:={d.s with aN:=⟨0,0,0⟩}}).toArray 33):=O (by rw[am];exact((B6.o.set' 10 _ rfl).set' 11 _ rfl).set' 12 _ rfl);have C7:Hi (Qc (fun k=>k=wr.heap.size) W6 W7):=O (by rw[am];exact(((Zg (fun k=>k=wr.heap.size) W6).setCell (a:=⟨wr.heap.size,10,none⟩) _ (.inl rfl)).setCell (a:=⟨wr.heap.size,11,none⟩) _ (.inl rfl)).setCell (a:=⟨wr.heap.size,12,none⟩) _ (.inl rfl));have b7:=O am;clear x0 x1 x2 x3 x4 x5 x6 x7 x8 x9 a7 a8 a9 ba bb bc bd am;go_upto_region 14 with fail;rw[←b7.o];clear a4 a5 a6 xf;obtain⟨x0,x1,x2,x3,x4,x5,x6,x7,x8,x9,a4,a5,a6,a7,a8,a9,ba,bb,bc,bd⟩:=Yy.at20 B7.o;dsimp only at x7 x8 x9;have xf:=B7.o.frozen;clear x0 x1 x2 x3 x4 x5 x6 a4 a5 a6 a7 a8 a9 ba bb bc bd;cases hn:d.s.share.none with
       |true=> have EV:Hi (Qzh true d={d with s:={d.s with aN:=⟨0,0,0⟩,share:=⟨d.s.share.f,d.s.share.l,9⟩}}):=O (by simp[Qzh,Qzx,hn]);obtain⟨W8,ax⟩:=Zx (W7.setCell ⟨wr.heap.size,9,none⟩ (ZU 9));have K8:Hi (Qh W8 wr.heap.size (Qzh true d).cells.toArray 33∧Qc (fun k=>k=wr.heap.size) W6 W8):=O (by rw[ax,EV.o];exact⟨B7.o.set' 9 _ rfl,C7.o.setCell (a:=⟨wr.heap.size,9,none⟩) _ (.inl rfl)⟩);have b8:=O ax;clear ax;go_wp2_with fail;rw[←b8.o];go_meet;exact K8.o
       |false=> have EV:Hi (Qzh true d={d with s:={d.s with aN:=⟨0,0,0⟩}}):=O (by simp[Qzh,Qzx,hn]);have K8:Hi (Qh W7 wr.heap.size (Qzh true d).cells.toArray 33∧Qc (fun k=>k=wr.heap.size) W6 W7):=O (by rw[EV.o];exact⟨B7.o,C7.o⟩);go_wp2_with fail;go_meet;exact K8.o
     case rest=>
      obtain⟨aw,a0⟩:=hcut;obtain⟨V7,bo⟩:=Zx wc;rw[←bo]at aw a0⊢;have NG:Hi (¬G wr.heap.size):=O (fun hk=>by have:=Qxn.obj.bd S4.o.is _ hk;omega);have C7:Hi (Qc Qb wr V7):=O (C6.o.trans a0 fun k e=>.inr (by omega));have S7:=O (S4.o.aB C7.o);have B7:=O aw;obtain⟨av,az⟩:=Zx (Qzh U d);have AV:Hi (av.wf∧av.kind=d.kind∧(U=true→av.s.aN.none=true∧av.s.share.none=false)):=O (by
       rw[az];refine⟨⟨by rw[(Qy6 U d).1];exact WF.o.1,by rw[(Qy6 U d).1];exact WF.o.2.1,by rw[(Qy6 U d).2.2];exact WF.o.2.2⟩,(Qy6 U d).1,fun h=>?_⟩;rw[h];exact Q1g d.s)
      rw[←az]at B7;have b6:Hi (V7.rangeAt wr.heap.size 0 av.cells):=O (fun j u hu=>by rw[Nat.zero_add];exact B7.o.at j (by simpa using hu));obtain⟨E,an⟩:∃E,E=e.does av.kind.toNat av.s av.p av.after:=⟨_,rfl⟩;have HD:=O (Q0c S7.o.is I.o.1 (by have:=af.o;have:=aa.o;omega) I.o.2.1 av AV.o.1);have ab:Hi (V4 (33*(k+1)) E∧UOk E∧(U=true→Fr E.sched)):=O (by
       rw[an,show 33*(k+1)=33*k+33 from by omega];exact⟨I.o.1.does _ _ _ _,I.o.2.1.does I.o.1 _ _ _ _,fun h=>(I.o.2.2 h).does I.o.1 _ _ _ (AV.o.2.2 h).1 (AV.o.2.2 h).2⟩)
      have cb:Hi (d.kind%7=3∨d.kind%7=4→E.stopped=false→E.aM=none→E.sched.who E.now=none):=O (fun hk hs hu=>by
       have h0:=AV.o.1.1;rw[an]at hs hu⊢;rw[←AV.o.2.1]at hk;exact Qw2 I.o.1 _ _ _ (by omega) hs hu)
      rw[←an]at HD;clear aw a0 bo az an hd bq;go_wp2_with (with_reducible refine wpList_load_mid rfl 33 (.tmp 10) rfl wr.heap.size 0 rfl av.cells _ b6.o underlying33 rfl (by kernel_rfl) ?_);refine Zo HD ?_;rintro r w8⟨rfl,h8,c8⟩;have S8:=O (S7.o.step h8 c8);have B8:=O (c8.blk B7.o NG.o);clear h8 c8;generalize Qn G V7 w8=G8 at S8;have y0:w8.cell? ⟨wr.heap.size,0,none⟩=some (.int .u8 d.kind):=by rw[←AV.o.2.1];exact B8.o.at 0 rfl
      obtain⟨N,hN⟩:∃N,Xp N E.sched∧N<549755813000:=by obtain⟨N,h1,h2⟩:=ab.o.1.sok;exact⟨N,h1,by have:=af.o;have:=aa.o;omega⟩
      obtain⟨K,ah⟩:=Zx ((!E.aM.isSome&&decide (0<E.sched.many 0)));have bf:Hi (ZW 24 #[ZP b] w8 (.bool K) fun w'=>Qc Qb w8 w'):=O (by
       obtain⟨A,hA⟩:=S8.o.is;rw[ah];exact Q0m hA hN.1)
      have ca:Hi (K=true→E.aM=none∧0<E.sched.many 0):=O (fun h=>by
       rw[ah]at h;simp only[Zw,Bool.not_eq_true',Option.isSome_eq_false_iff,Option.isNone_iff_eq_none,decide_eq_true_eq]at h;exact h)
      have k0:=WF.o.1;have km:d.kind.tmod 7=d.kind%7:=Int.tmod_eq_emod_of_nonneg k0;obtain⟨R,aq⟩:∃R:Bool,R=decide (d.kind%7=3∨d.kind%7=4):=⟨_,rfl⟩;have ak:=O aq;have ae:=O hN;clear ah aq hN k0;go_upto_region 17 with fail;go_cut [63] (fun co wz=>co=.bool (!(R&&K))∧Qc Qb w8 wz)
      case first=>
       by_cases h3:d.kind%7=3
       ·rw[h3]at km;have HK:Hi (R=true):=O (by rw[ak.o,h3];rfl);clear h3;go_wp2_with fail;refine Zo bf ?_;rintro r w9⟨rfl,c9⟩;have C9:=O c9;clear c9;cases K;all_goals
         go_wp2_with fail;go_meet;exact⟨by rw[HK.o]<;>rfl,C9.o⟩
       ·by_cases h4:d.kind%7=4
        ·rw[h4]at km;have HK:Hi (R=true):=O (by rw[ak.o,h4];rfl);clear h3 h4;go_wp2_with fail;refine Zo bf ?_;rintro r w9⟨rfl,c9⟩;have C9:=O c9;clear c9;cases K;all_goals
          go_wp2_with fail;go_meet;exact⟨by rw[HK.o]<;>rfl,C9.o⟩
        ·have t1:(d.kind.tmod 7 != 3)=true:=by rw[km];simpa using h3
         have t2:(d.kind.tmod 7==3)=false:=by rw[km];simpa using h3
         have t3:decide (d.kind.tmod 7=3)=false:=by rw[km];simpa using h3
         have t4:(d.kind.tmod 7 != 4)=true:=by rw[km];simpa using h4
         have t5:(d.kind.tmod 7==4)=false:=by rw[km];simpa using h4
         have t6:decide (d.kind.tmod 7=4)=false:=by rw[km];simpa using h4
         have HK:Hi (R=false):=O (by rw[ak.o];simp[h3,h4]);have C8:=O (Zg Qb w8);clear h3 h4 km;go_wp2_with fail;go_meet;exact⟨by rw[HK.o]<;>rfl,C8.o⟩
      case rest=>
       obtain⟨rfl,a1⟩:=hcut;obtain⟨w9,bw⟩:=Zx wc;rw[←bw]at a1⊢;have S9:=O (S8.o.aB a1);have KI:Hi ((R&&K)=true→(d.kind%7=3∨d.kind%7=4)∧K=true):=O (fun h=>by
        simp only[Zw]at h;rw[ak.o]at h;exact⟨of_decide_eq_true h.1,h.2⟩)
       obtain⟨go,bs⟩:=Zx ((R&&K));rw[←bs]at KI⊢;clear a1 bw bs y0 km;cases go with
       |false=>
        go_wp2;go_roundw;case measure=>have:=aa.o;simp only[intOf];omega
        case rel=>exact⟨k+1,E,G8,by rw[←Int.natCast_one,←Int.natCast_add],aa.o,S9.o,ab.o⟩
       |true=>
        obtain⟨oc,a2⟩:=Zx ((E.sched.next E.now).1);have ao:Hi (E.stopped=true∨(oc.isSome=false∧U=false)):=O (by
         cases hs:E.stopped with
         |true=>exact .inl rfl
         |false=>
          obtain⟨h1,h2⟩:=KI.o rfl;obtain⟨h3,h4⟩:=ca.o h2;have ar:=cb.o h1 hs h3;refine .inr ⟨by rw[a2,Qw7 ar];rfl,?_⟩;cases hf:U with
          |false=>rfl
          |true=>
           have hb:=ab.o.1.now;have cj:=ab.o.1.hor.2;obtain⟨x,hx⟩:=(ab.o.2.2 hf).some ae.o.1 (t:=E.now) (Nat.lt_of_le_of_lt (Zp hb cj) (by decide)) h4;rw[ar]at hx;cases hx)
        have bh:Hi (∀w',Qc Qb w9 w'→Cl 16 #[ZP b] w' fun r Z=>∃p,r=.returned (ZP p)∧Qt Z (Qn Qb w' Z) p E.sched∧Qc Qb w' Z):=O (fun w' c=>by
         obtain⟨A,hA⟩:=(S9.o.aB c).is;exact Q0n hA ae.o.1 ae.o.2)
        have bg:Hi (∀w',Qc Qb w9 w'→ZW 13 #[ZP b] w' (ZU E.now) fun Z=>w'=Z):=O (fun w' c=>by
         obtain⟨A,hA⟩:=(S9.o.aB c).is;exact Qzm hA.blk.1)
        have aj:Hi (∀w',Qc Qb w9 w'→ZW 10 #[ZP b] w' (.bool E.stopped) fun Z=>Qc Qb w' Z):=O (fun w' c=>by
         obtain⟨A,hA⟩:=(S9.o.aB c).is;exact Qy1 hA.blk.1)
        have ce:Hi (∀wa wb wc p,Qt wb (Qn Qb wa wb) p E.sched→Qc Qb wa wb→Qc Qb wb wc→ZW 25 #[ZP p,ZU E.now] wc (.tuple #[.agg (Bq oc),.bool oc.isSome]) fun w'=>Qc Qb wa w'∧Qc (Qn Qb wa wb) wc w'):=O (fun wa wb wc p h c1 c2=>by
         rw[a2];refine(Pg (Qt.obj.aB h c2 (Jl.none _)) ae.o.1 ae.o.2 E.now).mono ?_;rintro r w'⟨rfl,_,c3⟩;exact⟨rfl,(c1.aA c2).trans c3 (fun k hk=>.inr ((Qr k).1 hk).1),c3⟩)
        clear a2;obtain⟨W9,bp⟩:=Zx w9;rw[←bp]at S9 bh bg aj⊢;clear bp;go_upto_region 18 with fail;go_cut [12] (fun cn wz=>cn=.bool oc.isSome∧Qc Qb W9 wz);case first=> go_wp2_with fail;refine(bh.o _ (Zg Qb W9)).mono ?_;rintro r cq⟨p,rfl,hS,bl⟩;have be:=O bl;have HS:=O hS;clear hS bl;go_wp2_with fail;refine(bg.o _ be.o).mono ?_;rintro r b0⟨rfl,rfl⟩;go_wp2_with fail;refine(ce.o _ _ cq _ HS.o be.o (Zg _ _)).mono ?_;rintro r b0⟨rfl,au,_⟩;obtain⟨W3,s3,ch,bj⟩:=Q0 (P:=prog) (vs:=Bq oc) (Qh.new b0 ZK 70) (Qze oc).1 (Qze oc).2;have D3:Hi (Qc Qb W9 W3):=O ((au.alloc _).trans bj (fun k e=>.inr (by have:=au.size;omega)));have hz:=(Qze oc).1;clear ch bj au;go_wp2_with fail;go_meet;exact⟨rfl,D3.o⟩
        case rest=>
         obtain⟨rfl,ag⟩:=hcut;obtain⟨wx,bz⟩:=Zx wc;rw[←bz]at ag⊢;have CX:=O ag;clear bz ag;have bi:=O (aj.o wx CX.o);generalize oc.isSome=cm at ao⊢;go_upto_region 19 with fail;go_cut [85] (fun cp wz=>cp=.bool false∧Qc Qb W9 wz)
         case first=>
          rcases ao.o with hs|⟨rfl,rfl⟩
          ·rw[hs]at aj bi;clear hs;cases cm;all_goals cases U
           all_goals
            try
             go_wp2_with fail;refine Zo bi ?_;rintro r wy⟨rfl,cy⟩;have CY:=O (CX.o.aA cy);have b3:=O (aj.o _ CY.o);clear cy
            try
             go_wp2_with fail;refine Zo b3 ?_;rintro r wv⟨rfl,cv⟩;have CY:=O (CY.o.aA cv);clear cv
            go_wp2_with fail;go_meet;first|exact⟨rfl,CY.o⟩|exact⟨rfl,CX.o⟩
          ·go_wp2_with fail;go_meet;exact⟨rfl,CX.o⟩
         case rest=>
          obtain⟨rfl,ap⟩:=hcut;have cg:=O (S9.o.aB ap);clear ap;go_wp2;go_roundw;case measure=>have:=aa.o;simp only[intOf];omega
          case rel=>exact⟨k+1,E,G8,by rw[←Int.natCast_one,←Int.natCast_add],aa.o,cg.o,ab.o⟩
    ·obtain⟨hd,bq⟩:=ZN (show¬k<l.length by omega);have K4:=O (CV.o.aA S4.o.chg);clear hk ai;go_wp2;go_ret;exact⟨rfl,K4.o⟩
  ·refine(cd.o _ hE).mono ?_;rintro r w3⟨rfl,c3⟩;have C3:=O (CV.o.aA c3);have hz:(Qxy z q B==0)=false:=by simp[hE]
   have ck:decide (Qxy z q B=0)=false:=by simp[hE]
   have cl:(Qxy z q B != 0)=true:=by simp[hE]
   clear c3 hE;generalize Qxy z q B=er at hz ck cl⊢;go_wp2;go_ret;exact⟨rfl,C3.o⟩
end
theorem Uv{n:Int}(h:(Lit.int .u64 n).wf=true):∃k:Nat,n=(k:Int)∧k<18446744073709551616:=by
 refine⟨n.toNat,?_⟩;simp[Lit.wf]at h;have c:IntKind.u64.min=0:=by kernel_rfl
 have d:IntKind.u64.max=18446744073709551615:=by kernel_rfl
 omega
theorem Qum{n:Int}(h:(Lit.int .u8 n).wf=true):0≤n∧n<256:=by
 simp[Lit.wf]at h;have c:IntKind.u8.min=0:=by kernel_rfl
 have d:IntKind.u8.max=255:=by kernel_rfl
 omega
def Al:List (Option IntKind):=[some .u8,some .i64,some .i64,none,some .u64,some .u64,some .u64,some .u64,some .u64,some .u64,some .u64,some .u64,some .u64,some .i64,some .i64,some .u64,some .i64,some .i64,some .u64,some .u64]
theorem Yy.of_fits{x:List Value}(h:O2 Al x):∃a:Yy,x=a.cells∧a.wf:=by unfold Al at h;obtain⟨k,y0,rfl,wk,h1⟩:=h.int1;obtain⟨v0,y1,rfl,_,h2⟩:=h1.int1;obtain⟨v1,y2,rfl,_,h3⟩:=h2.int1;obtain⟨v2,y3,rfl,h4⟩:=h3.bool1;obtain⟨u4,y4,rfl,w4,h5⟩:=h4.int1;obtain⟨v3,rfl,_⟩:=Uv w4;clear w4;obtain⟨u5,y5,rfl,w5,h6⟩:=h5.int1;obtain⟨v4,rfl,_⟩:=Uv w5;clear w5;obtain⟨u6,y6,rfl,w6,h7⟩:=h6.int1;obtain⟨v5,rfl,_⟩:=Uv w6;clear w6;obtain⟨u7,y7,rfl,w7,h8⟩:=h7.int1;obtain⟨v6,rfl,_⟩:=Uv w7;clear w7;obtain⟨u8,y8,rfl,w8,h9⟩:=h8.int1;obtain⟨v7,rfl,_⟩:=Uv w8;clear w8;obtain⟨u9,y9,rfl,w9,z⟩:=h9.int1;obtain⟨v8,rfl,_⟩:=Uv w9;clear w9;obtain⟨u10,ac,rfl,c,B⟩:=z.int1;obtain⟨v9,rfl,_⟩:=Uv c;clear c;obtain⟨u11,ae,rfl,d,E⟩:=B.int1;obtain⟨v10,rfl,_⟩:=Uv d;clear d;obtain⟨u12,af,rfl,q,I⟩:=E.int1;obtain⟨v11,rfl,_⟩:=Uv q;clear q;obtain⟨v12,ag,rfl,_,J⟩:=I.int1;obtain⟨v13,ah,rfl,_,K⟩:=J.int1;obtain⟨p0,ai,rfl,_,R⟩:=K.int1;obtain⟨p1,aj,rfl,_,U⟩:=R.int1;obtain⟨p2,ak,rfl,_,V⟩:=U.int1;obtain⟨p3,al,rfl,_,Z⟩:=V.int1;obtain⟨u19,am,rfl,u,aa⟩:=Z.int1;obtain⟨va,rfl,ab⟩:=Uv u;clear u;have hz:=aa.nil0;subst hz;exact⟨⟨k,⟨v0,v1,v2,⟨v3,v4,v5⟩,⟨v6,v7,v8⟩,⟨v9,v10,v11⟩,v12,v13⟩,⟨p0,p1,p2,p3⟩,va⟩,rfl,(Qum wk).1,(Qum wk).2,ab⟩
theorem own:ownKnob prog.godebug=none:=by kernel_rfl
def Qzj:List (Option IntKind):=[some .u64,some .i64,some .u64]
theorem Qz6{x:List Value}(h:O2 Qzj x):∃(c:Nat)(k:Int)(d:Nat),x.toArray=#[ZU c,ZI k,ZU d]∧c<18446744073709551616∧d<18446744073709551616:=by unfold Qzj at h;obtain⟨u0,I,rfl,w0,z⟩:=h.int1;obtain⟨u1,J,rfl,_,B⟩:=z.int1;obtain⟨u2,K,rfl,w2,E⟩:=B.int1;have:=E.nil0;subst this;obtain⟨v0,rfl,q⟩:=Uv w0;obtain⟨v2,rfl,u⟩:=Uv w2;exact⟨v0,u1,v2,rfl,q,u⟩
theorem Q1s:O9 prog 5 24=some Qzj:=by kernel_rfl
theorem Q1j:O9 prog 5 33=some Al:=by kernel_rfl
end Go.Proofs.YtigcnnkagkbflaaGreat
