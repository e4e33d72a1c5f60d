/- A part of the proof: no condition. -/
import Derived.Test.YtigcnnkagkbflaaGreatUo23
namespace Go.Proofs.YtigcnnkagkbflaaGreat
set_option linter.unusedVariables false
set_option maxRecDepth 100000
set_option maxHeartbeats 4000000
open Go.RowKit
open Go.Proofs.Tryz
attribute [local go_sem] Qp
attribute [local irreducible] Kl J9 Xo
section
abbrev Q1r:Array Value:=#[.int .u8 0,ZI 0,ZI 0,.bool false,ZU 0,ZU 0,ZU 0,ZU 0,ZU 0,ZU 0,ZU 0,ZU 0,ZU 0,ZI 0,ZI 0,ZU 0,ZI 0,ZI 0,ZU 0,ZU 0]
theorem Q0q(a:Yy):∀v∈a.cells,v.oneCell'=true:=by intro v c;simp only[Yy.cells,Zu,List.not_mem_nil,or_false]at c;rcases c with rfl|rfl|rfl|rfl|rfl|rfl|rfl|rfl|rfl|rfl|rfl|rfl|rfl|rfl|rfl|rfl|rfl|rfl|rfl|rfl<;>rfl
structure RB(V w:World)(G R:Fp)(us:Nat->Value)(pb:Nat)(ps:Nat->List Jr):Prop where
 is:Qyw us w R pb ps
 lo:∀k,R k->V.heap.size<=k
 dis:Jl R G
section
variable{V w w':World}{G R:Fp}{us:Nat->Value}{pb:Nat}{ps:Nat->List Jr}
theorem RB.aB(h:RB V w G R us pb ps)(c:Qc Qb w w'):RB V w' G R us pb ps:=⟨(Qyw.good us pb ps).aB h.is c (Jl.none _),h.lo,h.dis⟩
theorem RB.step(h:RB V w G R us pb ps)(c:Qc G w w'):RB V w' (Qn G w w') R us pb ps:=⟨(Qyw.good us pb ps).aB h.is c h.dis,h.lo,λk d q=>q.elim (h.dis k d) (λe=>by have:=(Qyw.good us pb ps).bd h.is k d;omega)⟩
end
section
variable{V w w':World}{G R S:Fp}{us us':Nat->Value}{b pb:Nat}{ps ps':Nat->List Jr}{e:Vi}
theorem GE.at(h:GE V w G b e)(c:Qc S w w')(d:Jl G S)(u:∀k,S k->V.heap.size<=k):GE V w' G b e:=⟨Qxn.obj.aB h.is c d,h.lo,h.chg.trans c λk q=>.inr (u k q)⟩
theorem RB.at(h:RB V w G R us pb ps)(c:Qc S w w')(d:Jl R S):RB V w' G R us pb ps:=⟨(Qyw.good us pb ps).aB h.is c d,h.lo,h.dis⟩
theorem RB.put(h:RB V w G R us pb ps)(g:GE V w G b e)(u:Qyw us' w' (Qn R w w') pb ps')(c:Qc R w w'):RB V w' G (Qn R w w') us' pb ps'/\GE V w' G b e:=
 ⟨⟨u,λk d=>d.elim (h.lo k) λe=>Zp g.chg.size e.1,λk d q=>d.elim (λd=>h.dis k d q) λe=>by have:=Qxn.obj.bd g.is k q;omega⟩,g.at c (λk d z=>h.dis k z d) h.lo⟩
end
theorem Q1q(d:Int->List Jr){q:Nat}{p:Jr}(h:p.cls=(q:Int)):upd (λc:Nat=>d (c:Int)) q (d (q:Int)++[p])=λc:Nat=>Qxs d p (c:Int):=by
 funext c;unfold upd Qxs;rw[h];by_cases e:c=q;·rw[if_pos e,if_pos (by omega),e]
 .rw[if_neg e,if_neg (by omega)]
theorem Q1k{d:Int->List Jr}{k:Nat}(h:∀c,(d c).length<=k)(p:Jr)(c:Int):(Qxs d p c).length<=k+1:=by
 unfold Qxs;have:=h c;split;·rw[List.length_append];exact Nat.succ_le_succ this
 .omega
theorem Q03(e:Vi)(k:Nat)(s:Yk)(p:Jr)(c:Nat):(e.does k s p c).rate=e.rate:=by
 have q:∀(e:Vi)d,(e.run d).rate=e.rate:=λe d=>(Qwf d _ e).2;unfold Vi.does;split;·unfold Vi.add;split<;>rfl
 split;·unfold Vi.change;split<;>rfl
 split
 .unfold Vi.drop;split;·rfl
  .split<;>rfl
 split
 .rw[Qwb];split;·rfl
  .split;·exact(q _ _).trans (q e _)
   .exact q e _
 split
 .unfold Vi.adv;split;·exact q _ _
  .rfl
 .exact(W8 e _).2
section
theorem Qy1(a b c d:Int)(w):(binOp .neq 31 (.agg #[ZU a,ZI b,ZI c,ZU d]) (.agg #[ZU a,ZI b,ZI c,ZU d])).run prog w=.ok (.bool false) w:=by go_simp
end
attribute [local go_sem ↓] Qy1
def rgt:Nat->Code->Code
 |n+1,.seq _ b=>rgt n b
 |_,c=>c
theorem Q1f{a b:Int}(h:a=b):(a==b)=true/\decide (a=b)=true:=by simp[h]
theorem Q0f{a b:Int}(h:¬a=b):(a==b)=false/\decide (a=b)=false:=by simp[h]
theorem Qyx{L:List Value}{n:Nat}(h:L.length=n+1):∃c M,L=c::M/\M.length=n:=by
 cases L with
 |nil=>cases h
 |cons c M=>exact⟨c,M,rfl,Nat.succ.inj h⟩
abbrev Qz2(n:Nat)(W:World)(a:Act)(w:World):Prop:=Code.wp prog (rgt n (f4.body.getD .skip)) (bodyPost prog f4 λe w'=>e=.returned (.bool true)/\Qc Qb W w') a w
section
variable{W V:World}{G R:Fp}{us:Nat->Value}{b pb N rate:Nat}{e:Vi}
theorem Q1p{V8}{ps:Nat->List Jr}(hS:GE V V8 G b e)(hR:RB V V8 G R us pb ps)(hc:Qc Qb W V8)(hN:Xp N e.sched/\N<549755813000)
  (hK:∀c:Nat,c<64->(e.sched.tree.at (c:Int)).isSome=false/\(ps c).length=0\/(e.sched.tree.at (c:Int)).isSome=true/\(e.sched.tree.get (c:Int)).sp.leaf=false\/(e.sched.tree.at (c:Int)).isSome=true/\(e.sched.tree.get (c:Int)).sp.leaf=true/\e.sched.many (c:Int)=((ps c).length:Int))
  {L:List Value} (h0:L.length=256) (h5:L[5]? =some (ZP b)) (h7:L[7]? =some (ZP pb)):Qz2 11 W ⟨L.toArray,[]⟩ V8:=by
 have S7:=O hS;have R8:=O hR;have FC:=O hc;have q:=O hN;have aa:=O hK;unfold Qz2;clear hS hR hc hN hK;iterate 256 (obtain⟨_,_,rfl,h1⟩:=Qyx h0;clear h0;have h0:=h1;clear h1)
 obtain rfl:=List.eq_nil_of_length_eq_zero h0;obtain rfl:=Zs h5;obtain rfl:=Zs h7;clear h0 h5 h7
 conv=>arg 2;whnf
 go_wp2_with fail;go_loopw [20,21,22,23,24] (λz _ _ _ _ wz=>∃c:Nat,z=ZI c/\c<=64/\Qc Qb V8 wz) (λz _ _ _ _ _=>64-(intOf z).toNat);case atStart=>exact⟨1,rfl,by omega,Zg _ _⟩
 case round=>
  obtain⟨c,rfl,u,d⟩:=hrel;obtain⟨V9,ak⟩:=Zx wr;rw[<-ak]at d|-;clear ak;by_cases Xg:c<64
  .have az:decide ((c:Int)<64)=true:=by simp;omega
   have J:=aa.o c Xg;have Z:Hi (∀w',Qc Qb V9 w'->Cl 16 #[ZP b] w' λr B=>∃p,r=.returned (ZP p)/\Qt B (Qn Qb w' B) p e.sched/\Qc Qb w' B):=O (λw' c=>by
    obtain⟨A,hA⟩:=(S7.o.aB (d.aA c)).is;exact Qzp hA q.o.1 q.o.2)
   obtain⟨G2,hp,_⟩:=R8.o.is.row Xg;obtain⟨ra,an,am,_⟩:=hp.row;have ab:=O (λw'(h:Qc Qb V9 w')=>(show w'.cell? ⟨pb,c,none⟩=some (.slice ra (ps c).length an)from by rw[((d.aA h).blk R8.o.is.blk.1 (λh=>h)).cell,Qy6 _ Xg,am]));have ew:IntKind.i64.wrap ((c:Int)+1)=(c:Int)+1:=by rw[IntWalk.i64_in _ (by omega)]
   have k0:(0:Int)<=(c:Int):=by omega
   have k1:(c:Int)<64:=by omega
   have av:=O d;have U:=O Xg;clear d Xg am u hp;go_wp2_with fail;refine(Z.o _ (Zg Qb V9)).mono ?_;rintro r ao⟨p,rfl,hS,ac⟩;have ap:=O ac;have ay:Hi (ZW 20 #[ZP p,ZI c] ao (.tuple #[ZI (e.sched.many (c:Int)),ZI (e.sched.bytes (c:Int))]) λw'=>Qc Qb ao w'):=O (by
    obtain⟨A,hA⟩:=hS;exact Dn hA q.o.1 _)
   clear hS ac;go_wp2_with fail;apply Zo ay;rintro r a0⟨rfl,ae⟩;have K:=O (ap.o.aA ae);have ax:=O (Z.o a0 K.o);clear ae;generalize e.sched.bytes (c:Int)=bb;go_wp2_with fail;apply Zo ax;rintro r E⟨p2,rfl,aj,af⟩;have aq:=O (K.o.aA af);have aw:Hi (Cl 22 #[ZP p2] E λr w'=>∃t,r=.returned (ZP t)/\Q9 w' (Qn Qb E w') t e.sched.tree/\Qc Qb E w'):=O (by
    obtain⟨A,hA⟩:=aj;exact Uu hA q.o.1)
   clear aj af;go_wp2_with fail;apply Zo aw;rintro r a2⟨tb,rfl,hT,ag⟩;have ar:=O (aq.o.aA ag);have HG:=O (Ob hT (c:Int));clear hT ag;go_wp2_with fail;apply Zo HG;rintro r I⟨rfl,ah⟩;have au:=O (ar.o.aA ah);clear ah;obtain⟨sp,al⟩:=Zx ((e.sched.tree.get (c:Int)).sp);rw[<-al]at J|-;clear al;obtain⟨W6,s6,ai,c6⟩:=Q0 (P:=prog) (vs:=Es sp) (Qh.new I Z5 29) rfl (Hl _);have C6:Hi (Qc Qb V9 W6):=O (au.o.aA (((Zg Qb I).alloc _).trans c6 λk e=>.inr (by omega)));have g2:W6.cell? ⟨I.heap.size,2,none⟩=some (.bool sp.leaf):=ai.at 2 rfl;have r6:=ab.o W6 C6.o;clear ai c6;have hz:(Es sp).size=14:=rfl;generalize(e.sched.tree.at (c:Int)).isSome=is at J|-;generalize e.sched.many (c:Int)=mc at J|-;generalize(ps c).length=pn at J r6;generalize Es sp=a1 at s6 hz|-;generalize sp.leaf=lf at J g2;have FD:=O (av.o.aA C6.o);rcases J with⟨rfl,rfl⟩|⟨rfl,rfl⟩|⟨rfl,rfl,rfl⟩;all_goals
    go_wp2_with fail;clear s6;go_roundw;case measure=>have:=U.o;simp only[intOf];omega
    case rel=>exact⟨c+1,by rw[<-Int.natCast_one,<-Int.natCast_add],U.o,FD.o⟩
  .have az:decide ((c:Int)<64)=false:=by simp;omega
   have FD:=O (FC.o.aA d);clear Xg d u;exact WD FD
end
end
def Qz7(k:Nat):Code->Option Code
 | .region n o d=>if n=k then some (.region n o d)else none
 | .seq a b=>(Qz7 k a).or (Qz7 k b)
 | .cond _ a b=>(Qz7 k a).or (Qz7 k b)
 | .block _ c=>Qz7 k c
 | .loop c=>Qz7 k c
 | .scope c=>Qz7 k c
 |_=>none
theorem Q1v{P:List Value->Prop}(n m:Nat){l L:List Value}(c:l.take n=L.take n)(d:l.drop (n+m)=L.drop (n+m))(k:((l.drop n).take m).length=m)(h:∀M:List Value,M.length=m->M=(l.drop n).take m->P (L.take n++M++L.drop (n+m))):P l:=by have:=h _ k rfl;rwa[<-c,<-d,<-List.drop_drop,List.append_assoc,List.take_append_drop,List.take_append_drop]at this
section
attribute [local go_sem ↓] Qy1
variable{Q:Exit->Act->World->Prop}{w:World}{x:D7}{q wb pb b2 o2 tn cap3 rate:Nat}{L:List Value}
theorem Q1i(K:Qh w wb #[ZU x.p.id,ZI q,ZI x.p.len,ZU x.p.at_,.int .u8 x.rule,ZU x.frm,ZU x.til,ZU x.due] 51)(y:w.cell? ⟨pb,q,none⟩=some (.slice (some ⟨b2,o2,none⟩) (tn+1) cap3))(Z:w.cell? ⟨b2,o2,none⟩=some (ZU x.p.id)/\w.cell? ⟨b2,o2+1,none⟩=some (ZI q)/\w.cell? ⟨b2,o2+2,none⟩=some (ZI x.p.len)/\w.cell? ⟨b2,o2+3,none⟩=some (ZU x.p.at_))(hq:q<64)(E:Qx7 rate x)
  (k:L.length=256) (J:L[7]? =some (ZP pb)) (u:L[18]? =some (ZP wb)) (z:L[19]? =some (ZI q)) (V:∀c(a:Act)(d:Tmp)v w,Q (.panic c) (a.put (some d) v) w->Q (.panic c) a w) (hQ:∀M:List Value,M.length=38->M[37]? =some (.bool false)->Q .normal ⟨(L.take 139++M++L.drop 177).toArray,[]⟩ w.drew):((Qz7 32 (f4.body.getD .skip)).getD .skip).wp prog Q ⟨L.toArray,[]⟩ w:=by
 obtain⟨x0,x1,x2,x3,x4,x5,x6,x7⟩:=Ja K.drew;have y2:w.drew.cell? ⟨pb,q,none⟩=some (.slice (some ⟨b2,o2,none⟩) (tn+1) cap3):=y;obtain⟨p0,p1,p2,p3⟩:w.drew.cell? ⟨b2,o2,none⟩=some (ZU x.p.id)/\w.drew.cell? ⟨b2,o2+1,none⟩=some (ZI q)/\w.drew.cell? ⟨b2,o2+2,none⟩=some (ZI x.p.len)/\w.drew.cell? ⟨b2,o2+3,none⟩=some (ZU x.p.at_):=Z;have k0:(0:Int)<=(q:Int):=by omega
 have k1:(q:Int)<64:=by omega
 have n1:(0:Int)<((tn+1:Nat):Int):=by omega
 have d1:decide ((q:Int)<0)=false:=by simp
 have d2:decide (63<(q:Int))=false:=by simp;omega
 obtain⟨d3,d4⟩:=Q0f (show¬(tn:Int)+1=0 by omega);have e1:decide ((x.frm:Int)<x.p.at_)=false:=by have:=E.at_;simp;omega
 have e2:decide (x.til<x.frm)=false:=by have:=E.til;simp;omega
 have R:=O hQ;clear K y hq E hQ;iterate 256 (obtain⟨_,_,rfl,I⟩:=Qyx k;clear k;have k:=I;clear I)
 obtain rfl:=List.eq_nil_of_length_eq_zero k;obtain rfl:=Zs J;obtain rfl:=Zs u;obtain rfl:=Zs z;clear k J u z
 conv=>arg 2;whnf
 refine ZB [0,1,2,3,4,5,6,7,8,9,10,11,12,13,14,15,16,17,18,19,20,21,22,23,24,25,26,27,28,29,30,31,32,33,34,35,36,37] ?_ (hQ:=V);simp only[Z8,Zf,Ze,Zd];iterate 8 (first|refine Jq (h:=?_)|refine Q8 (h:=?_);try simp only[Act.put,Za,Zc,Zb])
 try simp only[Act.put,Za,Zc,Zb]
 iterate 8 (first|refine Jq (h:=?_)|refine Q8 (h:=?_);try simp only[Act.put,Za,Zc,Zb])
 try simp only[Act.put,Za,Zc,Zb]
 iterate 7 (first|refine Jq (h:=?_)|refine Q8 (h:=?_);try simp only[Act.put,Za,Zc,Zb])
 try simp only[Act.put,Za,Zc,Zb]
 iterate 7 (first|refine Jq (h:=?_)|refine Q8 (h:=?_);try simp only[Act.put,Za,Zc,Zb])
 try simp only[Act.put,Za,Zc,Zb]
 iterate 8 (first|refine Jq (h:=?_)|refine Q8 (h:=?_);try simp only[Act.put,Za,Zc,Zb])
 try simp only[Act.put,Za,Zc,Zb]
 refine Jo ?_;exact Q1v (P:=λl=>Q .normal ⟨l.toArray,[]⟩ w.drew) 139 38 rfl rfl rfl λM U e=>R.o M U (by rw[e];rfl)
theorem Q1j{n' cb i g8 o8 I:Nat}(hB:Qh w wb #[ZU x.p.id,ZI q,ZI x.p.len,ZU x.p.at_,.int .u8 x.rule,ZU x.frm,ZU x.til,ZU x.due] 51)(f:w.cell? ⟨cb,0,none⟩=some (ZU rate))(ai:∀m,i=m+1->∃y:Nat,y<=x.frm/\w.drew.cell? ⟨g8,o8+m*8+6,none⟩=some (ZU y))(hi:i<n')(ag:n'<1099511627776)(hr:1<=rate/\rate<=1048576)(B:Qx7 rate x)
  (J:L.length=256) (h2:L[2]? =some (ZP cb)) (K:L[14]? =some (.slice (some ⟨g8,o8,none⟩) n' I)) (R:L[17]? =some (ZI i)) (U:L[18]? =some (ZP wb)) (hP:∀c(a:Act)(d:Tmp)v w,Q (.panic c) (a.put (some d) v) w->Q (.panic c) a w) (hQ:∀M:List Value,M.length=30->M[29]? =some (.bool false)->Q .normal ⟨(L.take 183++M++L.drop 213).toArray,[]⟩ w.drew):((Qz7 35 (f4.body.getD .skip)).getD .skip).wp prog Q ⟨L.toArray,[]⟩ w:=by
 obtain⟨x0,x1,x2,x3,x4,x5,x6,x7⟩:=Ja hB.drew;have f0:w.drew.cell? ⟨cb,0,none⟩=some (ZU rate):=f;obtain⟨d,hd⟩:=Zx (x.til-x.frm);obtain⟨d1,V⟩:=Zx (d+1);obtain⟨z,hz⟩:=Zx (rate*d1);obtain⟨n,hn⟩:=Zx (x.p.len.toNat);obtain⟨m2,af⟩:=Zx (n*256);have k:=B.len;unfold Ll at k;have ac:=B.til;have Z:=B.far;have ak:z+x.frm*rate=(x.til+1)*rate:=by rw[hz,V,hd,Nat.mul_comm rate,<-Nat.add_mul];congr 1;omega
 have aa:=B.pace;have ab:=B.slow;rw[<-hn]at aa ab;have aj:(x.til+1)*rate=x.til*rate+rate:=by rw[Nat.add_mul,Nat.one_mul]
 have ah:=hr.2;have a1:IntKind.u64.wrap ((x.til:Int)-(x.frm:Int))=(d:Int):=by rw[IntWalk.u64_in _ (by omega)];omega
 have a2:IntKind.u64.wrap ((d:Int)+1)=(d1:Int):=by rw[IntWalk.u64_in _ (by omega)];omega
 have a3:IntKind.u64.wrap ((rate:Int)*(d1:Int))=(z:Int):=by rw[show(rate:Int)*(d1:Int)=(z:Int) by rw[hz];simp];exact IntWalk.u64_in _ (by omega)
 have a4:IntKind.u64.wrap x.p.len=(n:Int):=by rw[IntWalk.u64_in _ (by omega)];omega
 have a5:IntKind.u64.wrap ((n:Int)*256)=(m2:Int):=by rw[IntWalk.u64_in _ (by omega)];omega
 have a6:decide (z<m2)=false:=by simp;omega
 have ae:Hi (∀y:Nat,y<=x.frm->decide (x.frm<y)=false):=O (λy h=>by simp;omega);clear hd V hz hn af k ac Z ak aa ab aj ah;have HQ:=O hQ;clear hB f B hr hQ;iterate 256 (obtain⟨_,_,rfl,h1⟩:=Qyx J;clear J;have J:=h1;clear h1)
 obtain rfl:=List.eq_nil_of_length_eq_zero J;obtain rfl:=Zs h2;obtain rfl:=Zs K;obtain rfl:=Zs R;obtain rfl:=Zs U;clear J h2 K R U
 conv=>arg 2;whnf
 by_cases u:i=0
 .have j2:decide (0<i)=false:=by simpa using u
  clear u;refine ZB [0,1,2,3,4,5,6,7,8,9,10,11,12,13,14,15,16,17,18,19,20,21,22,23,24,25,26,27,28,29] ?_ (hQ:=hP);simp only[Z8,Zf,Ze,Zd];iterate 3 (first|refine Jq (h:=?_)|refine Q8 (h:=?_);try simp only[Act.put,Za,Zc,Zb])
  iterate 9 (first|(refine Qs8 (by kernel_rfl) ?_)|(refine Qmz (by kernel_rfl) ?_)|(refine Qs7 (by kernel_rfl) ?_);try simp only[Act.put,Za,Zc,Zb])
  try simp only[Act.put,Za,Zc,Zb]
  iterate 9 (first|refine Jq (h:=?_)|refine Q8 (h:=?_);try simp only[Act.put,Za,Zc,Zb])
  try simp only[Act.put,Za,Zc,Zb]
  iterate 9 (first|refine Jq (h:=?_)|refine Q8 (h:=?_);try simp only[Act.put,Za,Zc,Zb])
  try simp only[Act.put,Za,Zc,Zb]
  refine Jo ?_;exact Q1v (P:=λl=>Q .normal ⟨l.toArray,[]⟩ w.drew) 183 30 rfl rfl rfl λM hM e=>HQ.o M hM (by rw[e];rfl)
 .obtain⟨m,hm⟩:∃m,i=m+1:=⟨i-1,by omega⟩;obtain⟨y,hy,y6⟩:=ai m hm;have h1:=ae.o y hy;have j5:decide (0<i)=true:=by simp;omega
  have j2:IntKind.i64.wrap ((i:Int)-1)=(m:Int):=by rw[IntWalk.i64_in _ (by have:=ag;have:=hi;omega)];omega
  have j3:(0:Int)<=(m:Int):=by omega
  have j4:(m:Int)<(n':Int):=by have:=hi;omega
  clear hy hm u;refine ZB [0,1,2,3,4,5,6,7,8,9,10,11,12,13,14,15,16,17,18,19,20,21,22,23,24,25,26,27,28,29] ?_ (hQ:=hP);simp only[Z8,Zf,Ze,Zd];iterate 6 (first|refine Jq (h:=?_)|refine Q8 (h:=?_);try simp only[Act.put,Za,Zc,Zb])
  try simp only[Act.put,Za,Zc,Zb]
  iterate 6 (first|refine Jq (h:=?_)|refine Q8 (h:=?_);try simp only[Act.put,Za,Zc,Zb])
  try simp only[Act.put,Za,Zc,Zb]
  iterate 9 (first|refine Jq (h:=?_)|refine Q8 (h:=?_);try simp only[Act.put,Za,Zc,Zb])
  try simp only[Act.put,Za,Zc,Zb]
  iterate 9 (first|refine Jq (h:=?_)|refine Q8 (h:=?_);try simp only[Act.put,Za,Zc,Zb])
  try simp only[Act.put,Za,Zc,Zb]
  refine Jo ?_;exact Q1v (P:=λl=>Q .normal ⟨l.toArray,[]⟩ w.drew) 183 30 rfl rfl rfl λM hM e=>HQ.o M hM (by rw[e];rfl)
end
section
attribute [local go_sem ↓] Qy1
variable{W V:World}{G R:Fp}{us:Nat->Value}{b pb N rate:Nat}{e:Vi}
theorem Q1o{w6}{cb n k al:Nat}{ga:Option Addr}{bq:Int}{cg:Nat}{u:Int->List Jr}(hl:¬200<n/\k<=n)(be:Qc Qb W V)(hC:Qh V cb (Q1d rate bq cg) 24)(hS:GE V w6 G b e)(ay:V4 (33*k) e)(af:D6 e u)(a0:e.rate=rate)(U:RB V w6 G R us pb (λc=>u (c:Int)))
  (J:Kb Qxe 8 w6 ga e.alls) (ao:∀k,(Value.slice ga e.alls.length al).ownBlock=some k->pb<k) (av:e.alls.length<1099511627776)
  {L:List Value} (h0:L.length=256) (h2:L[2]? =some (ZP cb)) (h5:L[5]? =some (ZP b)) (h7:L[7]? =some (ZP pb)) (ar:L[14]? =some (.slice ga e.alls.length al)):Qz2 10 W ⟨L.toArray,[]⟩ w6:=by
 have a9:=O hl;have CV:=O be;have S6:=O hS;have R6:=O U;have ab:=O (Zt J ao);have b0:=O (Zt ay (Zt trivial af));obtain⟨d,am⟩:=Zx (e.alls);have ak:=O af.put;have ag:=O (Zt af.ok af.chain);rw[a0]at ag;have b4:Hi (1<=rate/\rate<=1048576):=O (by rw[<-a0];exact ay.rate);have bt:=O (λw'(c:Qc (λk=>k=pb) w6 w')=>c.blk (hS.chg.blk hC (λh=>h)) (λh=>by have:=U.lo _ U.is.blk.2;have:=hC.lt;omega));rw[<-am]at ab ak ag av ar;have a7:=O (Zt trivial av);have bw:Hi (pb<w6.heap.size):=O (U.is.blk.1.lt);have ba:Hi (∀k,G k->k≠pb):=O (λk I e=>U.dis _ U.is.blk.2 (e▸I));unfold Qz2;clear hl be hC hS ay af a0 U J ao av am;iterate 256 (obtain⟨_,_,rfl,K⟩:=Qyx h0;clear h0;have h0:=K;clear K)
 obtain rfl:=List.eq_nil_of_length_eq_zero h0;obtain rfl:=Zs h2;obtain rfl:=Zs h5;obtain rfl:=Zs h7;obtain rfl:=Zs ar;clear h0 h2 h5 h7 ar
 conv=>arg 2;whnf
 go_wp2_with fail;rename_i KX bf;have hX:∀(a:Act)(w),(∃(L:List Value)(R:Fp)(us:Nat->Value)(u:Int->List Jr),a=⟨L.toArray,[]⟩/\L.length=256/\L[5]? =some (ZP b)/\L[7]? =some (ZP pb)/\RB V w G R us pb (λc=>u (c:Int))/\Qc (λk=>k=pb) w6 w/\∀c,0<=c->c<64->u c=e.sched.qOf c)->KX a w:=λa w⟨L,R,us,u,e1,h0,h5,h7,U,hc,hp⟩=>by
  obtain⟨N,hN⟩:∃N,Xp N e.sched/\N<549755813000:=by obtain⟨N,K,h2⟩:=b0.o.1.sok;exact⟨N,K,by have:=a9.o;omega⟩
  have S7:=S6.o.at hc (λk I e=>ba.o k I e) λk e=>by have:=R6.o.lo _ R6.o.is.blk.2;omega
  subst e1;refine bf _ w (Q1p S7 U (CV.o.aA S7.chg) hN (λc h=>?_) h0 h5 h7);rw[hp _ (by omega) (by omega)];cases aw:e.sched.tree.at (c:Int)with
  |none=>exact .inl ⟨rfl,by rw[Qbc (hN.1.leaf_none aw)];rfl⟩
  |some cl=>
   rw[Ec e.sched.tree aw];cases cf:cl.sp.leaf with
   |false=>exact .inr (.inl ⟨rfl,rfl⟩)
   |true=>exact .inr (.inr ⟨rfl,rfl,(Qdq hN.1 aw cf).1⟩)
 clear bf;go_loopw [17,18,19] (λa4 _ _ wz=>∃(i:Nat)(R:Fp)(us:Nat->Value)(u:Int->List Jr),a4=ZI i/\i<=d.length/\(∀c,0<=c->c<64->u c=ofC c (d.drop i)++e.sched.qOf c)/\RB V wz G R us pb (λc=>u (c:Int))/\Qc (λk=>k=pb) w6 wz) (λa4 _ _ _=>d.length-(intOf a4).toNat);case atStart=>exact⟨0,_,_,_,rfl,Nat.zero_le _,ak.o,R6.o,Zg _ _⟩
 case round=>
  obtain⟨i,R,us,u,rfl,hi,z,U,hc⟩:=hrel;have S7:=O (S6.o.at hc (λk I e=>ba.o k I e) λk e=>by have:=R6.o.lo _ R6.o.is.blk.2;omega);by_cases Z:i<d.length
  .have ca:=ZT (show i<d.length by omega);have J:=ab.o.1.aB hc (λad e h=>by subst e;have:=ab.o.2 ad.block rfl;omega);obtain⟨g8,o8,rfl,ax⟩:=J i Z;have SO:=O (ag.o.1 _ (List.getElem_mem Z));have b5:=O hc.size;have LT:Hi (∀m,i=m+1->∃y:Nat,y<=(d[i]).frm/\∀w',Qc (λk=>k=pb) w6 w'->w'.cell? ⟨g8,o8+m*8+6,none⟩=some (ZU y)):=O (λm hm=>by
    refine⟨(d[m]).til,List.pairwise_iff_getElem.1 ag.o.2 m i (by omega) Z (by omega),λw' c=>?_⟩;obtain⟨g9,o9,e9,ce⟩:=ab.o.1.aB c (λad e h=>by cases e;have:=ab.o.2 g8 rfl;have h2:g8=pb:=h;omega) m (by omega);injection e9 with e9;injection e9 with e1 e2;subst e1 e2;exact ce 6 _ rfl)
   have bl:d.drop i=d[i]::d.drop (i+1):=List.drop_eq_getElem_cons Z;rw[bl]at z;generalize d[i]=x at ax SO LT z;have HL:Hi (wr.rangeAt g8 (o8+i*8) (Qxe x)):=O (ax);obtain⟨q,hq⟩:∃q:Nat,q=x.p.cls.toNat:=⟨_,rfl⟩;have HQ:Hi (q<64/\x.p.cls=(q:Int)):=O (by have:=SO.o.cls;omega);have aj:u (q:Int)=x.p::(ofC (q:Int) (d.drop (i+1))++e.sched.qOf (q:Int)):=by rw[z _ (by omega) (by have:=HQ.o.1;omega),show x::d.drop (i+1)=[x]++d.drop (i+1)from rfl,Qx1,Qx2,if_pos HQ.o.2];rfl
   obtain⟨tl,a2⟩:=Zx (ofC (q:Int) (d.drop (i+1))++e.sched.qOf (q:Int));rw[<-a2]at aj;have b1:Hi (∀c,0<=c->c<64->(λc=>if c=(q:Int)then tl else u c) c=ofC c (d.drop (i+1))++e.sched.qOf c):=O (λc K h2=>by
    dsimp only;split;·rename_i e;rw[a2,e]
    .rename_i e;rw[z c K h2,show x::d.drop (i+1)=[x]++d.drop (i+1)from rfl,Qx1,Qx2,if_neg (λh:x.p.cls=c=>e (h.symm.trans HQ.o.2))];rfl)
   obtain⟨G2,hp,b6,nb,ch⟩:=U.is.row HQ.o.1;rw[aj]at hp;obtain⟨b2,o2,B,cm,a3,an,ae,b9,bb,c0,c1,c2,c3,b7,b8⟩:=hp.head;have bj:=U.is.blk.1;have a5:Hi (∀v,v=.slice (some ⟨b2,o2+4,none⟩) tl.length (B-1)\/(tl=[]/\v=.slice (some ⟨b2,o2,none⟩) 0 (B-1))->∀W,Qc Qb wr W->∀W',Qc Qb (W.setCell ⟨pb,q,none⟩ v) W'->∃(R:Fp)(us:Nat->Value),RB V W' G R us pb (λc:Nat=>(λc=>if c=(q:Int)then tl else u c) (c:Int))/\Qc (λk=>k=pb) w6 W'):=O (λv hv W cW W' cc=>by
    have aa:=U.aB cW;obtain⟨G3,az,_,_,bo⟩:=aa.is.row HQ.o.1;rw[aj]at az;obtain⟨b3,o3,ck,cn,ap,_,_,_,_,_,_,_,_,bg,bh⟩:=az.head;rw[a3]at ap;injection ap with e1 e2 e3;injection e1 with e1;injection e1 with e4 e5;subst e3 e4 e5;have ci:Uh v tl W (Qn G3 W W):=by
     have bd:Bd (Qn G3 W W) W:=λk I=>I.elim (λh=>(Nk _ _).bd az k h) (λh=>h.2);rcases hv with rfl|⟨e,rfl⟩;·exact(Nk _ _).more bg (λk I=>.inl I) bd
     .exact(Nk _ _).more (bh e) (λk I=>.inl I) bd
    obtain⟨m1,m2⟩:=bo W v tl ci (Zg _ _);obtain⟨m3,_⟩:=aa.put (S7.o.aB cW) m1 m2;have e7:upd (λc:Nat=>u (c:Int)) q tl=λc:Nat=>(λc=>if c=(q:Int)then tl else u c) (c:Int):=by
     funext c;unfold upd;dsimp only;by_cases e:c=q;·rw[if_pos e,if_pos (by omega)]
     .rw[if_neg e,if_neg (by omega)]
    rw[e7]at m3;exact⟨_,_,m3.aB cc,(hc.trans cW (λk I=>I.elim)).trans (((Zg (λk=>k=pb) W).setCell (a:=⟨pb,q,none⟩) v (.inl rfl)).trans cc λk I=>I.elim) λk I=>.inl I⟩)
   obtain⟨W8,s8,bc,c8⟩:=Q0 (P:=prog) (vs:=(Qxe x).toArray) (Qh.new wr ZG 51) rfl (λv hv=>sentT.one x v (by simpa using hv));have C8:Hi (Qc Qb wr W8):=O (((Zg Qb wr).alloc _).trans c8 λk e=>.inr (by omega));have B8:Hi (Qh W8 wr.heap.size #[ZU x.p.id,ZI q,ZI x.p.len,ZU x.p.at_,.int .u8 x.rule,ZU x.frm,ZU x.til,ZU x.due] 51):=O (by rw[<-HQ.o.2];exact bc);have bp:(Qxe x).toArray.size=8:=rfl;obtain⟨sx,a1⟩:=Zx ((Qxe x).toArray);rw[<-a1]at s8 bp;have bv:=O a1;have i0:(0:Int)<=(i:Int):=by omega
   have i1:(i:Int)<(d.length:Int):=by omega
   have x1:W8.cell? ⟨wr.heap.size,1,none⟩=some (ZI q):=B8.o.at 1 rfl;have aq:=O (C8.o.blk bj (λh=>h));have ah:=O (C8.o.blk bb (λh=>h));have R2:=O (Zt c0 (Zt c1 (Zt c2 c3)));have a8:=O a3;have a6:=O (Zt an ae);have ai:=O Z;clear J ax bl z hq aj a2 hp b6 nb ch a3 an ae b9 bb c0 c1 c2 c3 b7 b8 bj bc c8 a1 U hc hi Z;go_wp2_with (with_reducible refine wpList_load_mid rfl 51 (.tmp 134) rfl g8 (o8+i*8) rfl (Qxe x) _ HL.o underlying51 rfl (by kernel_rfl) ?_;rw[<-bv.o]);clear s8 bp x1;go_cut [176] (λbr wz=>br=.bool false/\Qc Qb W8 wz)
   case first=>
    refine Q1i B8.o (by rw[aq.o.cell,Qy6 _ HQ.o.1,a8.o]) ⟨by rw[ah.o.cell];exact R2.o.1,by rw[ah.o.cell,<-HQ.o.2];exact R2.o.2.1,by rw[ah.o.cell];exact R2.o.2.2.1,by rw[ah.o.cell];exact R2.o.2.2.2⟩ HQ.o.1 SO.o rfl rfl rfl rfl (λ_ _ _ _ _ h=>h) (λM hM h3=>?_);iterate 38 (obtain⟨_,_,rfl,K⟩:=Qyx hM;clear hM;have hM:=K;clear K)
    obtain rfl:=List.eq_nil_of_length_eq_zero hM;obtain rfl:=Zs h3;go_wp2_with fail;go_meet;exact⟨rfl,(Zg Qb W8).drew⟩
   case rest=>
    obtain⟨rfl,ac⟩:=hcut;have C9:=O (C8.o.aA ac);have y2:wc.cell? ⟨pb,q,none⟩=some (.slice (some ⟨b2,o2,none⟩) (tl.length+1) B):=by rw[(ac.blk aq.o (λh=>h)).cell,Qy6 _ HQ.o.1,a8.o]
    have yf:=(ac.blk aq.o (λh=>h)).frozen q;have B9:=O (ac.blk B8.o (λh=>h));have NP:Hi (wr.heap.size≠pb):=O (by have:=b5.o;have:=bw.o;omega);have k0:(0:Int)<=(q:Int):=by omega
    have k1:(q:Int)<64:=by have:=HQ.o.1;omega
    have n2:(1:Int)<=(tl.length:Int)+1:=by omega
    clear ac;go_upto_region 34 with fail;go_cut [] (λwz=>(∃(R:Fp)(us:Nat->Value),RB V wz G R us pb (λc:Nat=>(λc=>if c=(q:Int)then tl else u c) (c:Int))/\Qc (λk=>k=pb) w6 wz)/\Qh wz wr.heap.size #[ZU x.p.id,ZI q,ZI x.p.len,ZU x.p.at_,.int .u8 x.rule,ZU x.frm,ZU x.til,ZU x.due] 51)
    case first=>
     by_cases bk:B=1;·subst bk;have HT:Hi (tl=[]):=O (List.eq_nil_of_length_eq_zero (by have:=a6.o.1;omega));have bu:Hi (tl.length=0):=O (by rw[HT.o];rfl);go_wp2_with fail;go_meet;rw[bu.o];exact⟨a5.o _ (.inr ⟨HT.o,rfl⟩) _ C9.o _ (Zg _ _),B9.o.other _ NP.o.symm⟩
     .have co:(B=1)=False:=by simpa using bk
      go_wp2_with fail;go_meet;exact⟨a5.o _ (.inl rfl) _ C9.o _ (Zg _ _),B9.o.other _ NP.o.symm⟩
    case rest=>
     obtain⟨⟨R',cj,aa,E⟩,au⟩:=hcut;obtain⟨W9,bi⟩:=Zx wc;rw[<-bi]at aa E au|-;have bz:=O (Zt aa E);have B9:=O au;have F0:Hi (W9.cell? ⟨cb,0,none⟩=some (ZU rate)):=O ((bt.o W9 E).at 0 rfl);have YC:=O (λm(h:i=m+1)=>by
      obtain⟨y,K,h2⟩:=LT.o m h;exact(show∃y:Nat,y<=x.frm/\W9.drew.cell? ⟨g8,o8+m*8+6,none⟩=some (ZU y)from⟨y,K,h2 _ E.drew⟩))
     clear aa E au bi y2 yf;go_upto_region 35 with fail;go_cut [212] (λbs wz=>bs=.bool false/\wz=W9.drew)
     case first=>
      refine Q1j B9.o F0.o YC.o ai.o a7.o.2 b4.o SO.o rfl rfl rfl rfl rfl (λ_ _ _ _ _ h=>h) (λM hM h3=>?_);iterate 30 (obtain⟨_,_,rfl,K⟩:=Qyx hM;clear hM;have hM:=K;clear K)
      obtain rfl:=List.eq_nil_of_length_eq_zero hM;obtain rfl:=Zs h3;go_wp2_with fail;go_meet;exact⟨rfl,rfl⟩
     case rest=>
      obtain⟨rfl,rfl⟩:=hcut;have ew:IntKind.i64.wrap ((i:Int)+1)=(i:Int)+1:=by rw[IntWalk.i64_in _ (by have:=a7.o.2;have:=ai.o;omega)]
      obtain⟨RR,E⟩:=bz.o;have NX:=O (Zt (RR.aB (Zg Qb W9).drew) E.drew);clear RR E;go_wp2_with fail;go_roundw;case measure=>have:=ai.o;simp only[intOf];omega
      case rel=>exact⟨i+1,R',cj,_,by rw[<-Int.natCast_one,<-Int.natCast_add],ai.o,b1.o,NX.o.1,NX.o.2⟩
  .have ca:=ZN (show¬i<d.length by omega);have bm:i=d.length:=by omega
   have HX:=O (Zt U (Zt hc (show∀c,0<=c->c<64->u c=e.sched.qOf c from λc K h2=>by rw[z _ K h2,bm,List.drop_length];rfl)));clear U hc z bm hi Z;go_wp2_with fail;exact⟨_,R,us,u,rfl,rfl,rfl,rfl,HX.o⟩
theorem Q1n{wr}{cb n k:Nat}{aw:Int}{a7:Nat}{ax:Int->List Jr}(hl:¬200<n/\k<=n)(aj:Qc Qb W V)(hC:Qh V cb (Q1d rate aw a7) 24)(hS:GE V wr G b e)(am:V4 (33*k) e)(al:D6 e ax)(aq:e.rate=rate)(hR:RB V wr G R us pb (λc=>ax (c:Int)))
  {L:List Value} (h0:L.length=256) (h2:L[2]? =some (ZP cb)) (h5:L[5]? =some (ZP b)) (h7:L[7]? =some (ZP pb)):Qz2 7 W ⟨L.toArray,[]⟩ wr:=by
 have I:=O hl;have CV:=O aj;have az:=O hC;have S5:=O hS;have K:=O (Zt am (Zt trivial al));have RT:=O (Zt aq trivial);have R5:=O hR;unfold Qz2;have ac:e.sent.length<1099511627776/\e.alls.length<1099511627776:=by obtain⟨N,_,h⟩:=K.o.1.sok;have:=I.o;unfold Vi.alls;rw[List.length_append];cases e.aM<;>simp_all<;>omega
 have J:=O ac;have a0:Hi (Cl 14 #[ZP b] wr λr w'=>∃v',r=.returned v'/\Qxw w' v' e.sent/\Qc Qb wr w'/\∀k,v'.ownBlock=some k->wr.heap.size<=k):=O (by
  obtain⟨A,hA⟩:=S5.o.is;exact Qzz hA ac.1)
 have a1:Hi (∀w',Qc Qb wr w'->ZW 21 #[ZP b] w' (.tuple #[.agg (Qyz e.aM),.bool e.aM.isSome]) λa8=>Qc Qb w' a8):=O (λw' c=>by
  obtain⟨A,hA⟩:=(S5.o.aB c).is;exact Qzq hA)
 clear ac;clear hS am al aq hR aj hC hl;iterate 256 (obtain⟨_,_,rfl,h1⟩:=Qyx h0;clear h0;have h0:=h1;clear h1)
 obtain rfl:=List.eq_nil_of_length_eq_zero h0;obtain rfl:=Zs h2;obtain rfl:=Zs h5;obtain rfl:=Zs h7;clear h0 h2 h5 h7
 conv=>arg 2;whnf
 go_wp2_with fail;apply Zo a0;rintro r w4⟨v4,rfl,h4,c4,o4⟩;have U:=O (Zt h4 (Zt c4 o4));clear h4 c4 o4;obtain⟨a4,ba,ar,_⟩:=Own.row Qws U.o.1;have bb:=O ar;clear ar;go_wp2_with fail;refine(a1.o _ U.o.2.1).mono ?_;rintro r w6⟨rfl,c6⟩;have C6:=O (U.o.2.1.aA c6);obtain⟨W7,s7,a3,ai,Z⟩:=Q0a (S5.o.aB C6.o) e.aM;have C7:=O (C6.o.aA Z);have T7:Hi (Qxw W7 v4 e.sent):=O (U.o.1.aB (c6.aA Z) (λk _ h=>h));have B7:=O ai.1;have ag:(Qyz e.aM).size=8:=by cases e.aM<;>rfl
 obtain⟨un,ae⟩:=Zx (e.aM);have AL:Hi (e.alls=e.sent++un.toList):=O (by rw[ae];rfl);rw[<-ae]at s7 ag B7|-;obtain⟨sa,ab⟩:=Zx (Qyz un);rw[<-ab]at s7 ag B7|-;have a2:=O ab;clear c6 a3 ai Z ae ab;obtain⟨av,q⟩:=Zx (un.isSome);rw[<-q];have ah:=O q;clear q;go_upto_if 121 with fail;clear s7 ag;go_cut [14,16] (λay _ wz=>∃ga cap,ay=.slice ga e.alls.length cap/\Kb Qxe 8 wz ga e.alls/\(∀k,ay.ownBlock=some k->wr.heap.size<=k)/\Qc Qb wr wz)
 case first=>
  cases un with
  |none=> rw[show av=false from ah.o];go_wp2_with fail;go_meet;obtain⟨a5,d,af,_,_,aa⟩:=Own.row Qws T7.o;rw[AL.o,show(none:Option D7).toList=[]from rfl,List.append_nil];exact⟨a5,d,af,aa,U.o.2.2,C7.o⟩
  |some x=>
   rw[a2.o]at B7;have HL:Hi (W7.rangeAt w6.heap.size 0 (Qxe x)):=O (λj u hu=>by rw[Nat.zero_add];exact B7.o.at j (by simpa[Qyz,Qxe]using hu));obtain⟨W8,B⟩:=Zx (W7.alloc (.cells (Qxe x).toArray 51));have C8:Hi (Qc Qb W7 W8):=O (by rw[B];exact(Zg _ _).alloc _);obtain⟨v9,w9,ao,ak,c9,au⟩:=Qy7 sentT (P:=prog) 43 v4 e.sent (T7.o.aB C8.o (λk E h=>h)) (some ⟨W7.heap.size,0,none⟩) 1 [x] nofun
    (Q0n x (show Qh W8 W7.heap.size (Qxe x).toArray 51 by rw[B];exact Qh.new _ _ _)) (by have:=J.o.1;simp only[maxLen,List.length_singleton];omega) (by have:=J.o.1;simp only[List.length_singleton];omega)
   have r9:(Builtin.append_ #[43,43] 43 #[v4,.slice (some ⟨W7.heap.size,0,none⟩) 1 1]).run prog W8=.ok v9 w9:=ao;have FF:Hi (∃ga cap,v9=.slice ga e.alls.length cap/\Kb Qxe 8 w9 ga e.alls/\(∀k,v9.ownBlock=some k->wr.heap.size<=k)/\Qc Qb wr w9):=O (by
    obtain⟨a5,d,af,_,_,aa⟩:=Own.row Qws ak;rw[AL.o,show(some x).toList=[x]from rfl];have z:=(C7.o.aA C8.o).size;refine⟨a5,d,af,aa,λk E=>?_,(C7.o.aA C8.o).trans c9 λk E=>.inr (U.o.2.2 k E)⟩;rcases au with h|h;·exact U.o.2.2 k (h▸E)
    .rw[h]at E;injection E with E;omega)
   rw[B]at r9;have bc:(Qxe x).toArray.size=8:=rfl;have bd:(Qxe x).length=8:=rfl;clear B ao ak c9 au;rw[show av=true from ah.o];go_wp2_with (first|(with_reducible refine wpList_load_mid rfl 51 (.tmp 15) rfl w6.heap.size 0 rfl (Qxe x) _ HL.o underlying51 rfl (by kernel_rfl) ?_)|(at_builtin;refine Lib.wpList_append_run _ rfl (.tmp 122) (.tmp 124) 43 43 rfl _ _ rfl rfl _ _ r9 ?_));go_meet;exact FF.o
 case rest=> obtain⟨ga,a9,rfl,ap,an,hc⟩:=hcut;rename_i KX a6;exact a6 _ _ (Q1o I.o CV.o az.o (S5.o.aB hc) K.o.1 K.o.2.2 RT.o.1 (R5.o.aB hc) ap (λk E=>Nat.lt_of_lt_of_le R5.o.is.blk.1.lt (an k E)) J.o.2 rfl rfl rfl rfl rfl)
end
theorem Q0k(z:Nat)(B:Int)(I:Nat)(al:z<18446744073709551616)(b5:I<18446744073709551616)(l:List Yy)(a:Option Addr)(cap:Nat)(W)(hl:l.length<=maxLen)(hr:Kb Yy.cells 20 W a l)(hw:∀x∈l,x.wf):
  ZW 4 #[.agg (Q1d z B I),.slice a l.length cap] W (.bool true) λw'=>Qc Qb W w':=by
 obtain⟨W0,az⟩:=Zx (W.alloc (.cells (Q1d z B I) 24));have C0:Hi (Qc Qb W W0):=O (by rw[az];exact(Zg _ _).alloc _);have b9:Hi (Qh W0 W.heap.size (Q1d z B I) 24):=O (by rw[az];exact Qh.new _ _ _);have bt:=O az;have AW:=O (Qzs W0);have LG:=O (λw=>Q0j l.length a cap w);have ch:=O (λw(h:Qxy z B I≠0)=>Q0z z B I w h);have cg:=O (λw(h:Qxy z B I=0)=>Q0e z B I w h);clear az;by_cases ai:200<l.length;·rw[decide_eq_true ai]at LG;clear hr hw hl ai al b5;apply WH func4;go_wp2_with fail;rw[<-bt.o];apply ZF AW (λ_ c1=>C0.o.aA c1);intro w1 C1;go_wp2_with fail;apply Zz (LG.o w1);rintro w2 rfl;exact WD C1
 .rw[decide_eq_false ai]at LG;have HR:=O hr;have ce:=O hw;have ag:=O ai;clear hr hw hl ai al b5;apply WH func4;go_wp2_with fail;rw[<-bt.o];apply Zy AW;intro V c1;have CV:=O (C0.o.aA c1);have bp:=O (c1.blk b9.o (λh=>h));clear c1;go_wp2_with fail;apply Zz (LG.o V);rintro w2 rfl;have d0:=L6 bp.o;go_wp2_with fail;by_cases hE:Qxy z B I=0
  .refine(cg.o _ hE).mono ?_;rintro r w3⟨b,rfl,h3,c3⟩;have S4:=O ((GE.new h3 c3).aB (w':=w3.alloc (.cells (Qy5 λ_=>.slice none 0 0) 59)) ((Zg _ _).alloc _));have R4:Hi (RB V (w3.alloc (.cells (Qy5 λ_=>.slice none 0 0) 59)) (Qn Qb V w3) (λk=>k=w3.heap.size) (λ_=>.slice none 0 0) w3.heap.size λ_=>[]):=O ⟨Qyw.start w3,λk e=>by have:=c3.size;omega,λk e hk=>hk.elim (λh=>h) (λh=>by omega)⟩;have cj:=O (V4.new hE);have ci:=O (D6.new z B I);have RW:Hi ((Vi.new z B I).rate=z):=O (rfl);clear h3 c3 hE d0;generalize Qn Qb V w3=G3 at S4 R4;go_wp2_with fail;rename_i KX b0;have hX:∀(a:Act)(w),(∃(L:List Value)(k:Nat)(e:Vi)(G R:Fp)(us:Nat->Value)(J:Int->List Jr),a=⟨L.toArray,[]⟩/\L.length=256/\L[2]? =some (ZP W.heap.size)/\L[5]? =some (ZP b)/\L[7]? =some (ZP w3.heap.size)/\k<=l.length/\GE V w G b e/\V4 (33*k) e/\D6 e J/\e.rate=z/\RB V w G R us w3.heap.size (λc=>J (c:Int)))->KX a w:=λa w⟨L,k,e,G,R,us,J,e1,U,h2,h5,h7,hk,hS,a6,a5,al,hR⟩=>by subst e1;exact b0 _ w (Q1n ⟨ag.o,hk⟩ CV.o bp.o hS a6 a5 al hR U h2 h5 h7)
   clear b0;go_loopw [8,9,10,11,12,13] (λt8 _ _ _ _ _ wr=>∃(k:Nat)(e:Vi)(G R:Fp)(us:Nat->Value)(J:Int->List Jr),t8=ZI k/\k<=l.length/\GE V wr G b e/\V4 (33*k) e/\Fr e/\D6 e J/\e.rate=z/\(∀c,(J c).length<=k)/\RB V wr G R us w3.heap.size (λc=>J (c:Int))) (λt8 _ _ _ _ _ _=>l.length-(intOf t8).toNat);case atStart=>exact⟨0,_,_,_,_,_,rfl,Nat.zero_le _,S4.o,cj.o,Fr.new _ _ _,ci.o,RW.o,λ_=>Zv _,R4.o⟩
   case round=>
    obtain⟨k,e,G,R,us,J,rfl,hk,hG,a6,hu,a5,al,a7,hR⟩:=hrel;have S5:=O hG;have ae:=O (Zt a6 (Zt hu a5));have R5:=O hR;have RT:=O (Zt al a7);clear hG a6 hu a5 hR al a7;by_cases au:k<l.length
    .have hd:=ZT (show k<l.length by omega);obtain⟨g,o,rfl,hj⟩:=HR.o k au;have bl:=ce.o _ (List.getElem_mem au);generalize l[k]=d at hj bl;have HL:Hi (wr.rangeAt g (o+k*20) d.cells):=O (λj u hu=>(CV.o.aA S5.o.chg).same (hj j u hu));obtain⟨W6,s6,aj,c6⟩:=Q0 (P:=prog) (vs:=d.cells.toArray) (Qh.new wr Q1r 33) rfl (by simpa using Q0q d);obtain⟨q,hq⟩:∃q:Nat,q=(d.p.cls%64).toNat:=⟨_,rfl⟩;have a9:q<64:=by omega
     have m1:(IntKind.u64.wrap d.p.cls).tmod 64=(q:Int):=by have e:IntKind.u64.wrap d.p.cls=d.p.cls%18446744073709551616:=rfl;rw[e,Int.tmod_eq_emod_of_nonneg (by omega)];omega
     have m2:IntKind.i64.wrap (q:Int)=(q:Int):=IntWalk.i64_in _ (by omega);have ew:IntKind.i64.wrap ((k:Int)+1)=(k:Int)+1:=by rw[IntWalk.i64_in _ (by have:=ag.o;omega)]
     have i0:(0:Int)<=(k:Int):=by omega
     have i1:(k:Int)<(l.length:Int):=by omega
     have hz:(d.cells.toArray).size=20:=rfl;obtain⟨ac,bg⟩:=Zx (d.cells.toArray);rw[<-bg]at s6 hz;have ca:=O bg;have af:=O au;have HQ:=O (Zt a9 hq);have WF:=O bl;have C6:Hi (Qc Qb wr W6):=O (((Zg Qb wr).alloc _).trans c6 λk e=>.inr (by omega));obtain⟨W7,a0⟩:=Zx (W6.setCell ⟨wr.heap.size,16,none⟩ (ZI q));have B6:=O aj;have cq:W6.cell? ⟨wr.heap.size,16,none⟩=some (ZI d.p.cls):=aj.at 16 rfl;have yf:=aj.frozen 16;clear hj aj c6 bg bl hq au a9;go_wp2_with (with_reducible refine wpList_load_mid rfl 33 (.tmp 44) rfl g (o+k*20) rfl d.cells _ HL.o underlying33 rfl (by kernel_rfl) ?_;rw[<-ca.o]);rw[<-a0];have C7:=O (C6.o.trans (show Qc (λk=>k=wr.heap.size) W6 W7 from by rw[a0];exact(Zg (λk=>k=wr.heap.size) W6).setCell (a:=⟨wr.heap.size,16,none⟩) _ (.inl rfl)) λk e=>.inr (by omega));have S7:=O (S5.o.aB C7.o);have R7:=O (R5.o.aB C7.o);obtain⟨E,bi⟩:∃E:Yy,E={d with p:={d.p with cls:=(q:Int)}}:=⟨_,rfl⟩;have B7:Hi (Qh W7 wr.heap.size E.cells.toArray 33):=O (by rw[a0,bi];exact B6.o.set' 16 _ rfl);have NG:Hi (¬G wr.heap.size/\¬R wr.heap.size):=O (⟨λhk=>by have:=Qxn.obj.bd S5.o.is _ hk;omega,λhk=>by have:=(Qyw.good us w3.heap.size _).bd R5.o.is _ hk;omega⟩);have AV:Hi (E.wf/\E.kind=d.kind/\E.s=d.s/\E.p.cls=(q:Int)):=O (by rw[bi];exact⟨WF.o,rfl,rfl,rfl⟩);have cb:Hi (W7.rangeAt wr.heap.size 0 E.cells):=O (λj u hu=>by rw[Nat.zero_add];exact B7.o.at j (by simpa using hu));obtain⟨e',a3⟩:∃e',e'=e.does E.kind.toNat E.s E.p E.after:=⟨_,rfl⟩;obtain⟨er,a4⟩:=Zx (e.aY E.kind.toNat E.s E.p E.after);have HD:=O (Q0i S7.o.is ae.o.1 (by have:=ag.o;have:=af.o;omega) ae.o.2.1 E AV.o.1);have bs:Hi (ZW 13 #[ZP b] W7 (ZU e.now) λw'=>W7=w'):=O (by obtain⟨A,hA⟩:=S7.o.is;exact Qzo hA.blk.1);obtain⟨Z,bh⟩:∃Z:Jr,Z={E.p with at_:=(e.now:Int)}:=⟨_,rfl⟩;have AP:=O bh;have ah:Hi (V4 (33*(k+1)) e'/\Fr e'/\e'.rate=z/\(d.kind%7=3/\er=0->D6 e' (Qxs J Z))/\(¬(d.kind%7=3/\er=0)->D6 e' J)):=O (by
      have U:=AV.o.1.1;have hx:=ae.o.2.2.does ae.o.1 E.kind.toNat E.s E.p E.after (by rw[AV.o.2.2.2];have:=HQ.o.1;omega);have k1:=ae.o.1.does E.kind.toNat E.s E.p E.after;have k2:=ae.o.2.1.does ae.o.1 E.kind.toNat E.s E.p E.after;have k3:=(Q03 e E.kind.toNat E.s E.p E.after).trans RT.o.1;rw[<-a3]at hx k1 k2 k3;rw[<-a4,<-bh]at hx;rw[show 33*(k+1)=33*k+33 from by omega];have e7:=AV.o.2.1;exact⟨k1,k2,k3,λh=>by rwa[if_pos ⟨by omega,h.2⟩]at hx,λhn=>by rwa[if_neg (λhh=>hn ⟨by omega,hh.2⟩)]at hx⟩)
     have br:Hi (d.kind%7=2->er=0->e'.sched.many d.s.id=0):=O (λhk U=>by
      have:=AV.o.1.1;have b6:E.kind.toNat%7=2:=by have:=AV.o.2.1;omega
      have e1:e'=e.drop d.s.id:=by rw[a3];unfold Vi.does;rw[if_neg (by omega),if_neg (by omega),if_pos b6,AV.o.2.2.1]
      rw[e1];refine Qw3 (i:=d.s.id) ae.o.1 ?_;rw[a4]at U;unfold Vi.aY at U;rw[if_neg (by omega),if_neg (by omega),if_pos b6,AV.o.2.2.1]at U;exact U)
     rw[<-a3,<-a4]at HD;obtain⟨en,b4⟩:=Zx (e.now);rw[<-b4]at bs AP;clear a0 bi a3 a4 bh b4 cq yf m1 m2;apply Zo bs;rintro r w8⟨rfl,rfl⟩;go_wp2_with (with_reducible refine wpList_load_mid rfl 33 (.tmp 9) rfl wr.heap.size 0 rfl E.cells _ cb.o underlying33 rfl (by kernel_rfl) ?_);apply Zo HD;rintro r w8⟨rfl,h8,c8⟩;have S8:=O (S7.o.step h8 c8);have R8:=O (R7.o.step c8);have B8:=O (c8.blk B7.o NG.o.1);clear h8 c8;have aq:Hi (¬(Qn G W7 w8) wr.heap.size/\¬R wr.heap.size):=O (⟨λhk=>hk.elim NG.o.1 λe=>by have:=B7.o.lt;omega,NG.o.2⟩);generalize Qn G W7 w8=G8 at S8 R8 aq;have y0:w8.cell? ⟨wr.heap.size,0,none⟩=some (.int .u8 d.kind):=by rw[<-AV.o.2.1];exact B8.o.at 0 rfl
     have k0:=WF.o.1;have km:d.kind.tmod 7=d.kind%7:=Int.tmod_eq_emod_of_nonneg k0;obtain⟨ab,aw⟩:∃ab:Bool,ab=decide (d.kind%7=3/\er=0):=⟨_,rfl⟩;have an:=O aw;clear k0 aw;go_upto_region 16 with fail;go_cut [66] (λco wz=>co=.bool ab/\wz=w8)
     case first=>
      by_cases h3:d.kind%7=3
      .rw[h3]at km;by_cases U:er=0;·have e0:Hi (ab=true):=O (by rw[an.o];simp[h3,U]);have t1:=Q1f U;clear h3 U;go_wp2_with fail;go_meet;exact⟨by rw[e0.o],rfl⟩
       .have e0:Hi (ab=false):=O (by rw[an.o];simp[U]);have t1:=Q0f U;clear h3 U;go_wp2_with fail;go_meet;exact⟨by rw[e0.o],rfl⟩
      .obtain⟨t1,t2⟩:=Q0f (km▸h3);have e0:Hi (ab=false):=O (by rw[an.o];simp[h3]);clear h3 km;go_wp2_with fail;go_meet;exact⟨by rw[e0.o],rfl⟩
     case rest=>
      obtain⟨rfl,rfl⟩:=hcut;cases ab with
      |true=>
       have h3:d.kind%7=3/\er=0:=of_decide_eq_true an.o.symm;have ay:=O (ah.o.2.2.2.1 h3);rw[h3.1]at km;obtain⟨W9,a1⟩:=Zx (wc.setCell ⟨wr.heap.size,18,none⟩ (ZU en));have c9:Qc (λk=>k=wr.heap.size) wc W9:=by rw[a1];exact(Zg (λk=>k=wr.heap.size) wc).setCell (a:=⟨wr.heap.size,18,none⟩) _ (.inl rfl)
       have S9:=O (S8.o.at c9 (λk hk e=>aq.o.1 (e▸hk)) λk e=>by have:=S5.o.chg.size;omega);have R9:=O (R8.o.at c9 λk hk e=>aq.o.2 (e▸hk));obtain⟨a2,bf⟩:∃a2:Yy,a2={E with p:=Z}:=⟨_,rfl⟩;have B9:Hi (Qh W9 wr.heap.size a2.cells.toArray 33):=O (by rw[a1,bf,AP.o];exact B8.o.set' 18 _ rfl);have cp:wc.cell? ⟨wr.heap.size,18,none⟩=some (ZU E.p.at_):=B8.o.at 18 rfl;have xf:=B8.o.frozen 18;have A2:Hi (a2.kind=d.kind/\a2.p=Z/\Z.cls=(q:Int)/\Z.at_=(en:Int)):=O (by rw[bf,AP.o];exact⟨AV.o.2.1,rfl,AV.o.2.2.2,rfl⟩);have cd:=O a1;clear a1 c9 bf;go_upto_region 18 with fail;rw[<-cd.o];clear cp xf y0;go_cut [] (λwz=>(∃bm R',RB V wz G8 R' bm w3.heap.size (λc=>Qxs J Z (c:Int))/\GE V wz G8 b e')/\Qh wz wr.heap.size a2.cells.toArray 33)
       case first=>
        obtain⟨G2,hp,bz,nb,a8⟩:=R9.o.is.row HQ.o.1;have nh:¬G2 wr.heap.size:=λhk=>aq.o.2 (bz _ hk);have D9:Qc Qb W9 ((W9.alloc (.cells #[ZU Z.id,ZI q,ZI Z.len,ZU en] 31)).drew):=((Zg Qb W9).alloc _).drew;have b1:Qh ((W9.alloc (.cells #[ZU Z.id,ZI q,ZI Z.len,ZU en] 31)).drew) W9.heap.size #[ZU Z.id,ZI q,ZI Z.len,ZU en] 31:=(Qh.new W9 _ _).drew;obtain⟨v',w6,r6,p6,c6⟩:=hp.append (by have:=RT.o.2 (q:Int);have:=ag.o;have:=af.o;omega) Z _ D9 (a:=⟨W9.heap.size,0,none⟩) (c:=1) (λj u hu=>by
         rw[Addr.add_lit,Nat.zero_add,b1.cell];rw[show Z.cells=[ZU Z.id,ZI Z.cls,ZI Z.len,ZU Z.at_]from rfl,A2.o.2.2.1,A2.o.2.2.2]at hu;simpa using hu) 58
        obtain⟨ra,rc,hv,_⟩:=p6.row;generalize(J (q:Int)++[Z]).length=n6 at hv;subst hv;obtain⟨m1,m2⟩:=a8 _ _ _ p6 c6;rw[Q1q J A2.o.2.2.1]at m1;obtain⟨m3,m4⟩:=R9.o.put S9.o m1 m2;have bj:=R9.o.is.blk.1;have aj:=c6.blk bj nb;have FF:=O (Zt (Zt m3 m4) ((m2.sub (λk hk=>(.inl hk:R k\/False))).blk B9.o (λhk=>hk.elim aq.o.2 (λh=>h))));have C6:=O c6;obtain⟨v,hv⟩:=Zx (us q);have ak:=O (λ(wv)(c:Qc G2 W9 wv)=>(show wv.cell? ⟨wr.heap.size,16,none⟩=some (ZI q)/\wv.cell? ⟨w3.heap.size,q,none⟩=some v from⟨by rw[<-A2.o.2.2.1,<-A2.o.2.1];exact(c.blk B9.o nh).at 16 rfl,by rw[hv];exact(c.blk bj nb).at _ (Qy6 _ HQ.o.1)⟩));have D4:=O (Zg G2 W9).drew;have ar:=D4.o.blk B9.o nh;have x0:W9.drew.cell? ⟨wr.heap.size,15,none⟩=some (ZU Z.id):=by rw[<-A2.o.2.1];exact ar.at 15 rfl
        have x1:W9.drew.cell? ⟨wr.heap.size,16,none⟩=some (ZI q):=by rw[<-A2.o.2.2.1,<-A2.o.2.1];exact ar.at 16 rfl
        have x2:W9.drew.cell? ⟨wr.heap.size,17,none⟩=some (ZI Z.len):=by rw[<-A2.o.2.1];exact ar.at 17 rfl
        have x3:W9.drew.cell? ⟨wr.heap.size,18,none⟩=some (ZU en):=by rw[<-A2.o.2.2.2,<-A2.o.2.1];exact ar.at 18 rfl
        have y6:=aj.frozen q;obtain⟨u6,cr⟩:∃u,w6.cell? ⟨w3.heap.size,q,none⟩=some u:=⟨_,aj.at _ (Qy6 _ HQ.o.1)⟩;rw[<-hv]at r6;have q0:(0:Int)<=(q:Int):=by omega
        have q1:(q:Int)<64:=by have:=HQ.o.1;omega
        clear hp bz nb a8 nh D9 b1 p6 c6 m1 m2 m3 m4 bj aj ar hv;apply XC 30220011111111 G2 W9;iterate 2 (refine Qy (h:=?_);try simp only[Act.put,Za,Zc,Zb])
        iterate 1 (apply YK λwv hv=>ak.o wv hv)
        iterate 2 (refine Qy (h:=?_);try simp only[Act.put,Za,Zc,Zb])
        iterate 1 (apply YK λwv hv=>ak.o wv hv)
        (refine Qy (h:=?_);try simp only[Act.put,Za,Zc,Zb]);iterate 1 (apply YK λwv hv=>ak.o wv hv)
        apply YA 0;go_wp2_with fail;refine⟨D4.o.alloc _,?_⟩;clear x0 x1 x2 x3;refine Yb ?_;go_wp2_with (at_builtin;refine Lib.wpList_append_run _ rfl (.tmp 77) (.tmp 80) 58 58 rfl _ _ rfl rfl _ _ r6 ?_);clear r6;go_wp2_with fail;refine⟨C6.o,?_⟩;apply YI 0;go_wp2_with fail;go_meet;exact⟨⟨_,_,FF.o.1⟩,FF.o.2⟩
       case rest=>
        obtain⟨⟨bm,R',be,bd⟩,bc⟩:=hcut;obtain⟨V9,b2⟩:=Zx wc;rw[<-b2]at be bd bc|-;have y0:V9.cell? ⟨wr.heap.size,0,none⟩=some (.int .u8 d.kind):=by rw[<-A2.o.1];exact bc.at 0 rfl
        have RR:=O (Zt be bd);have LN:=O (Q1k RT.o.2 Z);have aa:=O (Zt ah.o.1 (Zt ah.o.2.1 ah.o.2.2.1));clear be bd bc b2 h3;go_wp2_with fail;go_roundw;case measure=>have:=af.o;simp only[intOf];omega
        case rel=>exact⟨k+1,e',G8,R',bm,_,by rw[<-Int.natCast_one,<-Int.natCast_add],af.o,RR.o.2,aa.o.1,aa.o.2.1,ay.o,aa.o.2.2,LN.o,RR.o.1⟩
      |false=>
       have ay:=O (ah.o.2.2.2.2 (λh=>by have:=an.o;simp[h]at this));obtain⟨K,ax⟩:=Zx (d.s.id);have ao:=O (λw'(c:Qc Qb wc w')=>(show w'.cell? ⟨wr.heap.size,1,none⟩=some (ZI K)from by rw[ax,<-AV.o.2.2.1];exact(c.blk B8.o (λh=>h)).at 1 rfl));have y1:=ao.o wc (Zg _ _);rw[<-ax]at br;obtain⟨dr,b3⟩:∃dr:Bool,dr=decide (d.kind%7=2/\er=0/\0<=K/\K<64):=⟨_,rfl⟩;have am:=O b3;have RR:=O (Zt R8.o S8.o);have LN:=O (λc=>Zp (RT.o.2 c) (Nat.le_succ k));have aa:=O (Zt ah.o.1 (Zt ah.o.2.1 ah.o.2.2.1));clear b3 ax;go_upto_region 19 with fail;go_cut [102] (λb7 wz=>b7=.bool dr/\wz=wc)
       case first=>
        by_cases h2:d.kind%7=2;case neg=> obtain⟨t1,t2⟩:=Q0f (km▸h2);have e0:Hi (dr=false):=O (by rw[am.o];simp[h2]);clear h2 km;go_wp2_with fail;go_meet;exact⟨by rw[e0.o],rfl⟩
        rw[h2]at km;by_cases U:er=0;case neg=> have t1:=Q0f U;have e0:Hi (dr=false):=O (by rw[am.o];simp[U]);clear U h2;go_wp2_with fail;go_meet;exact⟨by rw[e0.o],rfl⟩
        have t1:=Q1f U;by_cases h3:0<=K
        case neg=>
         have t3:decide (0<=K)=false:=by simpa using h3
         have e0:Hi (dr=false):=O (by rw[am.o];simp[h3]);clear U h2;go_wp2_with fail;go_meet;exact⟨by rw[e0.o],rfl⟩
        have t3:decide (0<=K)=true:=by simpa using h3
        by_cases h4:K<64
        .have t4:decide (K<64)=true:=by simpa using h4
         have e0:Hi (dr=true):=O (by rw[am.o];simp[U,h2,h3,h4]);clear U h2;go_wp2_with fail;go_meet;exact⟨by rw[e0.o],rfl⟩
        .have t4:decide (K<64)=false:=by simpa using h4
         have e0:Hi (dr=false):=O (by rw[am.o];simp[h4]);clear U h2;go_wp2_with fail;go_meet;exact⟨by rw[e0.o],rfl⟩
       case rest=>
        obtain⟨rfl,hw⟩:=hcut;subst hw;clear km y0;cases dr with
        |false=>
         clear y1;go_wp2_with fail;go_roundw;case measure=>have:=af.o;simp only[intOf];omega
         case rel=>exact⟨k+1,e',G8,R,us,_,by rw[<-Int.natCast_one,<-Int.natCast_add],af.o,RR.o.2,aa.o.1,aa.o.2.1,ay.o,aa.o.2.2,LN.o,RR.o.1⟩
        |true=>
         obtain⟨h2,U,_⟩:=of_decide_eq_true am.o.symm;have M0:=O (br.o h2 U);obtain⟨N,hN⟩:∃N,Xp N e'.sched/\N<549755813000:=by obtain⟨N,h1,h2⟩:=aa.o.1.sok;exact⟨N,h1,by have:=ag.o;have:=af.o;omega⟩
         have bu:Hi (∀w',Qc Qb wc w'->Cl 16 #[ZP b] w' λr bo=>∃p,r=.returned (ZP p)/\Qt bo (Qn Qb w' bo) p e'.sched/\Qc Qb w' bo):=O (λw' c=>by
          obtain⟨A,hA⟩:=(RR.o.2.aB c).is;exact Qzp hA hN.1 hN.2)
         have cc:=O hN;clear hN h2 U;go_upto_region 20 with fail;go_cut [12] (λcn wz=>cn=ZI 0/\Qc Qb wc wz)
         case first=>
          have D4:=O (Zg Qb wc).drew;have y1:=ao.o _ D4.o;apply YC [0,102,103,104,201,205,6,7,108,209,310] Qb wc;refine Xe (h:=?_);iterate 2 (refine Qy (h:=?_);try simp only[Act.put,Za,Zc,Zb])
          iterate 1 (apply YK λwv hv=>ao.o wv hv)
          refine Yb ?_;go_wp2_with fail;refine(bu.o _ D4.o).mono ?_;rintro r b8⟨p,rfl,hS,bv⟩;have bq:=O (D4.o.aA bv);have cf:Hi (ZW 20 #[ZP p,ZI K] b8 (.tuple #[ZI 0,ZI (e'.sched.bytes K)]) λw'=>Qc Qb b8 w'):=O (by
           obtain⟨A,hA⟩:=hS;rw[<-M0.o];exact Dn hA cc.o.1 K)
          clear hS bv;go_wp2_with fail;refine⟨bq.o,?_⟩;refine Yb ?_;go_wp2_with fail;apply Zo cf;rintro r ct⟨rfl,bw⟩;have ba:=O (bq.o.aA bw);clear bw;generalize e'.sched.bytes K=bb;go_wp2_with fail;refine⟨ba.o,?_⟩;apply YA 0;go_wp2_with fail;refine⟨ba.o,?_⟩;apply YI 0;go_wp2_with fail;go_meet;exact⟨rfl,ba.o⟩
         case rest=>
          obtain⟨rfl,bk⟩:=hcut;have R9:=O (Zt (RR.o.1.aB bk) (RR.o.2.aB bk));clear bk y1;go_wp2_with fail;go_roundw;case measure=>have:=af.o;simp only[intOf];omega
          case rel=>exact⟨k+1,e',G8,R,us,_,by rw[<-Int.natCast_one,<-Int.natCast_add],af.o,R9.o.2,aa.o.1,aa.o.2.1,ay.o,aa.o.2.2,LN.o,R9.o.1⟩
    .have hd:=ZN (show¬k<l.length by omega);have HX:=O (Zt hk (Zt S5.o (Zt ae.o.1 (Zt ae.o.2.2 (Zt RT.o.1 R5.o)))));clear hk au;go_wp2_with fail;exact⟨_,k,e,G,R,us,J,rfl,rfl,rfl,rfl,rfl,HX.o⟩
  .refine(ch.o _ hE).mono ?_;rintro r w3⟨rfl,c3⟩;have C3:=O (CV.o.aA c3);have hz:(Qxy z B I==0)=false:=by simp[hE]
   have cl:decide (Qxy z B I=0)=false:=by simp[hE]
   have cm:(Qxy z B I != 0)=true:=by simp[hE]
   clear c3 hE;generalize Qxy z B I=er at hz cl cm|-;exact WD C3
theorem Uv{n:Int}(h:(Lit.int .u64 n).wf=true):∃k:Nat,n=(k:Int)/\k<18446744073709551616:=by
 refine⟨n.toNat,?_⟩;simp[Lit.wf]at h;have c:IntKind.u64.min=0:=by kernel_rfl
 have d:IntKind.u64.max=18446744073709551615:=by kernel_rfl
 omega
theorem Qum{n:Int}(h:(Lit.int .u8 n).wf=true):0<=n/\n<256:=by
 simp[Lit.wf]at h;have c:IntKind.u8.min=0:=by kernel_rfl
 have d:IntKind.u8.max=255:=by kernel_rfl
 omega
def Al:List (Option IntKind):=[some .u8,some .i64,some .i64,none,some .u64,some .u64,some .u64,some .u64,some .u64,some .u64,some .u64,some .u64,some .u64,some .i64,some .i64,some .u64,some .i64,some .i64,some .u64,some .u64]
theorem Yy.of_fits{x:List Value}(h:O2 Al x):∃a:Yy,x=a.cells/\a.wf:=by unfold Al at h;obtain⟨k,y0,rfl,wk,h1⟩:=h.int1;obtain⟨v0,y1,rfl,_,h2⟩:=h1.int1;obtain⟨v1,y2,rfl,_,h3⟩:=h2.int1;obtain⟨v2,y3,rfl,h4⟩:=h3.bool1;obtain⟨u4,y4,rfl,w4,h5⟩:=h4.int1;obtain⟨v3,rfl,_⟩:=Uv w4;clear w4;obtain⟨u5,y5,rfl,w5,h6⟩:=h5.int1;obtain⟨v4,rfl,_⟩:=Uv w5;clear w5;obtain⟨u6,y6,rfl,w6,h7⟩:=h6.int1;obtain⟨v5,rfl,_⟩:=Uv w6;clear w6;obtain⟨u7,y7,rfl,w7,h8⟩:=h7.int1;obtain⟨v6,rfl,_⟩:=Uv w7;clear w7;obtain⟨u8,y8,rfl,w8,h9⟩:=h8.int1;obtain⟨v7,rfl,_⟩:=Uv w8;clear w8;obtain⟨u9,y9,rfl,w9,z⟩:=h9.int1;obtain⟨v8,rfl,_⟩:=Uv w9;clear w9;obtain⟨u10,ac,rfl,c,B⟩:=z.int1;obtain⟨v9,rfl,_⟩:=Uv c;clear c;obtain⟨u11,ae,rfl,d,E⟩:=B.int1;obtain⟨v10,rfl,_⟩:=Uv d;clear d;obtain⟨u12,af,rfl,q,I⟩:=E.int1;obtain⟨v11,rfl,_⟩:=Uv q;clear q;obtain⟨v12,ag,rfl,_,J⟩:=I.int1;obtain⟨v13,ah,rfl,_,K⟩:=J.int1;obtain⟨p0,ai,rfl,_,R⟩:=K.int1;obtain⟨p1,aj,rfl,_,U⟩:=R.int1;obtain⟨p2,ak,rfl,_,V⟩:=U.int1;obtain⟨p3,al,rfl,_,Z⟩:=V.int1;obtain⟨u19,am,rfl,u,aa⟩:=Z.int1;obtain⟨va,rfl,ab⟩:=Uv u;clear u;have hz:=aa.nil0;subst hz;exact⟨⟨k,⟨v0,v1,v2,⟨v3,v4,v5⟩,⟨v6,v7,v8⟩,⟨v9,v10,v11⟩,v12,v13⟩,⟨p0,p1,p2,p3⟩,va⟩,rfl,(Qum wk).1,(Qum wk).2,ab⟩
theorem own:ownKnob prog.godebug=none:=by kernel_rfl
def Qzl:List (Option IntKind):=[some .u64,some .i64,some .u64]
theorem Q0b{x:List Value}(h:O2 Qzl x):∃(c:Nat)(k:Int)(d:Nat),x.toArray=#[ZU c,ZI k,ZU d]/\c<18446744073709551616/\d<18446744073709551616:=by unfold Qzl at h;obtain⟨u0,I,rfl,w0,z⟩:=h.int1;obtain⟨u1,J,rfl,_,B⟩:=z.int1;obtain⟨u2,K,rfl,w2,E⟩:=B.int1;have:=E.nil0;subst this;obtain⟨v0,rfl,q⟩:=Uv w0;obtain⟨v2,rfl,u⟩:=Uv w2;exact⟨v0,u1,v2,rfl,q,u⟩
theorem Q12:O9 prog 5 24=some Qzl:=by kernel_rfl
theorem Q1t:O9 prog 5 33=some Al:=by kernel_rfl
end Go.Proofs.YtigcnnkagkbflaaGreat
