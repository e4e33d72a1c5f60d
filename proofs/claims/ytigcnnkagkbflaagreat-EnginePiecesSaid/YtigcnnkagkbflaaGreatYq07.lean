/- A part of the proof: no condition. -/
import Derived.Test.YtigcnnkagkbflaaGreatYq04
import Derived.Test.YtigcnnkagkbflaaGreatYq05
import Derived.Laws.EntriesVeiled
import Derived.Test.YtigcnnkagkbflaaGreatYq06
import Derived.Shelf.SlMaps.Clone
namespace Go.Proofs.YtigcnnkagkbflaaGreat
set_option linter.unusedVariables false
set_option maxRecDepth 100000
set_option maxHeartbeats 4000000
open Go.RowKit
open Go.Proofs.Tryz
attribute [local go_sem] Qp
inductive Fl:Tr->Tr->Prop
 |no (x:Nd) (c:Bool) (l r:Tr):(l.red||l.left.red)=true->Fl (.aD x c l r) (.aD x c l r)
 |A (x y z:Nd) (yl yr zl zr:Tr):yl.red=false->zl.red=false->Fl (.aD x true (.aD y false yl yr) (.aD z false zl zr)) (.aD x false (.aD y true yl yr) (.aD z true zl zr))
 |B (x y z u:Nd) (yl yr ul ur zr:Tr):yl.red=false->Fl (.aD x true (.aD y false yl yr) (.aD z false (.aD u true ul ur) zr)) (.aD (u.re (mk x true (.aD y true yl yr) ul) (mk z true ur zr)) true (mk x false (.aD y true yl yr) ul) (mk z false ur zr))
theorem Fl.aC{t c:Tr}(h:Fl t c):c.aC=t.aC:=by
 cases h with
 |no=>rfl
 |A=>simp[Tr.aC]
 |B=>simp[Tr.aC,mk,Nd.re]
theorem Tf{w}{b:Nat}{x:Nd}{c:Bool}{l r d:Tr}(K:Fl (.aD x c l r) d)(q:(l.red||l.left.red)=false)(E:Kc w b (.aD x c l r)):
  ZW 267 #[ptr b,ptr x.a] w d.aH λw'=>Kc w' b d/\Qc (λk=>k∈(Tr.aD x c l r).aC) w w':=by
 cases K with
 |no _ _ _ _ h=>rw[h]at q;cases q
 |A _ y z R U zl V I J=>exact Qk9 E J
 |B _ y z u R U Z ur V I=>exact Qla E
inductive Bu:Tr->Tr->Prop
 |no (x:Nd) (c:Bool) (l r:Tr):l.red=false->Bu (.aD x c l r) (.aD x c l r)
 |up (x y:Nd) (c:Bool) (yl yr r:Tr):Bu (.aD x c (.aD y true yl yr) r) (.aD (y.re yl (mk x true yr r)) c yl (mk x true yr r))
inductive Tq:Tr->Tr->Prop
 |no (x:Nd) (c:Bool) (l r:Tr):(r.red||r.left.red)=true->Tq (.aD x c l r) (.aD x c l r)
 |A (x y z:Nd) (yl yr zl zr:Tr):yl.red=false->zl.red=false->Tq (.aD x true (.aD y false yl yr) (.aD z false zl zr)) (.aD x false (.aD y true yl yr) (.aD z true zl zr))
 |B (x y z u:Nd) (ul ur yr zl zr:Tr):zl.red=false->Tq (.aD x true (.aD y false (.aD u true ul ur) yr) (.aD z false zl zr)) (.aD (y.re (.aD u true ul ur) (mk x true yr (.aD z true zl zr))) true (.aD u false ul ur) (mk x false yr (.aD z true zl zr)))
theorem Bu.aC{t c:Tr}(h:Bu t c):c.aC=t.aC:=by
 cases h with
 |no=>rfl
 |up=>simp[Tr.aC,mk,Nd.re]
theorem Tq.aC{t c:Tr}(h:Tq t c):c.aC=t.aC:=by
 cases h with
 |no=>rfl
 |A=>simp[Tr.aC]
 |B=>simp[Tr.aC,mk,Nd.re]
theorem Qh6{w}{b:Nat}{x:Nd}{c:Bool}{l r q:Tr}(u:Bu (.aD x c l r) q)(d:l.red=true)(z:Kc w b (.aD x c l r)):
  ZW 269 #[ptr b,ptr x.a] w q.aH λw'=>Kc w' b q/\Qc (λk=>k∈(Tr.aD x c l r).aC) w w':=by
 have h:=Qds z d;cases u with
 |no _ _ _ _ h=>rw[h]at d;cases d
 |up _ y _ B E _=>exact h
theorem Qat{w}{b:Nat}{x:Nd}{c:Bool}{l r d:Tr}(J:Tq (.aD x c l r) d)(E:(r.red||r.left.red)=false)(I:Kc w b (.aD x c l r)):
  ZW 270 #[ptr b,ptr x.a] w d.aH λw'=>Kc w' b d/\Qc (λk=>k∈(Tr.aD x c l r).aC) w w':=by
 cases J with
 |no _ _ _ _ h=>rw[h]at E;cases E
 |A _ y z yl K R U q V=>exact Qh4 I q
 |B _ y z u Z ur K R U q=>exact Qh5 I
theorem Iq{w}{b:Nat}{x:Nd}{c:Bool}{r:Tr}(k:Kc w b (.aD x c .nil r)):
  ZW 271 #[ptr b,ptr x.a] w (.pointer none) λw'=>w=w':=by
 obtain⟨u,z,B,E,I,J,q,K⟩:=Ja k.at'.1;have d:Tr.nil.aH=.pointer none:=rfl;rw[d]at q;clear k d;apply WH func271;exact WE
theorem Lu{w}{b:Nat}{x x1 y:Nd}{c c1 E:Bool}{d J r Z r1 l':Tr}(hs:Kc w b (.aD x c (.aD y E d J) r))(hp:Fl (.aD x c (.aD y E d J) r) (.aD x1 c1 Z r1))(V:∀k,k∈l'.aC->k∈Z.aC)
  (ih:∀w',Kc w' b Z->ZW 271 #[ptr b,Z.aH] w' l'.aH λw2=>Kc w2 b l'/\Qc (λk=>k∈Z.aC) w' w2):
  Cl 271 #[ptr b,ptr x.a] w λe w'=>e=.returned (Gs (.aD x1 c1 l' r1)).aH/\Kc w' b (Gs (.aD x1 c1 l' r1))/\Qc (λk=>k∈(Tr.aD x c (.aD y E d J) r).aC) w w':=by
 have HL:=O (Kf _ hs.at'.2.1);have ag:=O (Kf d hs.at'.2.1.2.1);have hX:=hs.at'.1;have hY:=hs.at'.2.1.1;have H0:=O hs;have HP:=O hp;have af:=O hp.aC;have IH:=O ih;have K:=O V;obtain⟨a0,a1,a2,a3,a4,a5,a6,a7⟩:=Ja hX;have b0:=Ja hY;have aj:(Tr.aD y E d J).aH=ZP y.a:=rfl;have ak:(Tr.aD y E d J).red=E:=rfl;rw[aj]at a6 HL;rw[ak]at HL;clear hs hX hY hp aj ak ih V;apply WH func271;go_upto_region 3 with fail;go_cut [26] (λao wz=>ao=.bool (!(E||d.red))/\wz=w)
 case first=>
  cases hc:E<;>cases hl:d.red;all_goals rw[hc]at HL
  all_goals rw[hl]at ag
  all_goals
   go_wp2_with fail;apply Zy HL;rintro w1 rfl;go_wp2_with fail;try
    apply Zy ag;rintro w1 rfl;go_wp2_with fail
   go_meet;exact⟨by rw[hc,hl];rfl,rfl⟩
 case rest=>
  obtain⟨rfl,am⟩:=hcut;rw[am];clear am wc a0 a1 a2 a3 a4 a5 a6 a7 b0;go_upto_if 26 with fail;go_cut [1] (λv1 wz=>v1=ZP x1.a/\Kc wz b (.aD x1 c1 Z r1)/\Qc (λk=>k∈(Tr.aD x c (.aD y E d J) r).aC) w wz)
  case first=>
   cases U:(E||d.red);·have HC:=O (Tf HP.o U H0.o);unfold ptr at HC;clear U;go_wp2_with fail;apply ZQ HC;intro w1 I1;go_wp2_with fail;go_meet;exact⟨rfl,I1.o⟩
   .have hh:=HP.o;cases hh with
    |A _ y z d J zl zr h1 h2=>simp[h1]at U
    |B _ y z u d J ul ur zr h1=>simp[h1]at U
    |no _ _ _ _ h=> clear h U;go_wp2_with fail;go_meet;exact⟨rfl,H0.o,Zg _ _⟩
  case rest=>
   obtain⟨rfl,I,aa⟩:=hcut;obtain⟨w1,al⟩:=Zx wc;rw[<-al]at I aa|-;have I1:=O I;have C1:=O aa;have hX:=I.at'.1;obtain⟨a0,a1,a2,a3,a4,a5,a6,a7⟩:=Ja hX;have ac:=IH.o _ I.left;have ah:=I.nd;simp only[Tr.aC,List.nodup_cons,Zl,Zu,not_or,List.nodup_append]at ah;have an:=O (show x1.a∉Z.aC by grind);obtain⟨pl,ai⟩:=Z.aS;rw[ai]at a6 ac;clear al ah I aa hX ai;go_wp2_with fail;apply Zz ac;rintro w6⟨i6,c6⟩;have B6:=c6.blk I1.o.at'.1 an.o;clear a0 a1 a2 a3 a4 a5 a6 a7 ac;have a0:=Ja B6;have f6:=B6.frozen;have FX:=O (λw7(e:w7=w6.setCell ⟨x1.a,6,none⟩ l'.aH)=>I1.o.setL i6 c6 (λ_ h=>h) (λk R=>.inl (K.o k R)) e);obtain⟨q,U⟩:=l'.aS;rw[U]at FX|-;clear i6 c6 B6 U;go_wp2_with fail;obtain⟨w7,ab⟩:=Zx (w6.setCell ⟨x1.a,6,none⟩ (.pointer q));rw[<-ab];obtain⟨i7,c7⟩:=FX.o _ ab;have hb:=Ek i7;unfold ptr at hb;clear ab a0 f6;apply Zz hb;rintro w8⟨i8,c8⟩;have ae:Qc (λk=>k∈(Tr.aD x c (.aD y E d J) r).aC) w w8:=by
    rw[af.o]at c7;refine(C1.o.aA c7).aA (c8.sub λk R=>?_);rw[<-af.o];simp only[Tr.aC,Zl,Zu]at R|-;rcases R with R|rfl|R;·exact .inl (K.o _ R)
    .exact .inr (.inl rfl)
    .exact .inr (.inr R)
   have HF:=O ae;have HI:=O i8;clear i8 c8 ae i7 c7 hb;go_wp2;go_ret;exact⟨rfl,HI.o,HF.o⟩
theorem Rk{b:Nat}{t R:Tr}(d:DropFirst t R):∀{w}(q:Kc w b t),ZW 271 #[ptr b,t.aH] w R.aH λw'=>Kc w' b R/\Qc (λk=>k∈t.aC) w w':=by
 induction d with
 |last x c r=> intro w q;apply Zz (Iq q);rintro w' rfl;exact⟨rfl,⟨q.top,by have:=q.nd;simp[Tr.aC],trivial⟩,Zg _ _⟩
 |stay x c l r Z V d E=>
  intro w q;cases l with
  |nil=>simp[Tr.red,Tr.left]at V
  |aD y cy I J=>exact Lu q (.no x c _ r V) (λk B=>(Kh d).subset B) λw' h=>E h
 |turnA x y z I J zl U Z K h2 d E=>exact λq=>Lu q (.A x y z I J zl U K h2) (λk B=>(Kh d).subset B) λw' h=>E h
 |turnB x y z u I J ul ur U Z K d E=>exact λq=>Lu q (.B x y z u I J ul ur U K) (λk B=>(Kh d).subset B) λw' h=>E h
theorem Qff{w}{b:Nat}{x x1 y:Nd}{c c1 E:Bool}{d R r l1 r1 l':Tr}(n:Nat)(i:Int)(Xg:lt n i x=true)(hs:Kc w b (.aD x c (.aD y E d R) r))(hp:Fl (.aD x c (.aD y E d R) r) (.aD x1 c1 l1 r1))(aa:∀k,k∈l'.aC->k∈l1.aC)
  (ih:∀w',Kc w' b l1->ZW 258 #[ptr b,l1.aH,Yo n i] w' l'.aH λw2=>Kc w2 b l'/\Qc (λk=>k∈l1.aC) w' w2):
  Cl 258 #[ptr b,ptr x.a,Yo n i] w λe w'=>e=.returned (Gs (.aD x1 c1 l' r1)).aH/\Kc w' b (Gs (.aD x1 c1 l' r1))/\Qc (λk=>k∈(Tr.aD x c (.aD y E d R) r).aC) w w':=by
 obtain⟨k,I⟩:=Zx (w.heap.size);have K0:=O (Qh.new w #[ZU n,ZI i] 199);have C0:=O ((Zg Qb w).alloc (.cells #[ZU n,ZI i] 199));have HS:=O (λw'(hc:Qc Qb w w')=>hs.aB hc (λ_ _ h=>h));have J:=O (λw=>Gu n i x w);rw[Xg]at J;have HP:=O hp;have ag:=O hp.aC;have IH:=O ih;have V:=O aa;have ai:=Jw.lt _ hs.at';have ap:Hi (∀a∈(Tr.aD x c (.aD y E d R) r).aC,a≠k):=O (λa ha e=>by have:=ai a ha;omega);simp only[<-I]at K0;have ak:(Tr.aD y E d R).aH=ZP y.a:=rfl;have al:(Tr.aD y E d R).red=E:=rfl;have ar:=O ak;have au:=O al;unfold ptr Yo at*;clear hs hp ih Xg ai aa ak al;apply WH func258;go_wp2_with fail;rw[<-I];obtain⟨W,hW⟩:=Zx (w.alloc (.cells #[ZU n,ZI i] 199));rw[<-hW]at K0 C0|-;clear hW I;have S0:=HS.o _ C0.o;have E1:=λx=>Q4 (Qk (S:=Qb) K0.o (λh=>h) x);have E2:=λx=>Ja (Qk (S:=Qb) S0.at'.1 (λh=>h) x);clear S0;refine ZE [] [0,1,2,3,4] [5] [] (Qb) W ?_;simp only[pick,Zf,Ze,Zd];refine Qg ?_;iterate 5 (refine Ql (λK hK=>?_);go_simp;refine hK _ ?_;clear hK K)
 refine Qg ?_;intro _ aw;obtain⟨xo,am⟩:=aw;subst am;simp only[Jd];have c3:=O (Qv Qb W xo);generalize Qz Qb W xo=w3 at c3|-;clear E1 E2;go_wp2_with fail;apply Z9 (J.o _) (λ_ d4=>c3.o.aA d4);intro w4 c4;go_wp2;refine⟨Qd c4.o,?_⟩;go_upto_region 2 with fail;have K4:=O (c4.o.blk K0.o (λh=>h));have C4:=O (C0.o.aA c4.o);have S4:=O (HS.o _ C4.o);go_cut [30] (λax wz=>ax=.bool (!(E||d.red))/\wz=w4)
 case first=>
  have HL:=O (Kf _ S4.o.at'.2.1);have ah:=O (Kf d S4.o.at'.2.1.2.1);obtain⟨a0,a1,a2,a3,a4,a5,a6,a7⟩:=Ja S4.o.at'.1;have b0:=Ja S4.o.at'.2.1.1;rw[ar.o]at a6 HL;rw[au.o]at HL;cases hc:E<;>cases hl:d.red;all_goals rw[hc]at HL
  all_goals rw[hl]at ah
  all_goals
   go_wp2_with fail;apply Zy HL;rintro w1 rfl;go_wp2_with fail;try
    apply Zy ah;rintro w1 rfl;go_wp2_with fail
   go_meet;exact⟨by rw[hc,hl];rfl,rfl⟩
 case rest=>
  obtain⟨rfl,ao⟩:=hcut;rw[ao];clear ao wc;go_upto_if 30 with fail;go_cut [1] (λv1 wz=>v1=ZP x1.a/\Kc wz b (.aD x1 c1 l1 r1)/\Qc (λk=>k∈(Tr.aD x c (.aD y E d R) r).aC) w4 wz)
  case first=>
   cases Z:(E||d.red);·have HC:=O (Tf HP.o Z S4.o);unfold ptr at HC;clear Z;go_wp2_with fail;apply ZQ HC;intro w1 I1;go_wp2_with fail;go_meet;exact⟨rfl,I1.o⟩
   .have hh:=HP.o;cases hh with
    |A _ y z d R zl zr h1 h2=>simp[h1]at Z
    |B _ y z u d R ul ur zr h1=>simp[h1]at Z
    |no _ _ _ _ h=> clear h Z;go_wp2_with fail;go_meet;exact⟨rfl,S4.o,Zg _ _⟩
  case rest=>
   obtain⟨rfl,i1,U⟩:=hcut;obtain⟨w1,an⟩:=Zx wc;rw[<-an]at i1 U|-;have K1:=O (U.blk K4.o (λh=>ap.o _ h rfl));have I1:=O i1;have C1:=O (C4.o.none.aA U);have aj:=i1.nd;simp only[Tr.aC,List.nodup_cons,Zl,Zu,not_or,List.nodup_append]at aj;have av:=O (show x1.a∉l1.aC by grind);obtain⟨pl,ab⟩:=l1.aS;have aq:=O ab;have k0:=Q4 K1.o.drew;have E2:=Ja I1.o.at'.1.drew;rw[ab]at E2;have y0:=E2;clear an aj i1 U ab;go_wp2_with fail;apply XC 30020000001 (λ_=>True) w1;(refine Qy (h:=?_);try simp only[Act.put,Za,Zc,Zb]);iterate 6 (refine Xe (h:=?_))
   clear k0 y0;have C5:=O (C1.o.aA (Zg Qb w1).drew.none);have I5:=O (I1.o.aB (Zg Qb w1).drew (λ_ _ h=>h));have ae:=IH.o _ I5.o.left;rw[aq.o]at ae;refine Yb ?_;go_wp2_with fail;apply Zz ae;rintro w6⟨i6,c6⟩;have z6:=O ((Zg (λ_=>True) w1).drew.trans c6 λk _=>.inl trivial);have B6:=c6.blk I5.o.at'.1 av.o;have a0:=Ja B6;have f6:=B6.frozen;have FX:=O (λw7(e:w7=w6.setCell ⟨x1.a,6,none⟩ l'.aH)=>I5.o.setL i6 c6 (λ_ h=>h) (λk I=>.inl (V.o k I)) e);obtain⟨q,Z⟩:=l'.aS;rw[Z]at FX|-;clear i6 c6 B6 Z ae;go_wp2_with fail;refine⟨z6.o,?_⟩;apply YI 0;go_wp2_with fail;obtain⟨w7,ac⟩:=Zx (w6.setCell ⟨x1.a,6,none⟩ (.pointer q));rw[<-ac];obtain⟨i7,c7⟩:=FX.o _ ac;have hb:=Ek i7;unfold ptr at hb;clear ac a0 f6;apply Zz hb;rintro w8⟨i8,c8⟩;have af:Qc (λk=>k∈(Tr.aD x c (.aD y E d R) r).aC) w w8:=by
    rw[ag.o]at c7;refine(C5.o.aA c7).aA (c8.sub λk I=>?_);rw[<-ag.o];simp only[Tr.aC,Zl,Zu]at I|-;rcases I with I|rfl|I;·exact .inl (V.o _ I)
    .exact .inr (.inl rfl)
    .exact .inr (.inr I)
   have HF:=O af;have HI:=O i8;clear i8 c8 af i7 c7 hb;go_wp2;go_ret;exact⟨rfl,HI.o,HF.o⟩
section
theorem Qg0:prog.eqGuardType prog.depth 199=false:=by kernel_rfl
theorem Qqg:prog.stoodInHeld 199=false:=by kernel_rfl
section
attribute [local go_sem] Qg0 Qqg
theorem Vw(a b c d:Int)(w):(binOp .eql 199 (.agg #[ZU a,ZI b]) (.agg #[ZU c,ZI d])).run prog w=.ok (.bool ((a==c)&&(b==d))) w:=by
 by_cases h:a=c
 .by_cases k:b=d;·subst h k;go_simp
  .subst h;have e:(a==a&&b==d)=false:=by simpa using k
   rw[e];go_simp;try simp[k]
 .have e:(a==c&&b==d)=false:=by simp[h]
  rw[e];go_simp;try simp[h]
theorem Vx(a b c d:Int)(w):(binOp .neq 199 (.agg #[ZU a,ZI b]) (.agg #[ZU c,ZI d])).run prog w=.ok (.bool (!((a==c)&&(b==d)))) w:=by
 by_cases h:a=c
 .by_cases k:b=d;·subst h k;go_simp
  .subst h;have e:(a==a&&b==d)=false:=by simpa using k
   rw[e];go_simp;try simp[k]
 .have e:(a==c&&b==d)=false:=by simp[h]
  rw[e];go_simp;try simp[h]
end
attribute [local go_sem ↓] Vw Vx
theorem Qhm{x:Nd}{n:Nat}{i:Int}(h:¬(x.n=n/\x.i=i)):(((x.n:Int)==(n:Int))&&(x.i==i))=false:=by
 cases c:(((x.n:Int)==(n:Int))&&(x.i==i))with
 |false=>rfl
 |true=> simp only[Zw,beq_iff_eq]at c;exact absurd ⟨by omega,c.2⟩ h
theorem Cf{x:Nd}{n:Nat}{i:Int}(h:x.n=n/\x.i=i):(((x.n:Int)==(n:Int))&&(x.i==i))=true:=by obtain⟨rfl,rfl⟩:=h;simp
theorem Kc.take{w w1 w2}{b:Nat}{x:Nd}{c:Bool}{l r:Tr}{e:Nat×Int×Nat}(d:Kc w b (.aD x c l r))(z:Qc Qb w w1)
  (B:w2=((w1.setCell ⟨x.a,0,none⟩ (ZU e.1)).setCell ⟨x.a,1,none⟩ (ZI e.2.1)).setCell ⟨x.a,2,none⟩ (ZU e.2.2)):
  Kc w2 b (.aD (x.as e) c l r)/\Qc (λk=>k∈(Tr.aD x c l r).aC) w w2:=by
 subst B;have q:Qc (λk=>k=x.a) w (((w1.setCell ⟨x.a,0,none⟩ (ZU e.1)).setCell ⟨x.a,1,none⟩ (ZI e.2.1)).setCell ⟨x.a,2,none⟩ (ZU e.2.2)):=(((z.none (F:=λk=>k=x.a)).setCell (a:=⟨x.a,0,none⟩) _ (.inl rfl)).setCell (a:=⟨x.a,1,none⟩) _ (.inl rfl)).setCell (a:=⟨x.a,2,none⟩) _ (.inl rfl);have u:=d.nd;simp only[Tr.aC,List.nodup_cons,Zl,Zu,not_or,List.nodup_append]at u;refine⟨⟨d.top.aB q (by grind),d.nd,(((z.blk d.at'.1 (λh=>h)).set' 0 _ rfl).set' 1 _ rfl).set' 2 _ rfl,Jw.aB q l d.at'.2.1 (by grind),Jw.aB q r d.at'.2.2 (by grind)⟩,q.sub ?_⟩;rintro k rfl;simp[Tr.aC]
theorem Qk8{w}{b:Nat}{x:Nd}{c:Bool}{l:Tr}(n:Nat)(i:Int)(Xg:lt n i x=false)(hl:l.red=false)(hx:x.n=n/\x.i=i)(hs:Kc w b (.aD x c l .nil)):
  ZW 258 #[ptr b,ptr x.a,Yo n i] w (.pointer none) λw'=>Qc Qb w w':=by
 obtain⟨k,hk⟩:=Zx (w.heap.size);have R:=O (Qh.new w #[ZU n,ZI i] 199);have U:=O ((Zg Qb w).alloc (.cells #[ZU n,ZI i] 199));have HS:=O (λw'(hc:Qc Qb w w')=>hs.aB hc (λ_ _ h=>h));have d:=O (λw=>Gu n i x w);rw[Xg]at d;have B:=Jw.lt _ hs.at';have Z:=O (Cf hx);have aa:=O hl;have ae:Hi (∀a∈(Tr.aD x c l .nil).aC,a≠k):=O (λa ha e=>by have:=B a ha;omega);simp only[<-hk]at R;have E:Tr.nil.aH=.pointer none:=rfl;have ab:=O E;unfold ptr Yo at*;clear hs Xg B hx hl E;apply WH func258;go_wp2_with fail;rw[<-hk];obtain⟨W,hW⟩:=Zx (w.alloc (.cells #[ZU n,ZI i] 199));rw[<-hW]at R U|-;clear hW hk;have S0:=HS.o _ U.o;have V:=λx=>Q4 (Qk (S:=Qb) R.o (λh=>h) x);have J:=λx=>Ja (Qk (S:=Qb) S0.at'.1 (λh=>h) x);clear S0;refine ZE [] [0,1,2,3,4] [5] [] (Qb) W ?_;simp only[pick,Zf,Ze,Zd];refine Qg ?_;iterate 5 (refine Ql (λK z=>?_);go_simp;refine z _ ?_;clear z K)
 refine Qg ?_;intro _ u;obtain⟨I,q⟩:=u;subst q;simp only[Jd];have c3:=O (Qv Qb W I);generalize Qz Qb W I=w3 at c3|-;clear V J;go_wp2_with fail;apply Z9 (d.o _) (λ_ d4=>c3.o.aA d4);intro w4 c4;go_wp2;refine⟨Qd c4.o,?_⟩;go_upto_region 6 with fail;have K4:=O (c4.o.blk R.o (λh=>h));have C4:=O (U.o.aA c4.o);have S4:=O (HS.o _ C4.o);have HL:=O (Kf _ S4.o.at'.2.1);rw[aa.o]at HL;have a0:=Ja S4.o.at'.1;go_wp2_with fail;apply Zy HL;rintro w5 rfl;clear a0;have V:=λx=>Q4 (Qk (S:=Qb) K4.o (λh=>h) x);have J:=λx=>Ja (Qk (S:=Qb) S4.o.at'.1 (λh=>h) x);rw[ab.o]at J;have ac:=Z.o;go_wp2_with fail;refine ZE [] [0,1,2,3,4,5,6,7,8,9,10,11,12] [] [] (Qb) w4 ?_;simp only[pick,Zf,Ze,Zd];refine Qg ?_;iterate 13 (refine Ql (λK z=>?_);go_simp;refine z _ ?_;clear z K)
 refine Qg ?_;intro _ u;obtain⟨I,q⟩:=u;subst q;simp only[Jd];have c5:=O (Qv Qb w4 I);generalize Qz Qb w4 I=w5 at c5|-;clear V J ac;go_wp2;go_ret;exact⟨rfl,C4.o.aA c5.o⟩
theorem Ss{w}{b:Nat}{x x1 Z x3 z:Nd}{c c1 c2 cz:Bool}{l r l1 zl zr l2 E r':Tr}(n:Nat)(i:Int)(Xg:lt n i x=false)(hs:Kc w b (.aD x c l r))
  (ap:Bu (.aD x c l r) (.aD x1 c1 l1 (.aD z cz zl zr))) (av:Tq (.aD x1 c1 l1 (.aD z cz zl zr)) (.aD Z c2 l2 E)) (bj:E≠ .nil) (ar:∀k,k∈r'.aC->k∈E.aC)
  (hE:(¬(Z.n=n/\Z.i=i)/\x3=Z/\∀w',Kc w' b E->ZW 258 #[ptr b,E.aH,Yo n i] w' r'.aH λw2=>Kc w2 b r'/\Qc (λk=>k∈E.aC) w' w2)\/
   ((Z.n=n/\Z.i=i)/\x3=Z.as E.first/\∀w',Kc w' b E->ZW 271 #[ptr b,E.aH] w' r'.aH λw2=>Kc w2 b r'/\Qc (λk=>k∈E.aC) w' w2)):
  Cl 258 #[ptr b,ptr x.a,Yo n i] w λe w'=>e=.returned (Gs (.aD x3 c2 l2 r')).aH/\Kc w' b (Gs (.aD x3 c2 l2 r'))/\Qc (λk=>k∈(Tr.aD x c l r).aC) w w':=by
 obtain⟨k,I⟩:=Zx (w.heap.size);have K0:=O (Qh.new w #[ZU n,ZI i] 199);have C0:=O ((Zg Qb w).alloc (.cells #[ZU n,ZI i] 199));have HS:=O (λw'(hc:Qc Qb w w')=>hs.aB hc (λ_ _ h=>h));have ai:=O (λw=>Gu n i x w);rw[Xg]at ai;have bg:=Jw.lt _ hs.at';have bb:Hi (∀a∈(Tr.aD x c l r).aC,a≠k):=O (λa ha e=>by have:=bg a ha;omega);simp only[<-I]at K0;have bd:=O ap;have be:=O av;have ba:=O ap.aC;have ah:=O (av.aC.trans ap.aC);have HE:=O hE;have ae:=O ar;have bs:=O bj;unfold ptr Yo at*;clear hs Xg bg ap av hE ar bj;apply WH func258;go_wp2_with fail;rw[<-I];obtain⟨W,hW⟩:=Zx (w.alloc (.cells #[ZU n,ZI i] 199));rw[<-hW]at K0 C0|-;clear hW I;have S0:=HS.o _ C0.o;have E1:=λx=>Q4 (Qk (S:=Qb) K0.o (λh=>h) x);have E2:=λx=>Ja (Qk (S:=Qb) S0.at'.1 (λh=>h) x);clear S0;refine ZE [] [0,1,2,3,4] [5] [] (Qb) W ?_;simp only[pick,Zf,Ze,Zd];refine Qg ?_;iterate 5 (refine Ql (λK hK=>?_);go_simp;refine hK _ ?_;clear hK K)
 refine Qg ?_;intro _ aa;obtain⟨xo,d⟩:=aa;subst d;simp only[Jd];have c3:=O (Qv Qb W xo);generalize Qz Qb W xo=w3 at c3|-;clear E1 E2;go_wp2_with fail;apply Z9 (ai.o _) (λ_ d4=>c3.o.aA d4);intro w4 c4;go_wp2;refine⟨Qd c4.o,?_⟩;go_upto_region 6 with fail;have K4:=O (c4.o.blk K0.o (λh=>h));have C4:=O (C0.o.aA c4.o);have S4:=O (HS.o _ C4.o);have HL:=O (Kf _ S4.o.at'.2.1);obtain⟨a0,a1,a2,a3,a4,a5,a6,a7⟩:=Ja S4.o.at'.1;obtain⟨pl,bi⟩:=l.aS;rw[bi]at a6 HL;clear bi;go_wp2_with fail;apply Zy HL;rintro w5 rfl;clear a0 a1 a2 a3 a4 a5 a6 a7;go_upto_if 51 with fail;go_cut [1] (λv1 wz=>v1=ZP x1.a/\Kc wz b (.aD x1 c1 l1 (.aD z cz zl zr))/\Qc (λk=>k∈(Tr.aD x c l r).aC) w4 wz)
 case first=>
  cases hq:l.red
  .have hh:=bd.o;cases hh with
   |up _ y _ yl yr _=>simp[Tr.red]at hq
   |no _ _ _ _ h=> clear h hq;go_wp2_with fail;go_meet;exact⟨rfl,S4.o,Zg _ _⟩
  .have HC:=O (Qh6 bd.o hq S4.o);unfold ptr at HC;clear hq;go_wp2_with fail;apply ZQ HC;intro w1 I1;go_wp2_with fail;go_meet;exact⟨rfl,I1.o⟩
 case rest=>
  obtain⟨rfl,i1,J⟩:=hcut;obtain⟨w1,ao⟩:=Zx wc;rw[<-ao]at i1 J|-;have K1:=O (J.blk K4.o (λh=>bb.o _ h rfl));have I1:=O i1;have C1:=O (C4.o.none.aA J);clear ao i1 J;have E1:=λx=>Q4 (Qk (S:=Qb) K1.o (λh=>h) x);have E2:=λx=>Ja (Qk (S:=Qb) I1.o.at'.1 (λh=>h) x);have am:(Tr.aD z cz zl zr).aH=ZP z.a:=rfl;rw[am]at E2;clear am;go_upto_region 8 with fail;go_cut [67] (λbz wz=>bz=.bool false/\Qc Qb w1 wz)
  case first=>
   cases ak:(((x1.n:Int)==(n:Int))&&(x1.i==i));all_goals
    refine ZE [] [0,1,2,3,4,5,6,7,8,9,10,11,12] [] [] (Qb) w1 ?_;simp only[pick,Zf,Ze,Zd];refine Qg ?_;iterate 13 (refine Ql (λK hK=>?_);go_simp;refine hK _ ?_;clear hK K)
    refine Qg ?_;intro _ aa;obtain⟨xo,d⟩:=aa;subst d;simp only[Jd];have c5:=O (Qv Qb w1 xo);generalize Qz Qb w1 xo=w5 at c5|-;clear E1 E2 ak;go_wp2_with fail;go_meet;exact⟨rfl,c5.o⟩
  case rest=>
   obtain⟨rfl,cc⟩:=hcut;obtain⟨w5,bl⟩:=Zx wc;rw[<-bl]at cc|-;have K5:=O (cc.blk K1.o (λh=>h));have V:=O (I1.o.aB cc (λ_ _ h=>h));have C5:=O (C1.o.aA cc.none);clear E1 E2 bl cc;have HL:=O (Kf _ V.o.at'.2.2);have bc:=O (Kf zl V.o.at'.2.2.2.1);obtain⟨a0,a1,a2,a3,a4,a5,a6,a7⟩:=Ja V.o.at'.1;have b0:=Ja V.o.at'.2.2.1;have am:(Tr.aD z cz zl zr).aH=ZP z.a:=rfl;have bk:(Tr.aD z cz zl zr).red=cz:=rfl;rw[am]at a7 HL;rw[bk]at HL;clear am bk;go_upto_region 10 with fail;go_cut [84] (λbw wz=>bw=.bool (!(cz||zl.red))/\wz=w5)
   case first=>
    cases hc:cz<;>cases hl:zl.red;all_goals rw[hc]at HL
    all_goals rw[hl]at bc
    all_goals
     go_wp2_with fail;apply Zy HL;rintro w1 rfl;go_wp2_with fail;try
      apply Zy bc;rintro w1 rfl;go_wp2_with fail
     go_meet;exact⟨by rw[hc,hl];rfl,rfl⟩
   case rest=>
    obtain⟨rfl,bm⟩:=hcut;rw[bm];clear bm wc a0 a1 a2 a3 a4 a5 a6 a7 b0;go_upto_if 84 with fail;go_cut [1] (λv1 wz=>v1=ZP Z.a/\Kc wz b (.aD Z c2 l2 E)/\Qc (λk=>k∈(Tr.aD x c l r).aC) w5 wz)
    case first=>
     cases hq:(cz||zl.red);·have HC:=O (Qat be.o hq V.o);rw[ba.o]at HC;unfold ptr at HC;clear hq;go_wp2_with fail;apply ZQ HC;intro w1 I1;go_wp2_with fail;go_meet;exact⟨rfl,I1.o⟩
     .have hh:=be.o;cases hh with
      |A _ y _ yl yr _ _ h1 h2=>simp[h2]at hq
      |B _ y _ u ul ur yr _ _ h1=>simp[h1]at hq
      |no _ _ _ _ h=> clear h hq;go_wp2_with fail;go_meet;exact⟨rfl,V.o,Zg _ _⟩
    case rest=>
     obtain⟨rfl,i1,J⟩:=hcut;obtain⟨w1,ao⟩:=Zx wc;rw[<-ao]at i1 J|-;have K1:=O (J.blk K5.o (λh=>bb.o _ h rfl));have I1:=O i1;have C1:=O (C5.o.aA J);clear ao i1 J;have E1:=λx=>Q4 (Qk (S:=Qb) K1.o (λh=>h) x);have E2:=λx=>Ja (Qk (S:=Qb) I1.o.at'.1 (λh=>h) x);obtain⟨pr,aw⟩:=E.aS;have U:=O aw;rw[aw]at E2;clear aw;go_upto_region 12 with fail;have bu:=HE.o;rcases bu with⟨bh,rfl,ih⟩|⟨bp,rfl,ih⟩
     .have ak:=Qhm bh;have IH:=O ih;clear bh ih;refine ZE [] [0,1,2,3,4,5] [] [] (Qb) w1 ?_;simp only[pick,Zf,Ze,Zd];refine Qg ?_;iterate 6 (refine Ql (λK hK=>?_);go_simp;refine hK _ ?_;clear hK K)
      refine Qg ?_;intro _ aa;obtain⟨xo,d⟩:=aa;subst d;simp only[Jd];have R:=O (Qv Qb w1 xo);generalize Qz Qb w1 xo=w6 at R|-;clear E1 E2 ak;have K6:=O (R.o.blk K1.o (λh=>h));have I6:=O (I1.o.aB R.o (λ_ _ h=>h));have C6:=O (C1.o.aA R.o.none);have k0:=Q4 K6.o.drew;have E2:=Ja I6.o.at'.1.drew;rw[U.o]at E2;have y0:=E2;clear R;go_wp2_with fail;apply XC 30020000001 (λ_=>True) w6;(refine Qy (h:=?_);try simp only[Act.put,Za,Zc,Zb]);iterate 6 (refine Xe (h:=?_))
      clear k0 y0;have C5:=O (C6.o.aA (Zg Qb w6).drew.none);have V:=O (I6.o.aB (Zg Qb w6).drew (λ_ _ h=>h));have ac:=IH.o _ V.o.right;rw[U.o]at ac;have af:=V.o.nd;simp only[Tr.aC,List.nodup_cons,Zl,Zu,not_or,List.nodup_append]at af;have au:=O (show x3.a∉E.aC by grind);clear af;refine Yb ?_;go_wp2_with fail;apply Zz ac;rintro w8⟨i6,R⟩;have z6:=O ((Zg (λ_=>True) w6).drew.trans R λk _=>.inl trivial);have B6:=R.blk V.o.at'.1 au.o;have a0:=Ja B6;have f6:=B6.frozen;have FX:=O (λw7(e:w7=w8.setCell ⟨x3.a,7,none⟩ r'.aH)=>V.o.setR i6 R (λ_ h=>h) (λk I=>.inl (ae.o k I)) e);obtain⟨q,hq⟩:=r'.aS;rw[hq]at FX|-;clear i6 R B6 hq ac;go_wp2_with fail;refine⟨z6.o,?_⟩;apply YI 0;go_wp2_with fail;obtain⟨w9,ab⟩:=Zx (w8.setCell ⟨x3.a,7,none⟩ (.pointer q));rw[<-ab];obtain⟨i7,c7⟩:=FX.o _ ab;have hb:=Ek i7;unfold ptr at hb;clear ab a0 f6;apply Zz hb;rintro a8⟨i8,c8⟩;have ag:Qc (λk=>k∈(Tr.aD x c l r).aC) w a8:=by
       have aj:(Tr.aD x3 c2 l2 E).aC=(Tr.aD x c l r).aC:=ah.o;rw[aj]at c7;refine(C5.o.aA c7).aA (c8.sub λk I=>?_);rw[<-aj];simp only[Tr.aC,Zl,Zu]at I|-;rcases I with I|rfl|I;·exact .inl I
       .exact .inr (.inl rfl)
       .exact .inr (.inr (ae.o _ I))
      have HF:=O ag;have HI:=O i8;clear i8 c8 ag i7 c7 hb;go_wp2;go_ret;exact⟨rfl,HI.o,HF.o⟩
     .have ak:=Cf bp;have IH:=O ih;clear bp ih;refine ZE [] [0,1,2,3,4,5] [] [] (Qb) w1 ?_;simp only[pick,Zf,Ze,Zd];refine Qg ?_;iterate 6 (refine Ql (λK hK=>?_);go_simp;refine hK _ ?_;clear hK K)
      refine Qg ?_;intro _ aa;obtain⟨xo,d⟩:=aa;subst d;simp only[Jd];have R:=O (Qv Qb w1 xo);generalize Qz Qb w1 xo=w6 at R|-;clear E1 E2 ak;have I6:=O (I1.o.aB R.o (λ_ _ h=>h));have C6:=O (C1.o.aA R.o.none);clear R;obtain⟨a0,a1,a2,a3,a4,a5,a6,a7⟩:=Ja I6.o.at'.1;rw[U.o]at a7;go_wp2_with fail;clear a0 a1 a2 a3 a4 a5 a6 a7;go_loopg [7] E.size (λg v wr=>∃s:Tr,v=s.aH/\s.size=g/\s≠ .nil/\Jw w6 s/\s.first=E.first/\wr=w6);case atStart=>exact⟨E,U.o.symm,rfl,bs.o,I6.o.at'.2.2,rfl,rfl⟩
      case round=>
       obtain⟨s,rfl,ay,ax,an,aq,bo⟩:=hrel;rw[bo];clear bo;cases s with
       |nil=>exact absurd rfl ax
       |aD u cu ul ur=>
        obtain⟨b0,b1,b2,b3,b4,b5,b6,b7⟩:=Ja an.1;cases ul with
        |nil=>
         have bq:Hi (E.first=(u.n,u.i,u.v)):=O (by rw[<-aq];rfl);have bf:=O an.1;have al:Tr.nil.aH=.pointer none:=rfl;rw[al]at b6;dsimp only[Tr.aH];clear ay ax an aq al;go_wp2_with fail;clear b0 b1 b2 b3 b4 b5 b6 b7;have b0:=Ja bf.o.drew;obtain⟨d0,d1,d2,d3,d4,d5,d6,d7⟩:=Ja I6.o.at'.1.drew;rw[U.o]at d7;apply XC 3002000000000010 (λ_=>True) w6;refine Xe (h:=?_);(refine Qy (h:=?_);try simp only[Act.put,Za,Zc,Zb]);iterate 10 (refine Xe (h:=?_))
         clear b0 d0 d1 d2 d3 d4 d5 d6 d7;have f7:=I6.o.at'.1.frozen;obtain⟨b0,b1,b2,b3,b4,b5,b6,b7⟩:=Ja bf.o;obtain⟨d0,d1,d2,d3,d4,d5,d6,d7⟩:=Ja I6.o.at'.1;rw[U.o]at d7;refine Yb ?_;go_wp2_with fail;refine⟨((Zg (λ_=>True) w6).drew.setCell _ (.inl trivial)).setCell _ (.inl trivial),?_⟩;apply YI 0;go_wp2_with fail;obtain⟨w8,az⟩:=Zx ((((w6.setCell ⟨Z.a,0,none⟩ (ZU u.n)).setCell ⟨Z.a,1,none⟩ (ZI u.i)).setCell ⟨Z.a,2,none⟩ (ZU u.v)).drew);rw[<-az];obtain⟨i8,c8⟩:=Kc.take (w2:=w8) (e:=E.first) I6.o (Zg Qb w6).drew (by rw[bq.o];exact az);rw[ah.o]at c8;have V:=O i8;have C5:=O (C6.o.aA c8);clear az f7 i8 c8 b0 b1 b2 b3 b4 b5 b6 b7 d0 d1 d2 d3 d4 d5 d6 d7;obtain⟨a0,a1,a2,a3,a4,a5,a6,a7⟩:=Ja V.o.at'.1;rw[U.o]at a7;dsimp only[Nd.as]at a0 a1 a2 a3 a4 a5 a6 a7;have ac:=IH.o _ V.o.right;rw[U.o]at ac;have af:=V.o.nd;simp only[Tr.aC,List.nodup_cons,Zl,Zu,not_or,List.nodup_append]at af;have au:=O (show Z.a∉E.aC by(dsimp only[Nd.as]at af;grind));clear af;apply Zz ac;rintro a9⟨i6,R⟩;have B6:=R.blk V.o.at'.1 au.o;clear a0 a1 a2 a3 a4 a5 a6 a7;obtain⟨a0,a1,a2,a3,a4,a5,a6,a7⟩:=Ja B6;dsimp only[Nd.as]at a0 a1 a2 a3 a4 a5 a6 a7;have f6:∀j,a9.frozen? ⟨Z.a,j,none⟩=false:=B6.frozen;have FX:=O (λw7(e:w7=a9.setCell ⟨Z.a,7,none⟩ r'.aH)=>V.o.setR i6 R (λ_ h=>h) (λk I=>.inl (ae.o k I)) e);obtain⟨q,hq⟩:=r'.aS;rw[hq]at FX|-;clear i6 R B6 hq ac;go_wp2_with fail;obtain⟨w9,ab⟩:=Zx (a9.setCell ⟨Z.a,7,none⟩ (.pointer q));rw[<-ab];obtain⟨i7,c7⟩:=FX.o _ ab;have hb:=Ek i7;unfold ptr at hb;clear ab a0 a1 a2 a3 a4 a5 a6 a7 f6;apply Zz hb;rintro a8⟨i8,c8⟩;have ag:Qc (λk=>k∈(Tr.aD x c l r).aC) w a8:=by
          have aj:(Tr.aD (Z.as E.first) c2 l2 E).aC=(Tr.aD x c l r).aC:=ah.o;rw[aj]at c7;refine(C5.o.aA c7).aA (c8.sub λk I=>?_);rw[<-aj];simp only[Tr.aC,Zl,Zu]at I|-;rcases I with I|rfl|I;·exact .inl I
          .exact .inr (.inl rfl)
          .exact .inr (.inr (ae.o _ I))
         have HF:=O ag;have HI:=O i8;clear i8 c8 ag i7 c7 hb;go_wp2;go_ret;exact⟨rfl,HI.o,HF.o⟩
        |aD v cv vl vr=>
         have bt:Hi (Jw w6 (.aD v cv vl vr)):=O (an.2.1);have br:Hi ((Tr.aD v cv vl vr).first=E.first):=O (aq);have al:(Tr.aD v cv vl vr).aH=ZP v.a:=rfl;have bv:(Tr.aD v cv vl vr).size<gk:=by rw[<-ay];simp[Tr.size];omega
         rw[al]at b6;dsimp only[Tr.aH];clear ay ax an aq al;go_wp2;go_roundg (Tr.aD v cv vl vr).size;case rel=>exact⟨_,rfl,rfl,nofun,bt.o,br.o,rfl⟩
         case measure=>exact bv
end
structure Mx(w:World)(F:Fp)(T:Nat)(t:Tr)(l:List Xu):Prop where
 top:Qh w T #[Dd,Vv,t.aH,ZI l.length] 269
 sub:Kc w T t
 fine:∃m,Yp t m
 blk:t.red=false
 flat:t.flat=l
 ris:Xd l
 fp:∀a∈T::t.aC,F a
 bd:Bd F w
def Vz(w:World)(F:Fp)(T:Nat)(l:List Xu):Prop:=∃t,Mx w F T t l
theorem Mx.aB{w w'}{F S:Fp}{T:Nat}{t:Tr}{l:List Xu}(h:Mx w F T t l)(c:Qc S w w')(d:Jl F S):Mx w' F T t l:=
 ⟨c.blk h.top (d _ (h.fp T (by simp))),h.sub.aB c (λa ha=>d _ (h.fp a ha)),h.fine,h.blk,h.flat,h.ris,h.fp,h.bd.later c⟩
theorem Vz.obj:Hf Vz where
 bd:=λ⟨t,h⟩=>h.bd
 own:=λ⟨t,h⟩=>h.fp _ (by simp)
 aB:=λ⟨t,h⟩d k=>⟨t,h.aB d k⟩
 more:=λ⟨t,h⟩q c=>⟨t,h.top,h.sub,h.fine,h.blk,h.flat,h.ris,λa ha=>q _ (h.fp a ha),c⟩
theorem Qdo{k:Int}{v:Value}{L:List (Int×Value)}(h:look k L=some v):(k,v)∈L:=by
 unfold look at h;cases c:Oe k L 0 with
 |none=>rw[c]at h;cases h
 |some q=> obtain⟨n,u⟩:=q;rw[c]at h;obtain rfl:=Zs h;obtain⟨j,_,_,d⟩:=U6 c;exact List.mem_of_getElem? d
theorem Qo5{k:Int}{L c:List (Int×Value)}(q:L.Perm c)(u:(L.map (·.1)).Nodup):look k L=look k c:=by
 have d:(c.map (·.1)).Nodup:=(q.map _).nodup_iff.1 u;cases h:look k c with
 |some v=>exact Eh u (q.mem_iff.2 (Qdo h))
 |none=>
  cases z:look k L with
  |none=>rfl
  |some v=>rw[Eh d (q.mem_iff.1 (Qdo z))]at h;cases h
def atV(l:List Xu):List (Int×Value):=l.map λe=>(e.2.1,Yo e.1 e.2.1)
theorem Qgh(l:List Xu):(atV l).map (·.1)=l.map (·.2.1):=by simp[atV]
theorem Pv{id:Int}{l:List Xu}{e:Xu}(h:On id l=some e):e∈l/\e.2.1=id:=⟨List.mem_of_find?_eq_some h,by simpa using List.find?_some h⟩
theorem Pu{id:Int}{l:List Xu}(h:On id l=none):∀e∈l,e.2.1≠id:=by simpa[On]using h
theorem Qht{id:Int}{l:List Xu}{L:List (Int×Value)}(c:L.Perm (atV l))(q:Ol l):look id L=(On id l).map λe=>Yo e.1 id:=by
 have u:(L.map (·.1)).Nodup:=(c.map _).nodup_iff.2 (by rw[Qgh];exact q);rw[Qo5 c u];have k:((atV l).map (·.1)).Nodup:=by rw[Qgh];exact q
 cases h:On id l with
 |some e=> obtain⟨d,rfl⟩:=Pv h;exact Eh k (Z3.2 ⟨e,d,rfl⟩)
 |none=>
  rw[Sp];·rfl
  .intro p c;obtain⟨e,d,rfl⟩:=Z3.1 c;exact Pu h e d
theorem Qq1{id:Int}{l:List Xu}{L:List (Int×Value)}(c:L.Perm (atV l)):(Vu id L).Perm (atV (Xa id l)):=by refine(c.filter _).trans ?_;simp only[atV,Xa,List.filter_map];exact .refl _
theorem Qta{id:Int}{n v:Nat}{l:List Xu}{L:List (Int×Value)}(d:L.Perm (atV l))(c:∀e∈l,e.2.1≠id):(Oi id (Yo n id) L).Perm (atV (Un (n,id,v) l)):=by
 rw[Gw (λp q=>by
  obtain⟨e,k,rfl⟩:=Z3.1 (d.mem_iff.1 q);exact c e k)]
 refine((d.append_right _).trans ?_).trans ((En (n,id,v) l).map _).symm;exact List.perm_append_comm
section
attribute [local go_sem ↓] Vw Vx
theorem Qpb{b:Nat}{n:Nat}{i:Int}{t t':Tr}(d:Drop n i t t'):∀{w}(q:Kc w b t),ZW 258 #[ptr b,t.aH,Yo n i] w t'.aH λw'=>Kc w' b t'/\Qc (λk=>k∈t.aC) w w':=by
 induction d with
 |stay x c l r l' B hd d K=>
  intro w q;cases l with
  |nil=>simp[Tr.red,Tr.left]at hd
  |aD y cy V R=>exact Qff n i B q (.no x c _ r hd) (λk I=>(Hs d).subset I) λw' h=>K h
 |turnA x y z V R zl U l' B E J d K=>exact λq=>Qff n i B q (.A x y z V R zl U E J) (λk I=>(Hs d).subset I) λw' h=>K h
 |turnB x y z u V R ul ur U l' B E d K=>exact λq=>Qff n i B q (.B x y z u V R ul ur U E) (λk I=>(Hs d).subset I) λw' h=>K h
 |right x y c V R r r' B E d K=> exact λq=>Ss n i B q (.up x y c V R r) (.no _ _ _ _ rfl) nofun (λk I=>(Hs d).subset I) (.inl ⟨E,rfl,λw' h=>K h⟩)
 |here x c l B E J=> intro w q;apply Zz (Qk8 n i B E J q);intro w' hc;exact⟨rfl,⟨q.top.aB hc (λh=>h),by have:=q.nd;simp[Tr.aC],trivial⟩,hc.none⟩
 |passA x y z V R zl U r' B E J Z d K=> exact λq=>Ss n i B q (.no _ _ _ _ rfl) (.A x y z V R zl U J Z) nofun (λk I=>(Hs d).subset I) (.inl ⟨E,rfl,λw' h=>K h⟩)
 |takeA x y z V R zl U r' B E J Z d=> exact λq=>Ss n i B q (.no _ _ _ _ rfl) (.A x y z V R zl U J Z) nofun (λk I=>(Kh d).subset I) (.inr ⟨E,rfl,λw' h=>Rk d h⟩)
 |passB x y z u ul ur R zl U r' B E J d K=> exact λq=>Ss n i B q (.no _ _ _ _ rfl) (.B x y z u ul ur R zl U J) nofun (λk I=>(Hs d).subset I) (.inl ⟨E,rfl,λw' h=>K h⟩)
 |passC x c l r r' B E J Z d K=>
  intro w q;cases r with
  |nil=>simp[Tr.red,Tr.left]at Z
  |aD z cz zl U=>exact Ss n i B q (.no _ _ _ _ E) (.no _ _ _ _ Z) nofun (λk I=>(Hs d).subset I) (.inl ⟨J,rfl,λw' h=>K h⟩)
 |aX x c l r r' B E J Z d=>
  intro w q;cases r with
  |nil=>simp[Tr.red,Tr.left]at Z
  |aD z cz zl U=>exact Ss n i B q (.no _ _ _ _ E) (.no _ _ _ _ Z) nofun (λk I=>(Kh d).subset I) (.inr ⟨J,rfl,λw' h=>Rk d h⟩)
theorem Qtb{n:Nat}{i:Int}{x:Nd}{c:Bool}{l r:Tr}(h:x.n=n/\x.i=i):(Tr.aD x c l r).at n i=.aD x c l r:=by rw[Tr.at,if_pos h]
theorem Qtc{n:Nat}{i:Int}{x:Nd}{c:Bool}{l r:Tr}(h:¬(x.n=n/\x.i=i))(d:lt n i x=true):(Tr.aD x c l r).at n i=l.at n i:=by rw[Tr.at,if_neg h,if_pos d]
theorem Qq3{n:Nat}{i:Int}{x:Nd}{c:Bool}{l r:Tr}(h:¬(x.n=n/\x.i=i))(d:lt n i x=false):(Tr.aD x c l r).at n i=r.at n i:=by rw[Tr.at,if_neg h,if_neg (by rw[d];simp)]
theorem Qfd{w}{F:Fp}{b:Nat}{t:Tr}{l:List Xu}(hs:Mx w F b t l)(n:Nat)(i:Int):
  Cl 189 #[ptr b,Yo n i] w λe w'=>e=.returned (t.at n i).aH/\Qc Qb w w':=by
 obtain⟨k,hk⟩:=Zx (w.heap.size);have K0:=O (Qh.new w #[ZU n,ZI i] 199);have C0:=O ((Zg Qb w).alloc (.cells #[ZU n,ZI i] 199));simp only[<-hk]at K0;have HB:=O hs.top;have HT:=O hs.sub.at';generalize hR:(t.at n i).aH=R;have HR:=O hR;unfold ptr Yo at*;clear hs hR;apply WH func189;go_wp2_with fail;rw[<-hk];obtain⟨W,hW⟩:=Zx (w.alloc (.cells #[ZU n,ZI i] 199));rw[<-hW]at K0 C0|-;clear hW hk;have BW:=O (C0.o.blk HB.o (λh=>h));have TW:=O (Jw.aB C0.o t HT.o (λa _ h=>h));have HN:=Od ⟨_,_,BW.o⟩;unfold ptr at HN;obtain⟨a0,a1,a2,a3⟩:=X9 BW.o;obtain⟨pt,aa⟩:=t.aS;have ac:=O aa;rw[aa]at a2;clear aa;apply Zz HN;rintro w1 rfl;go_wp2_with fail;clear a0 a1 a2 a3 HN;go_loopg [5] t.size (λg v wr=>∃s:Tr,v=s.aH/\s.size=g/\Jw W s/\s.at n i=t.at n i/\Qc Qb W wr);case atStart=>exact⟨t,ac.o.symm,rfl,TW.o,rfl,Zg _ _⟩
 case round=>
  obtain⟨s,rfl,V,I,ab,E⟩:=hrel;have KR:=O (E.blk K0.o (λh=>h));have CR:=O E;have HF:=O ab;have E1:=λx=>Q4 (Qk (S:=Qb) KR.o (λh=>h) x);cases s with
  |nil=>
   dsimp only[Tr.aH];clear V I ab E;go_wp2_with fail;refine ZE [] [0,1,2,3,4,5,6,7,8,9] [] [] (Qb) wr ?_;simp only[pick,Zf,Ze,Zd];refine Qg ?_;iterate 10 (refine Ql (λK B=>?_);go_simp;refine B _ ?_;clear B K)
   refine Qg ?_;intro _ z;obtain⟨J,d⟩:=z;subst d;simp only[Jd];have U:=O (Qv Qb wr J);generalize Qz Qb wr J=w5 at U|-;clear E1;go_wp2;go_ret;exact⟨by rw[<-HR.o,<-HF.o];rfl,(C0.o.aA CR.o).aA U.o⟩
  |aD u cu ul ur=>
   have HA:=O (Jw.aB E _ I (λa _ h=>h));have ae:=O I.2.1;have af:=O I.2.2;have E2:=λx=>Ja (Qk (S:=Qb) HA.o.1 (λh=>h) x);dsimp only[Tr.aH];have gl:ul.size<gk:=by rw[<-V];simp[Tr.size];omega
   have gr:ur.size<gk:=by rw[<-V];simp[Tr.size];omega
   clear V I ab E;by_cases hx:u.n=n/\u.i=i
   .have Z:=Cf hx;have HX:=O (Qtb hx (c:=cu) (l:=ul) (r:=ur));clear hx gl gr;go_wp2_with fail;refine ZE [] [0,1,2,3,4,5,6,7,8,9] [] [] (Qb) wr ?_;simp only[pick,Zf,Ze,Zd];refine Qg ?_;iterate 10 (refine Ql (λK B=>?_);go_simp;refine B _ ?_;clear B K)
    refine Qg ?_;intro _ z;obtain⟨J,d⟩:=z;subst d;simp only[Jd];have U:=O (Qv Qb wr J);generalize Qz Qb wr J=w5 at U|-;clear E1 E2 Z;go_wp2;go_ret;exact⟨by rw[<-HR.o,<-HF.o,HX.o];rfl,(C0.o.aA CR.o).aA U.o⟩
   .have Z:=Qhm hx;have HX:=O hx;have q:=O (λw=>Gu n i u w);unfold Yo at q;clear hx;go_wp2_with fail;refine ZE [] [0,1,2,3,4,5,6,7,8,9] [] [] (Qb) wr ?_;simp only[pick,Zf,Ze,Zd];refine Qg ?_;iterate 10 (refine Ql (λK B=>?_);go_simp;refine B _ ?_;clear B K)
    refine Qg ?_;intro _ z;obtain⟨J,d⟩:=z;subst d;simp only[Jd];have U:=O (Qv Qb wr J);generalize Qz Qb wr J=w5 at U|-;clear E1 E2 Z;have K5:=O (U.o.blk KR.o (λh=>h));have H5:=O (U.o.blk HA.o.1 (λh=>h));have E1:=λx=>Q4 (Qk (S:=Qb) K5.o (λh=>h) x);have E2:=λx=>Ja (Qk (S:=Qb) H5.o (λh=>h) x);go_wp2_with fail;refine ZE [] [0,1,2,3,4] [5] [] (Qb) w5 ?_;simp only[pick,Zf,Ze,Zd];refine Qg ?_;iterate 5 (refine Ql (λK B=>?_);go_simp;refine B _ ?_;clear B K)
    refine Qg ?_;intro _ z;obtain⟨J,d⟩:=z;subst d;simp only[Jd];have c6:=O (Qv Qb w5 J);generalize Qz Qb w5 J=w6 at c6|-;clear E1 E2;cases hl:lt n i u;all_goals
     rw[hl]at q;go_wp2_with fail;apply Z9 (q.o _) (λ_ d7=>c6.o.aA d7);intro w7 c7;go_wp2;refine⟨Qd c7.o,?_⟩;have C7:=O (CR.o.aA (U.o.aA c7.o));have H7:=c7.o.blk H5.o (λh=>h);have b0:=Ja H7;clear H7;go_wp2_with fail;clear b0
    .go_roundg ur.size;case rel=>exact⟨ur,rfl,rfl,af.o,by rw[<-HF.o,Qq3 HX.o hl],C7.o⟩
     case measure=>exact gr
    .go_roundg ul.size;case rel=>exact⟨ul,rfl,rfl,ae.o,by rw[<-HF.o,Qtc HX.o hl],C7.o⟩
     case measure=>exact gl
def Tr.black:Tr->Tr
 | .nil=>.nil
 | .aD x _ l r=>.aD x false l r
theorem Yp.blacken{t:Tr}{m:Nat}(h:Yp t m):∃d,Yp t.black d:=by
 cases t with
 |nil=>exact⟨m,h⟩
 |aD x c l r=>
  cases c with
  |false=>exact⟨m,h⟩
  |true=>exact⟨_,h.black⟩
theorem Qgp(h:Nd)(c:Bool)(l r:Tr):∃h' q V r',Gs (.aD h c l r)=.aD h' q V r':=by obtain⟨K,u,Z,r1,E⟩:=Qnn h c l r;obtain⟨R,z,l2,r2,I⟩:=Qno K u Z r1;obtain⟨U,B,d,k,J⟩:=Qnp R z l2 r2;refine⟨U.re d k,B,d,k,?_⟩;unfold Gs;rw[E,I,J];rfl
theorem Qsd(n:Nat)(i:Int)(v a:Nat)(t:Tr):∃h' d l' k,t.put n i v a=.aD h' d l' k:=by
 cases t with
 |nil=>exact⟨_,_,_,_,rfl⟩
 |aD h c l r=>
  rw[Tr.put];split;·exact Qgp _ _ _ _
  .exact Qgp _ _ _ _
theorem Mx.root{w w6 w'}{F:Fp}{T:Nat}{t:Tr}{l l':List Xu}{d:Nd}{K:Bool}{z B:Tr}{p q:Value}(h:Mx w F T t l)(E:Kc w6 T (.aD d K z B))
  (hT:Qh w6 T #[Dd,Vv,p,q] 269) (c6:Qc F w w6) (ha:∀a∈(Tr.aD d K z B).aC,F a\/w.heap.size<=a) (hf:∃m,Yp (.aD d K z B) m)
  (V:(Tr.aD d K z B).flat=l') (hr:Xd l')
  (hw:w'=((w6.setCell ⟨T,2,none⟩ (ZP d.a)).setCell ⟨d.a,5,none⟩ (.bool false)).setCell ⟨T,3,none⟩ (ZI l'.length)):
  Vz w' (Qn F w w') T l'/\Qc F w w':=by
 subst hw;have Z:=E.nd;simp only[Tr.aC,List.nodup_cons,Zl,Zu,not_or,List.nodup_append]at Z;have u:T≠d.a:=by grind
 have I:F T:=h.fp T (by simp);have R:Qc (λk=>k=T\/k=d.a) w6 (((w6.setCell ⟨T,2,none⟩ (ZP d.a)).setCell ⟨d.a,5,none⟩ (.bool false)).setCell ⟨T,3,none⟩ (ZI l'.length)):=
  (((Zg _ w6).setCell (a:=⟨T,2,none⟩) _ (.inl (.inl rfl))).setCell (a:=⟨d.a,5,none⟩) _ (.inl (.inr rfl))).setCell (a:=⟨T,3,none⟩) _ (.inl (.inl rfl))
 have c:Qc F w (((w6.setCell ⟨T,2,none⟩ (ZP d.a)).setCell ⟨d.a,5,none⟩ (.bool false)).setCell ⟨T,3,none⟩ (ZI l'.length)):=
  c6.trans R λk hk=>by
   rcases hk with rfl|rfl;·exact .inl I
   .exact ha _ (by simp[Tr.aC])
 have hX:Qh (((w6.setCell ⟨T,2,none⟩ (ZP d.a)).setCell ⟨d.a,5,none⟩ (.bool false)).setCell ⟨T,3,none⟩ (ZI l'.length)) d.a (It d false z.aH B.aH) 267:=
  ((E.at'.1.other _ u).set' 5 _ rfl).other _ u
 have J:Qh (((w6.setCell ⟨T,2,none⟩ (ZP d.a)).setCell ⟨d.a,5,none⟩ (.bool false)).setCell ⟨T,3,none⟩ (ZI l'.length)) T #[Dd,Vv,ZP d.a,ZI l'.length] 269:=
  ((hT.set' 2 _ rfl).other _ (Ne.symm u)).set' 3 _ rfl
 obtain⟨m,hm⟩:=hf;refine⟨⟨.aD d false z B,J,⟨⟨_,_,J⟩,E.nd,hX,Jw.aB R z E.at'.2.1 (by grind),Jw.aB R B E.at'.2.2 (by grind)⟩,Yp.blacken hm,rfl,V,hr,?_,h.bd.ext c⟩,c⟩;intro a U;rcases Zu.1 U with rfl|U;·exact .inl I
 .rcases ha a U with h'|h';·exact .inl h'
  .exact .inr ⟨h',Nat.lt_of_lt_of_le (Jw.lt _ E.at' a U) R.size⟩
theorem Qp2{w}{F:Fp}{T:Nat}{l:List Xu}(h:Vz w F T l)(hl:l.length<4611686018427387904)(n:Nat)(i:Int)(v:Nat)(B:∀e∈l,¬(e.1=n/\e.2.1=i)):
  ZW 243 #[ptr T,Yo n i,ZU v] w (ZI 0) λw'=>Vz w' (Qn F w w') T (Un (n,i,v) l)/\Qc F w w':=by
 obtain⟨t,h⟩:=h;have u:t.at n i=.nil:=(Ap (by rw[h.flat];exact h.ris)).2 (by rw[h.flat];exact B);have ai:=O u;obtain⟨m,hm⟩:=h.fine;have q:(Un (n,i,v) l).length=l.length+1:=(En (n,i,v) l).length_eq;have hs:IntKind.i64.wrap ((l.length:Int)+1)=((Un (n,i,v) l).length:Int):=by rw[IntWalk.i64_in _ (by omega),q];omega
 have ab:Hi (∀a,∃m,Yp (t.put n i v a) m):=O λa=>⟨m,(Qa8 n i v a t m hm).1 h.blk⟩;have ac:Hi (∀a,(t.put n i v a).flat=Un (n,i,v) l):=O λa=>by rw[Qa7 n i v a t (by rw[h.flat];exact h.ris),h.flat]
 have af:Hi (Xd (Un (n,i,v) l)):=O (Rt h.ris B);have H:=O h;have ag:Hi (T∉t.aC):=O ((List.nodup_cons.1 h.sub.nd).1);obtain⟨k,z⟩:=Zx (w.heap.size);have U:=O (Qh.new w #[ZU n,ZI i] 199);have C0:=O ((Zg Qb w).alloc (.cells #[ZU n,ZI i] 199));simp only[<-z]at U;obtain⟨pt,E⟩:=t.aS;have ae:=O E;have I:=O (λw F(h:Mx w F T t l)=>Qfd h n i);simp only[u,Tr.aH]at I;have J:=O (λw(h:Kc w T t)=>Qas n i v T t w h);rw[E]at J;unfold ptr Yo at*;clear h u hm q B E hl;apply WH func243;go_wp2_with fail;rw[<-z];obtain⟨W,hW⟩:=Zx (w.alloc (.cells #[ZU n,ZI i] 199));rw[<-hW]at U C0|-;clear hW z;have R0:=O (H.o.aB C0.o (Jl.none F));have HN:=Od ⟨_,_,R0.o.top⟩;have HA:=I.o _ _ R0.o;have k0:=Q4 U.o;unfold ptr at HN;apply Zz HN;rintro w1 rfl;go_wp2_with fail;apply Zz HA;intro w2 V;have R2:=O (R0.o.aB V (Jl.none F));have K2:=O (V.blk U.o (λh=>h));have C2:=O (C0.o.aA V);clear V HA HN k0;have k0:=Q4 K2.o.drew;have E2:=X9 R2.o.top.drew;rw[ae.o]at E2;have y0:=E2;go_wp2_with fail;apply XC 300200000001 (λ_=>True) w2;apply YA 0;clear k0 y0;have R3:=O (R2.o.aB (Zg Qb w2).drew (Jl.none F));have C3:=O (C2.o.aA (Zg Qb w2).drew);go_wp2_with fail;refine(J.o _ R3.o.sub).mono ?_;rintro e w6⟨a,ha,rfl,R,Z⟩;obtain⟨x1,c1,l1,r1,c⟩:=Qsd n i v a t;have d:=Z.blk R3.o.top ag.o;have aa:=O (λw' hw=>H.o.root (l':=Un (n,i,v) l) (w':=w') (c▸R) d (C3.o.none.aA (Z.sub λk z=>H.o.fp k (Zr _ z))) (λk z=>(Rq n i v a t (c▸z)).elim (λe=>.inr (by rw[e];exact Zp C3.o.size ha)) (λh=>.inl (H.o.fp k (Zr _ h)))) (c▸ab.o a) (c▸ac.o a) af.o hw);rw[c]at R|-;have hX:=R.at'.1;have K:=R.nd;simp only[Tr.aC,List.nodup_cons,Zl,Zu,not_or,List.nodup_append]at K;have ah:T≠x1.a:=by grind
 have aj:x1.a≠T:=Ne.symm ah;have a0:=X9 d;have b0:=Ja hX;have f1:=d.frozen;have f2:=hX.frozen;have c7:=O ((Zg (λ_=>True) w2).drew.trans Z λk _=>.inl trivial);dsimp only[Tr.aH];clear hX K R Z d ha c;go_wp2_with fail;refine⟨c7.o,?_⟩;apply YI 0;go_wp2;go_ret;exact⟨rfl,aa.o _ rfl⟩
theorem Kc.color{w w'}{b:Nat}{x:Nd}{c c':Bool}{l r:Tr}(d:Kc w b (.aD x c l r))(z:w'=w.setCell ⟨x.a,5,none⟩ (.bool c')):Kc w' b (.aD x c' l r)/\Qc (λk=>k∈(Tr.aD x c l r).aC) w w':=by subst z;have q:Qc (λk=>k=x.a) w (w.setCell ⟨x.a,5,none⟩ (.bool c')):=(Zg _ w).setCell (a:=⟨x.a,5,none⟩) _ (.inl rfl);have u:=d.nd;simp only[Tr.aC,List.nodup_cons,Zl,Zu,not_or,List.nodup_append]at u;refine⟨⟨d.top.aB q (by grind),d.nd,d.at'.1.set' 5 _ rfl,Jw.aB q l d.at'.2.1 (by grind),Jw.aB q r d.at'.2.2 (by grind)⟩,q.sub ?_⟩;rintro k rfl;simp[Tr.aC]
theorem Qob{n:Nat}{i:Int}{x:Nd}{l r:Tr}{m:Nat}(B:Yp (.aD x false l r) m)(K:Xd (Tr.aD x false l r).flat)(I:(Tr.aD x false l r).has n i):
  ∃c,Drop n i (.aD x (!l.red) l r) c/\(∃d,Yp c d)/\c.flat=del n i (Tr.aD x false l r).flat:=by
 cases J:l.red with
 |true=> obtain⟨c,k,u,_,z⟩:=Oa n i _ (.aD x false l r) m (Zv _) B (by show(false||l.red)=true;rw[J];rfl) K I;exact⟨c,k,⟨m,u⟩,z⟩
 |false=>
  obtain⟨d,E⟩:∃d,m=d+1:=by obtain⟨q,_,_,_,_,e⟩:=B.parts;exact⟨q,by simpa using e⟩
  subst E;obtain⟨c,k,u,_,z⟩:=Oa n i _ (.aD x true l r) d (Zv _) (B.toRed J) rfl K I;exact⟨c,k,⟨d,u⟩,z⟩
theorem Mx.gone{w w6 w'}{F:Fp}{T:Nat}{t:Tr}{l:List Xu}{p q:Value}(h:Mx w F T t l)
  (z:Qh w6 T #[Dd,Vv,p,q] 269)(u:Qc F w w6)
  (B:w'=(w6.setCell ⟨T,2,none⟩ (.pointer none)).setCell ⟨T,3,none⟩ (ZI 0)):
  Vz w' (Qn F w w') T []/\Qc F w w':=by
 subst B;have d:F T:=h.fp T (by simp);have c:Qc F w ((w6.setCell ⟨T,2,none⟩ (.pointer none)).setCell ⟨T,3,none⟩ (ZI 0)):=(u.setCell (a:=⟨T,2,none⟩) _ (.inl d)).setCell (a:=⟨T,3,none⟩) _ (.inl d);have k:Qh ((w6.setCell ⟨T,2,none⟩ (.pointer none)).setCell ⟨T,3,none⟩ (ZI 0)) T #[Dd,Vv,.pointer none,ZI 0] 269:=(z.set' 2 _ rfl).set' 3 _ rfl;exact⟨⟨.nil,k,⟨⟨_,_,k⟩,by simp[Tr.aC],trivial⟩,⟨0,trivial,trivial,rfl⟩,rfl,rfl,List.Pairwise.nil,λa ha=>by simp[Tr.aC]at ha;exact .inl (ha▸d),h.bd.ext c⟩,c⟩
theorem A8{n:Nat}{i:Int}:∀{l:List Xu},Xd l->(∃e∈l,e.1=n/\e.2.1=i)->(del n i l).length+1=l.length
 |e::l,hr,h=>by
  obtain⟨q,u⟩:=List.pairwise_cons.1 hr;by_cases d:e.1=n/\e.2.1=i;·rw[Nc d λf c k=>?_,Zm];have:=q f c;unfold Mv at this;omega
  .have:del n i (e::l)=e::del n i l:=by rw[del,List.filter_cons,if_pos (by rw[decide_eq_false d];rfl)];rfl
   rw[this,Zm,Zm,A8 u];obtain⟨f,c,k⟩:=h;rcases Zu.1 c with rfl|c;·exact absurd k d
   .exact⟨f,c,k⟩
theorem Qly{w}{F:Fp}{T:Nat}{l:List Xu}(h:Vz w F T l)(hl:l.length<4611686018427387904)(n:Nat)(i:Int)(B:∃e∈l,e.1=n/\e.2.1=i):
  ZW 242 #[ptr T,Yo n i] w (ZI 0) λw'=>Vz w' (Qn F w w') T (del n i l)/\Qc F w w':=by
 obtain⟨t,h⟩:=h;have z:Xd t.flat:=by rw[h.flat];exact h.ris
 obtain⟨y,cy,ay,aw,K⟩:∃y c a b,t.at n i=.aD y c a b:=by
  cases Z:t.at n i with
  |nil=> obtain⟨e,he,u⟩:=B;exact absurd u ((Ap z).1 Z e (by rw[h.flat];exact he))
  |aD y c a b=>exact⟨y,c,a,b,rfl⟩
 obtain⟨x,L,R,rfl⟩:∃x l r,t=.aD x false l r:=by
  cases t with
  |nil=>cases K
  |aD x c l r=>obtain rfl:c=false:=h.blk;exact⟨x,l,r,rfl⟩
 obtain⟨m,hm⟩:=h.fine;have ag:R.red=false:=hm.parts.choose_spec.2.2.1;obtain⟨t',hD,af,V⟩:=Qob hm z (by unfold Tr.has;rw[h.flat];exact B);rw[h.flat]at V;have ah:=A8 h.ris B;have hs:IntKind.i64.wrap ((l.length:Int)-1)=((del n i l).length:Int):=by rw[IntWalk.i64_in _ (by omega)];omega
 have ao:=O af;have ac:=O V;have ar:Hi (Xd (del n i l)):=O (Ql1 h.ris);have H:=O h;have ae:Hi (T∉(Tr.aD x false L R).aC):=O ((List.nodup_cons.1 h.sub.nd).1);obtain⟨k,u⟩:=Zx (w.heap.size);have K0:=O (Qh.new w #[ZU n,ZI i] 199);have C0:=O ((Zg Qb w).alloc (.cells #[ZU n,ZI i] 199));have ap:Hi (∀a∈T::(Tr.aD x false L R).aC,a≠k):=O (λa ha e=>by have:=h.bd a (h.fp a ha);omega);simp only[<-u]at K0;have aa:=O (λw F(h:Mx w F T (.aD x false L R) l)=>Qfd h n i);simp only[K,Tr.aH]at aa;have ab:=O (λw(h:Kc w T (.aD x (!L.red) L R))=>Qpb hD h);have J:=O (λk(u:k∈t'.aC)=>show k∈(Tr.aD x false L R).aC from(Hs hD).subset u);have aq:=O ag;dsimp only[Tr.aH]at ab;unfold ptr Yo at*;clear h K hm ah B hl z hD af V ag;apply WH func242;go_wp2_with fail;rw[<-u];obtain⟨W,hW⟩:=Zx (w.alloc (.cells #[ZU n,ZI i] 199));rw[<-hW]at K0 C0|-;clear hW u;have R0:=O (H.o.aB C0.o (Jl.none F));have HN:=Od ⟨_,_,R0.o.top⟩;have HA:=aa.o _ _ R0.o;have k0:=Q4 K0.o;unfold ptr at HN;apply Zz HN;rintro w1 rfl;go_wp2_with fail;apply Zz HA;intro w2 c2;have E:=O (R0.o.aB c2 (Jl.none F));have K2:=O (c2.blk K0.o (λh=>h));have C2:=O (C0.o.aA c2);clear c2 HA HN k0;have q:(Tr.aD x false L R).aH=ZP x.a:=rfl;obtain⟨a0,a1,a2,a3⟩:=X9 E.o.top;obtain⟨b0,b1,b2,b3,b4,b5,b6,b7⟩:=Ja E.o.sub.at'.1;rw[q]at a2;have HL:=O (Kf L E.o.sub.at'.2.1);have HR:=O (Kf R E.o.sub.at'.2.2);rw[aq.o]at HR;obtain⟨pl,aj⟩:=L.aS;obtain⟨pr,ak⟩:=R.aS;rw[aj]at b6 HL;rw[ak]at b7 HR;clear q aj ak;go_upto_region 5 with fail;go_cut [32] (λav wz=>av=.bool (!L.red)/\wz=w2)
 case first=>
  cases Z:L.red;all_goals rw[Z]at HL
  all_goals
   go_wp2_with fail;apply Zy HL;rintro w3 rfl;go_wp2_with fail;try
    apply Zy HR;rintro w3 rfl;go_wp2_with fail
   go_meet;exact⟨by rw[Z];rfl,rfl⟩
 case rest=>
  obtain⟨rfl,am⟩:=hcut;rw[am];clear am wc;go_upto_if 32 with fail;have f2:=E.o.sub.at'.1.frozen;go_cut [] (λwz=>Kc wz T (.aD x (!L.red) L R)/\Qc (λk=>k∈(Tr.aD x false L R).aC) w2 wz)
  case first=>
   cases Z:L.red;·have FX:=O (λw7(e:w7=w2.setCell ⟨x.a,5,none⟩ (.bool true))=>E.o.sub.color (c':=true) e);go_wp2_with fail;go_meet;rw[Z];exact FX.o _ rfl
   .go_wp2_with fail;go_meet;rw[Z];exact⟨E.o.sub,Zg _ _⟩
  case rest=>
   obtain⟨i3,c3⟩:=hcut;obtain⟨w3,al⟩:=Zx wc;rw[<-al]at i3 c3|-;have T3:=O (c3.blk E.o.top ae.o);have K3:=O (c3.blk K2.o (λh=>ap.o _ (Zr _ h) rfl));have C3:=O (C2.o.none.aA c3);have I3:=O i3;clear al i3 c3 a0 a1 a2 a3 b0 b1 b2 b3 b4 b5 b6 b7 f2;have q:(Tr.aD x false L R).aH=ZP x.a:=rfl;have k0:=Q4 K3.o.drew;have E2:=X9 T3.o.drew;rw[q]at E2;have y0:=E2;clear q;go_wp2_with fail;apply XC 30020000001 (λ_=>True) w3;apply YA 0;clear k0 y0;have I4:=O (I3.o.aB (Zg Qb w3).drew (λ_ _ h=>h));have T4:=O ((Zg Qb w3).drew.blk T3.o (λh=>h));have C4:=O (C3.o.aA (Zg Qb w3).drew.none);go_wp2_with fail;apply Zz (ab.o _ I4.o);rintro w6⟨i6,c6⟩;have d:=c6.blk T4.o ae.o;have c7:=O ((Zg (λ_=>True) w3).drew.trans c6 λk _=>.inl trivial);have C6:Hi (Qc F w w6):=O ((C4.o.aA c6).sub λk u=>H.o.fp k (Zr _ u));have a0:=X9 d;have f1:=d.frozen;cases t' with
   |nil=>
    have U:del n i l=[]:=ac.o.symm;rw[U]at hs;have I:=O (λw' hw=>H.o.gone (w':=w') d C6.o hw);dsimp only[Tr.aH];have an:=O U;clear i6 c6 d U;rw[show(([]:List Xu).length:Int)=0 from rfl]at hs;go_wp2_with fail;refine⟨c7.o,?_⟩;iterate 2 (first|refine Xe (h:=?_)|refine Qy (h:=?_);try simp only[Act.put,Za,Zc,Zb])
    apply YI 0;go_wp2;go_ret;rw[an.o];exact⟨rfl,I.o _ rfl⟩
   |aD x1 c1 l1 r1=>
    have I:=O (λw' hw=>H.o.root (l':=del n i l) (w':=w') i6 d C6.o (λk u=>.inl (H.o.fp k (Zr _ (J.o k u)))) ao.o ac.o ar.o hw);have hX:=i6.at'.1;have ai:=i6.nd;simp only[Tr.aC,List.nodup_cons,Zl,Zu,not_or,List.nodup_append]at ai;have au:T≠x1.a:=by grind
    have ax:x1.a≠T:=Ne.symm au;have b0:=Ja hX;have f2:=hX.frozen;dsimp only[Tr.aH];clear hX ai i6 c6 d;go_wp2_with fail;refine⟨c7.o,?_⟩;iterate 2 (first|refine Xe (h:=?_)|refine Qy (h:=?_);try simp only[Act.put,Za,Zc,Zb])
    apply YI 0;go_wp2;go_ret;exact⟨rfl,I.o _ rfl⟩
end
section
attribute [local go_sem ↓] Vw Vx
attribute [local go_sem] Ds Oy
theorem Mx.even{w}{F:Fp}{T:Nat}{t:Tr}{l:List Xu}(h:Mx w F T t l):t.even:=by obtain⟨m,c⟩:=h.fine;exact c.2.1
theorem Vz.ris{w}{F:Fp}{T:Nat}{l:List Xu}(h:Vz w F T l):Xd l:=by obtain⟨t,h⟩:=h;exact h.ris
theorem Qp1(w):ZW 179 #[Dd,Vv] w (ptr w.heap.size) λw'=>Vz w' (Qn Qb w w') w.heap.size []/\Qc Qb w w':=by
 have c:=O (λw'(u:w'=w.alloc (.cells #[Dd,Vv,.pointer none,ZI 0] 269))=>show Vz w' (Qn Qb w w') w.heap.size []/\Qc Qb w w' from by
  subst u;have d:=Qh.new w #[Dd,Vv,.pointer none,ZI 0] 269;exact⟨⟨.nil,d,⟨⟨_,_,d⟩,by simp[Tr.aC],trivial⟩,⟨0,trivial,trivial,rfl⟩,rfl,rfl,List.Pairwise.nil,λa ha=>by simp[Tr.aC]at ha;exact .inr ⟨by omega,by subst ha;simp⟩,λk q=>q.elim (λh=>h.elim) (λh=>h.2)⟩,(Zg _ _).alloc _⟩)
 unfold ptr Dd Vv at*;apply WH func179;go_wp2;go_ret;exact⟨rfl,c.o _ rfl⟩
theorem Qp0{w}{F:Fp}{T:Nat}{l:List Xu}(h:Vz w F T l):ZW 216 #[ptr T] w (ZI l.length) λw'=>w=w':=by obtain⟨t,h⟩:=h;have c:=O (Od ⟨_,_,h.top⟩);have d:=X9 h.top;clear h;apply WH func216;go_wp2_with fail;apply Zy c;rintro w1 rfl;exact WE
theorem aE{n:Nat}{i:Int}{v:Nat}{t:Tr}(B:Xd t.flat)(E:(n,i,v)∈t.flat):∃y c a b,t.at n i=.aD y c a b/\y.v=v:=by
 cases I:t.at n i with
 |nil=>exact absurd ⟨rfl,rfl⟩ ((Ap B).1 I _ E)
 |aD y c a b=>
  obtain⟨K,R,J⟩:=Qer I;refine⟨y,c,a,b,rfl,?_⟩;rcases Nat.lt_trichotomy 0 1 with _|h|h
  .by_cases e:(n,i,y.v)=(n,i,v);·simpa using e
   .exfalso;have:Mv (n,i,y.v) (n,i,v)\/Mv (n,i,v) (n,i,y.v):=by
     obtain⟨j,q⟩:=List.mem_iff_getElem.1 E;obtain⟨k,u⟩:=List.mem_iff_getElem.1 J;obtain⟨q,z⟩:=q;obtain⟨u,d⟩:=u;rcases Nat.lt_trichotomy j k with h'|h'|h';·have:=List.pairwise_iff_getElem.1 B j k q u h';rw[z,d]at this;exact .inr this
     .subst h';rw[z]at d;exact absurd d.symm e
     .have:=List.pairwise_iff_getElem.1 B k j u q h';rw[z,d]at this;exact .inl this
    unfold Mv at this;dsimp only at this;omega
  .cases h
  .omega
theorem Qfy{w}{n:Nat}{i:Int}:∀{t:Tr},Jw w t->Jw w (t.at n i)
 | .nil,_=>trivial
 | .aD x c l r,h=>by
  rw[Tr.at];split;·exact h
  .split;·exact Qfy h.2.1
   .exact Qfy h.2.2
theorem Qpz{w}{F:Fp}{T:Nat}{l:List Xu}(h:Vz w F T l)(n:Nat)(i:Int)(v:Nat)(R:(n,i,v)∈l):
  ZW 132 #[ptr T,Yo n i] w (.tuple #[ZU v,.bool true]) λw'=>Qc Qb w w':=by
 obtain⟨t,h⟩:=h;obtain⟨y,c,a,b,d,rfl⟩:=aE (t:=t) (by rw[h.flat];exact h.ris) (by rw[h.flat];exact R);have U:Hi (Jw w (.aD y c a b)):=O (d▸Qfy (n:=n) (i:=i) h.sub.at');have H:=O h;obtain⟨k,B⟩:=Zx (w.heap.size);have z:=O (Qh.new w #[ZU n,ZI i] 199);have u:=O ((Zg Qb w).alloc (.cells #[ZU n,ZI i] 199));simp only[<-B]at z;have q:=O (λw F(h:Mx w F T t l)=>Qfd h n i);simp only[d,Tr.aH]at q;unfold ptr Yo at*;clear h d R;apply WH func132;go_wp2_with fail;rw[<-B];obtain⟨W,K⟩:=Zx (w.alloc (.cells #[ZU n,ZI i] 199));rw[<-K]at z u|-;clear K B;have I:=q.o _ _ (H.o.aB u.o (Jl.none F));have V:=Q4 z.o;apply Zz I;intro w2 J;have E:=O (u.o.aA J);have b0:=Ja (E.o.blk U.o.1 (λh=>h));clear V I J;exact WD E
def Ur(s:Nat×Int):Value:=.agg #[ZU s.1,ZI s.2]
theorem Qpy{w}{F:Fp}{T:Nat}{l:List Xu}(h:Vz w F T l):
  ZW 133 #[ptr T] w (.tuple #[Ur ((low l).getD (0,0)),.bool (low l).isSome]) λw'=>Qc Qb w w':=by
 obtain⟨t,h⟩:=h;have q:=Bb t h.even;rw[h.flat]at q;rw[<-q];obtain⟨k,E⟩:=Zx (w.heap.size);have z:=O ((Zg Qb w).alloc (.cells #[ZU 0,ZI 0] 205));have J:=O (Qh.new w #[ZU 0,ZI 0] 205);simp only[<-E]at J;have u:=O (h.aB z.o (Jl.none F));have I:=O (Od ⟨_,_,u.o.top⟩);have f0:=J.o.frozen;clear h q;cases t with
 |nil=>
  obtain⟨K,R,B,U⟩:=X9 u.o.top;have d:Tr.nil.aH=.pointer none:=rfl;rw[d]at B;clear d;apply WH func133;go_wp2_with fail;rw[<-E];apply Zy I;rintro w1 rfl;go_wp2;refine bodyPost_ret (v:=.tuple #[Ur (0,0),.bool false]) ?_ rfl ⟨rfl,?_⟩;·simp[*,results,Tryz.results133,go_sem,Ur]
  .have:=z.o;(exact Z0)
 |aD x c a b=>
  obtain⟨K,R,B,U⟩:=X9 u.o.top;have d:(Tr.aD x c a b).aH=ZP x.a:=rfl;rw[d]at B;have V:=Ja u.o.sub.at'.1;clear d;apply WH func133;go_wp2_with fail;rw[<-E];apply Zy I;rintro w1 rfl;go_wp2;refine bodyPost_ret (v:=.tuple #[Ur (x.sv,x.si),.bool true]) ?_ rfl ⟨rfl,?_⟩;·simp[*,results,Tryz.results133,go_sem,Ur]
  .have hc:=z.o;(exact Z0)
theorem Qtw(s a:Nat×Int):jn (some s) (some a)=some (Xn s a):=rfl
theorem Ff{W}{q0 q1 q2 T:Nat}(o:Option (Nat×Int))(a:Nat×Int)(h0:Qh W q0 #[ZP T] 201)(h1:Qh W q1 (Y4 (o.getD (0,0))) 205)
  (h2:Qh W q2 #[.bool o.isSome] 4) (hT:Qgc W T) (Z:q1≠q2):
  ZW 203 #[Ur a,ptr q2,ptr q0,ptr q1] W (.tuple #[]) λw'=>Qh w' q1 (Y4 ((jn o (some a)).getD (0,0))) 205/\Qh w' q2 #[.bool (jn o (some a)).isSome] 4/\Qc (λk=>k=q1\/k=q2) W w':=by
 obtain⟨k,hk⟩:=Zx (W.heap.size);have J:=O (Qh.new W (Y4 a) 205);have c:=O ((Zg Qb W).alloc (.cells (Y4 a) 205));simp only[<-hk]at J;have l1:=h1.lt;have l2:=h2.lt;have m1:q1≠k:=by omega
 have m2:q2≠k:=by omega
 have HK:Hi (W.heap.size<=k):=O (by omega);have u:=O Z;have M1:=O m1;have M2:=O m2;have ag:=Ne.symm Z;have ae:=Ne.symm m1;have af:=Ne.symm m2;have H0:=O h0;have H1:=O h1;have H2:=O h2;have HT:=O hT;clear h0 h1 h2 hT l1 l2;have I:Hi (∀(w3 w')(s:Nat×Int),Qc Qb W w3->w'=((w3.setCell ⟨q1,0,none⟩ (ZU s.1)).setCell ⟨q1,1,none⟩ (ZI s.2)).setCell ⟨q2,0,none⟩ (.bool true)->
   Qh w' q1 (Y4 s) 205/\Qh w' q2 #[.bool true] 4/\Qc (λk=>k=q1\/k=q2) W w'):=O λw3 w' s hc hw=>by
  subst hw;exact⟨(((hc.blk H1.o (λh=>h)).set' 0 _ rfl).set' 1 _ rfl).other _ (Ne.symm u.o),(((hc.blk H2.o (λh=>h)).other _ u.o).other _ u.o).set' 0 _ rfl,((hc.none.setCell (a:=⟨q1,0,none⟩) _ (.inl (.inl rfl))).setCell (a:=⟨q1,1,none⟩) _ (.inl (.inl rfl))).setCell (a:=⟨q2,0,none⟩) _ (.inl (.inr rfl))⟩
 cases o with
 |none=> rw[show jn none (some a)=some a from rfl];have q:=c.o.blk H1.o (λh=>h);have z:=c.o.blk H2.o (λh=>h);dsimp only[Y4,Ur,Option.getD,Option.isSome]at*;have f1:=q.frozen;have f2:=z.frozen;have a0:=Q4 q;have b0:=Jf z;have k0:=Q4 J.o;clear q z;apply WH func203;go_wp2_with fail;rw[<-hk];go_wp2;refine WB rfl rfl ⟨rfl,?_⟩;exact I.o _ _ a c.o rfl
 |some s=>
  have HL:=O (λw=>Qag s a w);rw[Qtw];have b0:=Jf (c.o.blk H2.o (λh=>h));obtain⟨W1,d⟩:=Zx (W.alloc (.cells (Y4 a) 205));rw[<-d]at J c;have ac:=O d;have B0:=O (c.o.blk H0.o (λh=>h));have q:=O (c.o.blk H1.o (λh=>h));have z:=O (c.o.blk H2.o (λh=>h));have BT:=O (HT.o.aB c.o (λh=>h));dsimp only[Y4,Ur,Option.getD,Option.isSome]at*;obtain⟨pT,nT,U⟩:=BT.o;have aa:=O U;unfold ptr Dd Vv at*;clear U;apply WH func203;go_wp2_with fail;rw[<-hk,<-d];have E0:=λx=>Jf (Qk (S:=Qb) B0.o (λh=>h) x);have E1:=λx=>Q4 (Qk (S:=Qb) q.o (λh=>h) x);have E2:=λx=>Q4 (Qk (S:=Qb) J.o (λh=>h) x);have E3:=λx=>X9 (Qk (S:=Qb) aa.o (λh=>h) x);clear hk d;refine ZE [] [0,1,2,3,4,5] [6] [7] (Qb) W1 ?_;simp only[pick,Zf,Ze,Zd];refine Qg ?_;iterate 6 (refine Ql (λK hK=>?_);go_simp;refine hK _ ?_;clear hK K)
  refine Qg ?_;intro _ ab;obtain⟨xo,V⟩:=ab;subst V;simp only[Jd];have c3:=O (Qv Qb W1 xo);generalize Qz Qb W1 xo=w3 at c3|-;clear E0 E1 E2 E3 b0;go_wp2_with fail;with_reducible apply Zz (HL.o _)
  intro w4 d4;have R:=O (c3.o.aA d4);clear d4;go_wp2;refine⟨Qd R.o,?_⟩;have B:=O (R.o.blk q.o (λh=>h));have E:=O (R.o.blk z.o (λh=>h));have K4:=O (R.o.blk J.o (λh=>h));have f1:=B.o.frozen;have f2:=E.o.frozen;have f3:=K4.o.frozen;have a0:=Q4 B.o;have b0:=Jf E.o;have k0:=Q4 K4.o;have F2:=O (λw' hw=>I.o ((w4.setCell ⟨k,0,none⟩ (ZU ((Xn s a).1:Int))).setCell ⟨k,1,none⟩ (ZI (Xn s a).2)) w' (Xn s a) (((c.o.aA R.o).setCell (a:=⟨k,0,none⟩) _ (.inr HK.o)).setCell (a:=⟨k,1,none⟩) _ (.inr HK.o)) hw);clear q z;go_wp2;refine WB rfl rfl ⟨rfl,?_⟩;exact F2.o _ rfl
def Tr.is:Tr->Bool
 | .nil=>false
 | .aD _ _ _ _=>true
theorem Qqo{n:Nat}{x:Nd}{c:Bool}{l r:Tr}(o:Option (Nat×Int))(h:n<x.n):(Tr.aD x c l r).upto n o=l.upto n o:=by rw[Tr.upto,if_pos h]
theorem Qms{n:Nat}{x:Nd}{c:Bool}{l r:Tr}(o:Option (Nat×Int))(h:¬n<x.n):(Tr.aD x c l r).upto n o=r.upto n (jn (jn o l.sum) (some (x.v,x.i))):=by rw[Tr.upto,if_neg h]
theorem Qh.same{w w'}{S:Fp}{b:Nat}{cs:Array Value}{t:TypeId}(c:Qc S w w')(h:Qh w' b cs t)(i:Nat)(v:Value)(I:cs[i]? =some v):Qc S w (w'.setCell ⟨b,i,none⟩ v)/\Qh (w'.setCell ⟨b,i,none⟩ v) b cs t:=by
 have q:cs.setIfInBounds i v=cs:=by
  apply Array.ext_getElem?;intro j;rw[Array.getElem?_setIfInBounds];split
  .rename_i e;subst e;split;·exact I.symm
   .rename_i J;rw[Array.getElem?_eq_none (by omega)]
  .rfl
 have B:Qh (w'.setCell ⟨b,i,none⟩ v) b cs t:=h.set' i v q;have d:Qc (λk=>k=b) w' (w'.setCell ⟨b,i,none⟩ v):=(Zg _ _).setCell (a:=⟨b,i,none⟩) _ (.inl rfl);refine⟨⟨d.os.trans c.os,d.tape.trans c.tape,d.output.trans c.output,Zp c.size d.size,λk u z=>?_⟩,B⟩;by_cases e:k=b;·subst e;have E:=c.block k u z;rw[<-E];exact B.trans (Eq.symm h)
 .exact(d.block k (Nat.lt_of_lt_of_le u c.size) e).trans (c.block k u z)
structure Qju(W:World)(q1 q2:Nat)(o:Option (Nat×Int))(wr:World):Prop where
 b1:Qh wr q1 (Y4 (o.getD (0,0))) 205
 b2:Qh wr q2 #[.bool o.isSome] 4
 c:Qc (λk=>k=q1\/k=q2) W wr
theorem Qju.later{W wr w'}{q1 q2:Nat}{o:Option (Nat×Int)}(h:Qju W q1 q2 o wr)(c:Qc Qb wr w'):Qju W q1 q2 o w':=⟨c.blk h.b1 (λh=>h),c.blk h.b2 (λh=>h),h.c.aA c.none⟩
theorem Ql0{w}{F:Fp}{T:Nat}{l:List Xu}(h:Vz w F T l)(n:Nat):
  ZW 145 #[ptr T,ZU n] w (.tuple #[Ur ((low (l.filter λe=>decide (e.1<=n))).getD (0,0)),.bool (low (l.filter λe=>decide (e.1<=n))).isSome]) λw'=>Qc Qb w w':=by
 obtain⟨t,h⟩:=h;have ah:=Qb1 n t none h.even (by rw[h.flat];exact h.ris);rw[h.flat]at ah;rw[show jn none (low (l.filter λe=>decide (e.1<=n)))=low (l.filter λe=>decide (e.1<=n)) by cases low (l.filter λe=>decide (e.1<=n))<;>rfl]at ah;rw[<-ah];obtain⟨R,hR⟩:=Zx (t.upto n none);rw[<-hR];have HR:=O hR;obtain⟨d,z⟩:=Zx (w.heap.size);obtain⟨W,hW⟩:=Zx (((w.alloc (.cells #[ZP T] 201)).alloc (.cells #[ZU 0,ZI 0] 205)).alloc (.cells #[.bool false] 4));have C0:Hi (Qc Qb w W):=O (by rw[hW];exact(((Zg _ _).alloc _).alloc _).alloc _);have B0:Hi (Qh W d #[ZP T] 201):=O (by rw[hW,z];exact((Qh.new _ _ _).alloc _).alloc _);have B1:Hi (Qh W (d+1) #[ZU 0,ZI 0] 205):=O (by rw[hW,z];exact(Qh.new' _ _ (by simp)).alloc _);have B2:Hi (Qh W (d+1+1) #[.bool false] 4):=O (by rw[hW,z];exact Qh.new' _ _ (by simp));have HQ:=O z;have H:=O (h.aB C0.o (Jl.none F));have aa:=O (λa(ha:a∈T::t.aC)=>show a<d from z▸h.bd a (h.fp a ha));clear h ah hR;apply WH func145;go_wp2_with fail;rw[<-z,<-hW];clear z hW;have HN:=Od ⟨_,_,H.o.top⟩;unfold ptr at HN;have b0:=Jf B0.o;obtain⟨a0,a1,a2,a3⟩:=X9 H.o.top;obtain⟨pt,aq⟩:=t.aS;have a4:=O aq;rw[aq]at a2;clear aq;go_wp2_with fail;apply Zz HN;rintro w1 rfl;go_wp2_with fail;clear a0 a1 a2 a3 HN b0;go_loopg [7] t.size (λg v wr=>∃(s:Tr)(o:Option (Nat×Int)),v=s.aH/\s.size=g/\Jw W s/\(∀a∈s.aC,a∈t.aC)/\s.upto n o=R/\Qju W (d+1) (d+1+1) o wr);case atStart=>exact⟨t,none,a4.o.symm,rfl,H.o.sub.at',λ_ h=>h,HR.o.symm,B1.o,B2.o,Zg _ _⟩
 case round=>
  obtain⟨s,o,rfl,ag,U,V,ae,af⟩:=hrel;have HF:=O ae;have I:=O af;cases s with
  |nil=>
   have ho:o=R:=ae;rw[ho]at I;dsimp only[Tr.aH];clear ag U V ae af ho;have E1:=λx=>Q4 (Qk (S:=Qb) I.o.b1 (λh=>h) x);have E2:=λx=>Jf (Qk (S:=Qb) I.o.b2 (λh=>h) x);go_wp2_with fail;refine ZE [] [0,1] [2,3] [] (Qb) wr ?_;simp only[pick,Zf,Ze,Zd];refine Qg ?_;iterate 2 (refine Ql (λK B=>?_);go_simp;refine B _ ?_;clear B K)
   refine Qg ?_;intro _ ab;obtain⟨xo,q⟩:=ab;subst q;simp only[Jd];have c5:=O (Qv Qb wr xo);generalize Qz Qb wr xo=w5 at c5|-;clear E1 E2;have ak:=O (I.o.later c5.o);have f1:=ak.o.b1.frozen;have X1:=O (Qh.same c5.o ak.o.b1 0 (ZU ((R.getD (0,0)).1:Int)) rfl);have X2:=O (Qh.same X1.o.1 X1.o.2 1 (ZI (R.getD (0,0)).2) rfl);obtain⟨w6,ar⟩:=Zx ((w5.setCell ⟨d+1,0,none⟩ (ZU ((R.getD (0,0)).1:Int))).setCell ⟨d+1,1,none⟩ (ZI (R.getD (0,0)).2));rw[<-ar]at X2;have e0:=Q4 ak.o.b1;go_wp2_with fail;rw[<-ar];refine⟨Qd X2.o.1,?_⟩;have al:=O (I.o.later X2.o.1);have X3:=O (Qh.same X2.o.1 al.o.b2 0 (.bool R.isSome) rfl);have f2:=al.o.b2.frozen;clear f1 ar e0;have e0:=Jf al.o.b2;obtain⟨w7,au⟩:=Zx (w6.setCell ⟨d+1+1,0,none⟩ (.bool R.isSome));rw[<-au]at X3;go_wp2;rw[<-au];refine⟨Qd X3.o.1,?_⟩;clear e0;have am:=O (I.o.later X3.o.1);have e0:=Q4 am.o.b1;have e2:=Jf am.o.b2;have ay:Hi (Qc Qb w w7):=O (C0.o.trans am.o.c λk hk=>.inr (by have:=HQ.o;omega));clear f2 au;go_wp2;refine bodyPost_ret (v:=.tuple #[Ur (R.getD (0,0)),.bool R.isSome]) ?_ rfl ⟨rfl,?_⟩;·simp[*,results,Tryz.results145,go_sem,Ur]
   .exact ay.o
  |aD u cu ul Z=>
   have HA:=O (Jw.aB af.c _ U (λa ha h=>by have:=aa.o a (Zr _ (V a ha));omega));have HU:Hi (Qh W u.a (It u cu ul.aH Z.aH) 267/\u.a<d):=O (⟨U.1,aa.o u.a (Zr _ (V u.a (by simp[Tr.aC])))⟩);have a5:=O U.2.1;have aw:=O U.2.2;have az:=O (λa(ha:a∈ul.aC)=>V a (by simp[Tr.aC,ha]));have av:=O (λa(ha:a∈Z.aC)=>V a (by simp[Tr.aC,ha]));obtain⟨b0,b1,b2,b3,b4,b5,b6,b7⟩:=Ja HA.o.1;dsimp only[Tr.aH];have gl:ul.size<gk:=by rw[<-ag];simp[Tr.size];omega
   have gr:Z.size<gk:=by rw[<-ag];simp[Tr.size];omega
   obtain⟨pl,an⟩:=ul.aS;obtain⟨pr,ap⟩:=Z.aS;have aj:=O an;have E:=O ap;rw[an]at b6;rw[ap]at b7;clear ag U V ae af an ap;by_cases hx:n<u.n
   .have hd:=ZT (show n<u.n by omega);have HX:=O (Qqo (c:=cu) (l:=ul) (r:=Z) o hx);clear hx;go_wp2_with fail;go_roundg ul.size;case rel=>exact⟨ul,o,aj.o.symm,rfl,a5.o,az.o,by rw[<-HX.o];exact HF.o,I.o⟩
    case measure=>exact gl
   .have hd:=ZN (show¬n<u.n by omega);have HX:=O (Qms (c:=cu) (l:=ul) (r:=Z) o hx);clear hx;cases ul with
    |nil=>
     have ao:pl=none:=by have:=aj.o;simpa[Tr.aH]using this.symm
     subst ao;have ac:jn (jn o Tr.nil.sum) (some (u.v,u.i))=jn o (some (u.v,u.i)):=by rw[show Tr.nil.sum=none from rfl,Qna]
     rw[ac]at HX;have S3:=O I.o;clear ac;obtain⟨w3,ax⟩:=Zx wr;rw[<-ax]at S3 HA b0 b1 b2 b3 b4 b5 b6 b7|-;clear ax;obtain⟨o1,J⟩:=Zx o;rw[<-J]at HX S3 HF;clear J;go_wp2_with fail;have A3:Hi (Qh w3 u.a (It u cu Tr.nil.aH Z.aH) 267):=O (S3.o.c.blk HU.o.1 (λh=>by have:=HU.o.2;omega));have T3:=O (S3.o.c.blk H.o.top (λh=>by have:=aa.o T (by simp);omega));have Q3:=O (S3.o.c.blk B0.o (λh=>by omega));have E1:=λx=>Jf (Qk (S:=Qb) Q3.o (λh=>h) x);have E2:=λx=>X9 (Qk (S:=Qb) T3.o (λh=>h) x);have E3:=λx=>Ja (Qk (S:=Qb) A3.o (λh=>h) x);unfold Dd Vv at E2;rw[E.o]at E3;clear b0 b1 b2 b3 b4 b5 b6 b7;refine ZE [0] [1,2,3,4,5,6,7,8,9,10,11,12] [13] [14] (Qb) w3 ?_;simp only[pick,Zf,Ze,Zd];iterate 1 (refine Ql (λK B=>?_);go_simp;refine B _ ?_;clear B K)
     refine Qg ?_;iterate 12 (refine Ql (λK B=>?_);go_simp;refine B _ ?_;clear B K)
     refine Qg ?_;intro _ ab;obtain⟨xo,q⟩:=ab;subst q;simp only[Jd];have c5:=O (Qv Qb w3 xo);generalize Qz Qb w3 xo=w5 at c5|-;clear E1 E2 E3;have HO:=O (λw=>Su u.n u.i u.v w);unfold Yo at HO;go_wp2_with fail;apply Z9 (HO.o _) (λ_ d6=>c5.o.aA d6);intro w6 c6;go_wp2;refine⟨Qd c6.o,?_⟩;have S6:=O (S3.o.later c6.o);have HC:=O (Ff (q1:=d+1) (q2:=d+1+1) o1 (u.v,u.i) (c6.o.blk Q3.o (λh=>h)) S6.o.b1 S6.o.b2 ⟨_,_,c6.o.blk T3.o (λh=>h)⟩ (by omega));unfold ptr Ur at HC;have A6:=c6.o.blk A3.o (λh=>h);have ai:=O A6;clear A6;go_wp2_with fail;apply Zy HC;rintro w7⟨k1,k2,k3⟩;have S7:Hi (Qju W (d+1) (d+1+1) (jn o1 (some (u.v,u.i))) w7):=O ⟨k1,k2,S6.o.c.aA k3⟩;have A7:=k3.blk ai.o (λh=>by have:=HU.o.2;omega);rw[E.o]at A7;have b0:=Ja A7;clear k1 k2 k3 A7;go_wp2_with fail;go_roundg Z.size;case rel=>exact⟨Z,_,E.o.symm,rfl,aw.o,av.o,by rw[<-HX.o];exact HF.o,S7.o⟩
     case measure=>exact gr
    |aD y cy yl yr=>
     have ao:pl=some ⟨y.a,0,none⟩:=by have:=aj.o;simpa[Tr.aH]using this.symm
     subst ao;have d0:=Ja HA.o.2.1.1;have HC:=O (Ff (q1:=d+1) (q2:=d+1+1) o (y.sv,y.si) (I.o.c.blk B0.o (λh=>by omega)) I.o.b1 I.o.b2 ⟨_,_,I.o.c.blk H.o.top (λh=>by have:=aa.o T (by simp);omega)⟩ (by omega));unfold ptr Ur at HC;obtain⟨o1,J⟩:=Zx (jn o (some (y.sv,y.si)));have ac:jn (jn o (Tr.aD y cy yl yr).sum) (some (u.v,u.i))=jn o1 (some (u.v,u.i)):=by rw[J];rfl
     rw[ac]at HX;rw[<-J]at HC;clear ac J;go_wp2_with fail;apply Zy HC;rintro w3⟨k1,k2,k3⟩;have S3:Hi (Qju W (d+1) (d+1+1) o1 w3):=O ⟨k1,k2,I.o.c.aA k3⟩;clear k1 k2 k3 d0;have A3:Hi (Qh w3 u.a (It u cu (Tr.aD y cy yl yr).aH Z.aH) 267):=O (S3.o.c.blk HU.o.1 (λh=>by have:=HU.o.2;omega));have T3:=O (S3.o.c.blk H.o.top (λh=>by have:=aa.o T (by simp);omega));have Q3:=O (S3.o.c.blk B0.o (λh=>by omega));have E1:=λx=>Jf (Qk (S:=Qb) Q3.o (λh=>h) x);have E2:=λx=>X9 (Qk (S:=Qb) T3.o (λh=>h) x);have E3:=λx=>Ja (Qk (S:=Qb) A3.o (λh=>h) x);unfold Dd Vv at E2;rw[E.o]at E3;clear b0;go_wp2_with fail;refine ZE [0] [1,2,3,4,5,6,7,8,9,10,11,12] [13] [14] (Qb) w3 ?_;simp only[pick,Zf,Ze,Zd];iterate 1 (refine Ql (λK B=>?_);go_simp;refine B _ ?_;clear B K)
     refine Qg ?_;iterate 12 (refine Ql (λK B=>?_);go_simp;refine B _ ?_;clear B K)
     refine Qg ?_;intro _ ab;obtain⟨xo,q⟩:=ab;subst q;simp only[Jd];have c5:=O (Qv Qb w3 xo);generalize Qz Qb w3 xo=w5 at c5|-;clear E1 E2 E3;have HO:=O (λw=>Su u.n u.i u.v w);unfold Yo at HO;go_wp2_with fail;apply Z9 (HO.o _) (λ_ d6=>c5.o.aA d6);intro w6 c6;go_wp2;refine⟨Qd c6.o,?_⟩;have S6:=O (S3.o.later c6.o);have HC:=O (Ff (q1:=d+1) (q2:=d+1+1) o1 (u.v,u.i) (c6.o.blk Q3.o (λh=>h)) S6.o.b1 S6.o.b2 ⟨_,_,c6.o.blk T3.o (λh=>h)⟩ (by omega));unfold ptr Ur at HC;have A6:=c6.o.blk A3.o (λh=>h);have ai:=O A6;clear A6;go_wp2_with fail;apply Zy HC;rintro w7⟨k1,k2,k3⟩;have S7:Hi (Qju W (d+1) (d+1+1) (jn o1 (some (u.v,u.i))) w7):=O ⟨k1,k2,S6.o.c.aA k3⟩;have A7:=k3.blk ai.o (λh=>by have:=HU.o.2;omega);rw[E.o]at A7;have b0:=Ja A7;clear k1 k2 k3 A7;go_wp2_with fail;go_roundg Z.size;case rel=>exact⟨Z,_,E.o.symm,rfl,aw.o,av.o,by rw[<-HX.o];exact HF.o,S7.o⟩
     case measure=>exact gr
end
section
attribute [local go_sem ↓] Vw Vx
attribute [local go_sem] Ds Oy
theorem Qbh(k:Fn)(c d:Array Value)(w):(binOp .eql 219 (.func k c d) .nilFunc).run prog w=.ok (.bool false) w:=Pf w _ _ _ _ underlying219 k c d
attribute [local go_sem] Qbh
theorem R8{W}{q:Nat}(a:Nat×Int)(v:Nat)(h:Qh W q #[ZU v] 22):
  ZW 147 #[Ur a,ptr q] W (.bool (decide (a.1<=v))) λw'=>Qc Qb W w':=by
 have c:=O ((Zg Qb W).alloc (.cells (Y4 a) 205));have d:=Jf (c.o.blk h (λh=>h));have k:=Q4 (Qh.new W (Y4 a) 205);dsimp only[Y4,Ur]at*;unfold ptr;clear h;apply WH func147;go_wp2;go_ret;refine⟨?_,c.o⟩;congr 2
theorem Qjm{v:Nat}{x:Nd}{c:Bool}{r:Tr}:(Tr.aD x c .nil r).within v=if x.v<=v then some (x.n,x.i,x.v)else r.within v:=rfl
theorem Qjn{v:Nat}{x y:Nd}{c cy:Bool}{yl yr r:Tr}:(Tr.aD x c (.aD y cy yl yr) r).within v=if y.sv<=v then(Tr.aD y cy yl yr).within v else if x.v<=v then some (x.n,x.i,x.v)else r.within v:=rfl
def Qrc(o:Option Xu):Value:=match o with
 |none=>Yo 0 0
 |some e=>Yo e.1 e.2.1
theorem Qlz{w}{F:Fp}{T q:Nat}{l:List Xu}(h:Vz w F T l)(v:Nat)(hq:Qh w q #[ZU v] 22):
  ZW 146 #[ptr T,.func (.func 147) #[] #[ptr q]] w (.tuple #[Qrc (Xf v l),.bool (Xf v l).isSome]) λw'=>Qc Qb w w':=by
 obtain⟨t,h⟩:=h;have an:=Sa v t h.even;rw[h.flat]at an;obtain⟨R,hR⟩:=Zx (Xf v l);rw[<-hR];have HR:Hi (t.within v=R):=O (an.trans hR.symm);obtain⟨Z,ae⟩:=Zx (w.heap.size);obtain⟨W,hW⟩:=Zx (w.alloc (.cells #[ZU 0,ZI 0] 199));have C0:Hi (Qc Qb w W):=O (by rw[hW];exact(Zg _ _).alloc _);have B0:Hi (Qh W Z #[ZU 0,ZI 0] 199):=O (by rw[hW,ae];exact Qh.new _ _ _);have BQ:=O (C0.o.blk hq (λh=>h));have HQ:=O ae;have H:=O (h.aB C0.o (Jl.none F));clear h an hR hq;apply WH func146;go_wp2_with fail;rw[<-ae,<-hW];clear ae hW;have HN:=Od ⟨_,_,H.o.top⟩;unfold ptr at HN;obtain⟨a0,a1,a2,a3⟩:=X9 H.o.top;obtain⟨pt,am⟩:=t.aS;have av:=O am;rw[am]at a2;clear am;apply Zz HN;rintro w1 rfl;go_wp2_with fail;clear a0 a1 a2 a3 HN;go_loopg [6] t.size (λg vv wr=>∃s:Tr,vv=s.aH/\s.size=g/\Jw W s/\s.within v=R/\Qc Qb W wr);case atStart=>exact⟨t,av.o.symm,rfl,H.o.sub.at',HR.o,Zg _ _⟩
 case round=>
  obtain⟨s,rfl,ah,af,ag,J⟩:=hrel;have HF:=O ag;have CR:=O J;cases s with
  |nil=>
   have ho:R=none:=ag.symm;subst ho;have BR:=CR.o.blk B0.o (λh=>h);have e0:=Q4 BR;have f1:=BR.frozen;have aa:Hi (Qc Qb w ((wr.setCell ⟨Z,0,none⟩ (ZU 0)).setCell ⟨Z,1,none⟩ (ZI 0))):=O (((C0.o.aA CR.o).setCell (a:=⟨Z,0,none⟩) _ (.inr (by have:=HQ.o;simp;omega))).setCell (a:=⟨Z,1,none⟩) _ (.inr (by have:=HQ.o;simp;omega)));dsimp only[Tr.aH];clear ah af ag J BR;go_wp2;refine bodyPost_ret (v:=.tuple #[.agg #[ZU 0,ZI 0],.bool false]) ?_ rfl ⟨rfl,?_⟩;·simp[*,results,Tryz.results146,go_sem]
   .exact aa.o
  |aD u cu ul ur=>
   have HA:=O (Jw.aB J _ af (λa ha h=>h));have ai:=O af;have T3:=O (J.blk H.o.top (λh=>h));have Q3:=O (J.blk BQ.o (λh=>h));obtain⟨b0,b1,b2,b3,b4,b5,I,b7⟩:=Ja HA.o.1;dsimp only[Tr.aH];have gl:ul.size<gk:=by rw[<-ah];simp[Tr.size];omega
   have gr:ur.size<gk:=by rw[<-ah];simp[Tr.size];omega
   obtain⟨pr,al⟩:=ur.aS;have E:=O al;rw[al]at b7;clear ah af ag J al;cases ul with
   |nil=>
    have U:Tr.nil.aH=.pointer none:=rfl;rw[U]at I;clear U;have HX:=O (Qjm (v:=v) (x:=u) (c:=cu) (r:=ur));obtain⟨w3,au⟩:=Zx wr;rw[<-au]at CR HA T3 Q3 b0 b1 b2 b3 b4 b5 I b7|-;clear au;go_wp2_with fail;have E2:=λx=>X9 (Qk (S:=Qb) T3.o (λh=>h) x);have E3:=λx=>Ja (Qk (S:=Qb) HA.o.1 (λh=>h) x);unfold Dd Vv at E2;rw[E.o]at E3;clear b0 b1 b2 b3 b4 b5 I b7;refine ZE [0] [1,2,3,4,5,6,7,8,9,10,11,12] [13,14,15] [] (Qb) w3 ?_;simp only[pick,Zf,Ze,Zd];iterate 1 (refine Ql (λK hK=>?_);go_simp;refine hK _ ?_;clear hK K)
    refine Qg ?_;iterate 12 (refine Ql (λK hK=>?_);go_simp;refine hK _ ?_;clear hK K)
    refine Qg ?_;intro _ ao;obtain⟨xo,ab⟩:=ao;subst ab;simp only[Jd];have c5:=O (Qv Qb w3 xo);generalize Qz Qb w3 xo=w5 at c5|-;clear E2 E3;have HO:=O (λw=>Su u.n u.i u.v w);unfold Yo at HO;go_wp2_with fail;apply Z9 (HO.o _) (λ_ d6=>c5.o.aA d6);intro w6 c6;go_wp2;refine⟨Qd c6.o,?_⟩;have d:=O (R8 (u.v,u.i) v (c6.o.blk Q3.o (λh=>h)));unfold ptr Ur at d;by_cases V:u.v<=v
    .rw[decide_eq_true V]at d;have ak:R=some (u.n,u.i,u.v):=by have:=HF.o;rw[HX.o,if_pos V]at this;exact this.symm
     subst ak;clear V;go_wp2_with fail;apply ZF d (λ_ z=>c6.o.aA z);intro w7 k;go_wp2;refine⟨Qd k.o,?_⟩;go_wp2;refine⟨Qd k.o,?_⟩;have B:=k.o.blk HA.o.1 (λh=>h);have C7:=O (CR.o.aA k.o);have B7:=C7.o.blk B0.o (λh=>h);have b0:=Ja B;have e0:=Q4 B7;have f1:=B7.frozen;have aa:Hi (Qc Qb w ((w7.setCell ⟨Z,0,none⟩ (ZU u.n)).setCell ⟨Z,1,none⟩ (ZI u.i))):=O (((C0.o.aA C7.o).setCell (a:=⟨Z,0,none⟩) _ (.inr (by have:=HQ.o;simp;omega))).setCell (a:=⟨Z,1,none⟩) _ (.inr (by have:=HQ.o;simp;omega)));clear B B7;go_wp2;refine bodyPost_ret (v:=.tuple #[.agg #[ZU u.n,ZI u.i],.bool true]) ?_ rfl ⟨rfl,?_⟩;·simp[*,results,Tryz.results146,go_sem]
     .exact aa.o
    .rw[decide_eq_false V]at d;have aj:Hi (ur.within v=R):=O (by have:=HF.o;rw[HX.o,if_neg V]at this;exact this);clear V;go_wp2_with fail;apply ZF d (λ_ z=>c6.o.aA z);intro w7 k;go_wp2;refine⟨Qd k.o,?_⟩;go_wp2;refine⟨Qd k.o,?_⟩;have B:=k.o.blk HA.o.1 (λh=>h);rw[E.o]at B;obtain⟨b0,b1,b2,b3,b4,b5,I,b7⟩:=Ja B;have C7:=O (CR.o.aA k.o);clear B;go_wp2_with fail;go_roundg ur.size;case rel=>exact⟨ur,E.o.symm,rfl,ai.o.2.2,aj.o,C7.o⟩
     case measure=>exact gr
   |aD y cy yl yr=>
    have U:(Tr.aD y cy yl yr).aH=ZP y.a:=rfl;have aq:=O U;rw[U]at I;clear U;have ar:=O (Qjn (v:=v) (x:=u) (y:=y) (c:=cu) (cy:=cy) (yl:=yl) (yr:=yr) (r:=ur));have d0:=Ja HA.o.2.1.1;have HW:=O (R8 (y.sv,y.si) v Q3.o);unfold ptr Ur at HW;by_cases hy:y.sv<=v
    .rw[decide_eq_true hy]at HW;have HY:=O hy;clear hy;go_wp2_with fail;apply Zy HW;intro w3 c3;have A3:=c3.blk HA.o.1 (λh=>h);rw[aq.o]at A3;clear b0 b1 b2 b3 b4 b5 I b7 d0;have b0:=Ja A3;have C3:=O (CR.o.aA c3);clear c3 A3;go_wp2_with fail;go_roundg (Tr.aD y cy yl yr).size;case rel=>exact⟨_,aq.o.symm,rfl,ai.o.2.1,by have:=HF.o;rw[ar.o,if_pos HY.o]at this;exact this,C3.o⟩
     case measure=>exact gl
    .rw[decide_eq_false hy]at HW;have HX:Hi ((Tr.aD u cu (.aD y cy yl yr) ur).within v=if u.v<=v then some (u.n,u.i,u.v)else ur.within v):=O (by rw[ar.o,if_neg hy]);clear hy;go_wp2_with fail;apply Zy HW;intro w3 c3;have ac:=O (Jw.aB c3 _ HA.o (λa ha h=>h));have ax:=O (c3.blk T3.o (λh=>h));have aw:=O (c3.blk Q3.o (λh=>h));have ap:=O (CR.o.aA c3);clear b0 d0 c3;have b0:=Ja ac.o.1;go_wp2_with fail;have E2:=λx=>X9 (Qk (S:=Qb) ax.o (λh=>h) x);have E3:=λx=>Ja (Qk (S:=Qb) ac.o.1 (λh=>h) x);unfold Dd Vv at E2;rw[E.o]at E3;clear b0;refine ZE [0] [1,2,3,4,5,6,7,8,9,10,11,12] [13,14,15] [] (Qb) w3 ?_;simp only[pick,Zf,Ze,Zd];iterate 1 (refine Ql (λK hK=>?_);go_simp;refine hK _ ?_;clear hK K)
     refine Qg ?_;iterate 12 (refine Ql (λK hK=>?_);go_simp;refine hK _ ?_;clear hK K)
     refine Qg ?_;intro _ ao;obtain⟨xo,ab⟩:=ao;subst ab;simp only[Jd];have c5:=O (Qv Qb w3 xo);generalize Qz Qb w3 xo=w5 at c5|-;clear E2 E3;have HO:=O (λw=>Su u.n u.i u.v w);unfold Yo at HO;go_wp2_with fail;apply Z9 (HO.o _) (λ_ d6=>c5.o.aA d6);intro w6 c6;go_wp2;refine⟨Qd c6.o,?_⟩;have d:=O (R8 (u.v,u.i) v (c6.o.blk aw.o (λh=>h)));unfold ptr Ur at d;by_cases V:u.v<=v
     .rw[decide_eq_true V]at d;have ak:R=some (u.n,u.i,u.v):=by have:=HF.o;rw[HX.o,if_pos V]at this;exact this.symm
      subst ak;clear V;go_wp2_with fail;apply ZF d (λ_ z=>c6.o.aA z);intro w7 k;go_wp2;refine⟨Qd k.o,?_⟩;go_wp2;refine⟨Qd k.o,?_⟩;have B:=k.o.blk ac.o.1 (λh=>h);have C7:=O (ap.o.aA k.o);have B7:=C7.o.blk B0.o (λh=>h);have b0:=Ja B;have e0:=Q4 B7;have f1:=B7.frozen;have aa:Hi (Qc Qb w ((w7.setCell ⟨Z,0,none⟩ (ZU u.n)).setCell ⟨Z,1,none⟩ (ZI u.i))):=O (((C0.o.aA C7.o).setCell (a:=⟨Z,0,none⟩) _ (.inr (by have:=HQ.o;simp;omega))).setCell (a:=⟨Z,1,none⟩) _ (.inr (by have:=HQ.o;simp;omega)));clear B B7;go_wp2;refine bodyPost_ret (v:=.tuple #[.agg #[ZU u.n,ZI u.i],.bool true]) ?_ rfl ⟨rfl,?_⟩;·simp[*,results,Tryz.results146,go_sem]
      .exact aa.o
     .rw[decide_eq_false V]at d;have aj:Hi (ur.within v=R):=O (by have:=HF.o;rw[HX.o,if_neg V]at this;exact this);clear V;go_wp2_with fail;apply ZF d (λ_ z=>c6.o.aA z);intro w7 k;go_wp2;refine⟨Qd k.o,?_⟩;go_wp2;refine⟨Qd k.o,?_⟩;have B:=k.o.blk ac.o.1 (λh=>h);rw[E.o]at B;have b0:=Ja B;have C7:=O (ap.o.aA k.o);clear B;go_wp2_with fail;go_roundg ur.size;case rel=>exact⟨ur,E.o.symm,rfl,ai.o.2.2,aj.o,C7.o⟩
      case measure=>exact gr
end
def Tr.like:Tr->Tr->Prop
 | .nil,.nil=>True
 | .aD x c l r,.aD y d l' r'=>(y.n=x.n/\y.i=x.i/\y.v=x.v/\y.sv=x.sv/\y.si=x.si/\d=c)/\l.like l'/\r.like r'
 |_,_=>False
theorem Ck:∀{t k:Tr},t.like k->k.flat=t.flat
 | .nil,.nil,_=>rfl
 | .aD x c l r,.aD y d l' r',⟨⟨h1,h2,h3,_⟩,hl,hr⟩=>by rw[Jb,Jb,Ck hl,Ck hr,h1,h2,h3]
theorem Qah{t c:Tr}(h:t.like c):c.red=t.red:=by cases t<;>cases c<;>first|rfl|exact h.elim|exact h.1.2.2.2.2.2
theorem I9:∀{t k:Tr},t.like k->k.bh=t.bh
 | .nil,.nil,_=>rfl
 | .aD x c l r,.aD y d l' r',⟨⟨_,_,_,_,_,h6⟩,hl,hr⟩=>by simp only[Tr.bh,I9 hl,h6]
theorem Qe8:∀{t k:Tr},t.like k->t.ok->k.ok
 | .nil,.nil,_,_=>trivial
 | .aD x c l r,.aD y d l' r',⟨⟨_,_,_,_,_,h6⟩,hl,hr⟩,⟨o1,o2,o3,o4⟩=>⟨Qe8 hl o1,Qe8 hr o2,by rw[Qah hr];exact o3,λq=>by rw[Qah hl];exact o4 (h6▸q)⟩
theorem Qhq:∀{t k:Tr},t.like k->k.sum=t.sum
 | .nil,.nil,_=>rfl
 | .aD x c l r,.aD y d l' r',⟨⟨_,_,_,h4,h5,_⟩,hl,hr⟩=>by simp only[Tr.sum,h4,h5]
theorem Cj:∀{t k:Tr},t.like k->t.even->k.even
 | .nil,.nil,_,_=>trivial
 | .aD x c l r,.aD y d l' r',⟨⟨h1,h2,h3,h4,h5,h6⟩,hl,hr⟩,⟨o1,o2,o3,o4⟩=>by
  refine⟨Cj hl o1,Cj hr o2,by rw[I9 hl,I9 hr];exact o3,?_⟩;have e:some (Pr y l' r')=some (Pr x l r):=by rw[Qmo,Qmo,Qhq hl,Qhq hr,h2,h3]
  rw[h4,h5,o4];exact(Zs e).symm
theorem Qo3{t d:Tr}(h:t.like d){m:Nat}(c:Yp t m):Yp d m:=⟨Qe8 h c.1,Cj h c.2.1,by rw[I9 h];exact c.2.2⟩
theorem Qfe{w}{x:Nd}{c:Bool}{l r:Tr}(hA:Jw w (.aD x c l r))
  (il:∀w,Jw w l->Cl 232 #[l.aH] w λe w'=>∃q,e=.returned q.aH/\l.like q/\Jw w' q/\q.aC.Nodup/\(∀a∈q.aC,w.heap.size<=a/\a<w'.heap.size)/\Qc Qb w w')
  (ir:∀w,Jw w r->Cl 232 #[r.aH] w λe w'=>∃q,e=.returned q.aH/\r.like q/\Jw w' q/\q.aC.Nodup/\(∀a∈q.aC,w.heap.size<=a/\a<w'.heap.size)/\Qc Qb w w'):
  Cl 232 #[ptr x.a] w λe w'=>∃q,e=.returned q.aH/\(Tr.aD x c l r).like q/\Jw w' q/\q.aC.Nodup/\(∀a∈q.aC,w.heap.size<=a/\a<w'.heap.size)/\Qc Qb w w':=by
 obtain⟨k,hk⟩:=Zx (w.heap.size);obtain⟨W,hW⟩:=Zx (w.alloc (.cells (It x c l.aH r.aH) 267));have C0:Hi (Qc Qb w W):=O (by rw[hW];exact(Zg _ _).alloc _);have B0:Hi (Qh W k (It x c l.aH r.aH) 267):=O (by rw[hW,hk];exact Qh.new _ _ _);have HA:=O hA;have HK:=O hk;have IL:=O il;have IR:=O ir;obtain⟨pl,V⟩:=l.aS;obtain⟨pr,Z⟩:=r.aS;obtain⟨a0,a1,a2,a3,a4,a5,a6,a7⟩:=Ja hA.1;have af:=O V;have ag:=O Z;dsimp only[It]at*;rw[V]at a6 hW B0 IL;rw[Z]at a7 hW B0 IR;clear hA il ir V Z;apply WH func232;go_wp2_with fail;rw[<-hk,<-hW];clear hk hW a0 a1 a2 a3 a4 a5 a6 a7;have AW:=O (Jw.aB C0.o _ HA.o (λa _ h=>h));have E1:=λx=>Ja (Qk (S:=Qb) AW.o.1 (λh=>h) x);rw[af.o,ag.o]at E1;go_wp2_with fail;refine ZE [] [0,1,2,3,5,6,7,8] [4,9] [10,11,12,13] (Qb) W ?_;simp only[pick,Zf,Ze,Zd];refine Qg ?_;iterate 8 (refine Ql (λK hK=>?_);go_simp;refine hK _ ?_;clear hK K)
 refine Qg ?_;intro _ ah;obtain⟨xo,ac⟩:=ah;subst ac;simp only[Jd];have c1:=O (Qv Qb W xo);generalize Qz Qb W xo=w1 at c1|-;clear E1;go_wp2_with fail;refine(IL.o w1 (Jw.aB c1.o _ AW.o.2.1 (λa _ h=>h))).mono ?_;rintro e w2⟨tl,rfl,u,I,R,B,d2⟩;have c2:=O (c1.o.aA d2);have HL:=O (Zt u (Zt I (Zt R (Zt B c1.o.size))));clear u I R B d2;go_wp2;refine⟨Qd c2.o,?_⟩;go_wp2_with fail;refine(IR.o w2 (Jw.aB c2.o _ AW.o.2.2 (λa _ h=>h))).mono ?_;rintro e w3⟨tr,rfl,z,J,U,E,d3⟩;have c3:=O (c2.o.aA d3);have HR:=O (Zt z (Zt J (Zt U E)));have D3:=O d3;clear z J U E d3;go_wp2;refine⟨Qd c3.o,?_⟩;have B3:=O (c3.o.blk B0.o (λh=>h));have f3:=B3.o.frozen;obtain⟨ql,aa⟩:=tl.aS;obtain⟨qr,ab⟩:=tr.aS;have ae:Hi (∀w',w'=(w3.setCell ⟨k,6,none⟩ (.pointer ql)).setCell ⟨k,7,none⟩ (.pointer qr)->∃q:Tr,.returned (ZP k)=Ending.returned q.aH/\(Tr.aD x c l r).like q/\Jw w' q/\q.aC.Nodup/\(∀a∈q.aC,w.heap.size<=a/\a<w'.heap.size)/\Qc Qb w w'):=O (by
  rintro w' rfl;obtain⟨u,I,R,B,s1⟩:=HL.o;obtain⟨z,J,U,E⟩:=HR.o;have aj:=HK.o;have s0:=C0.o.size;have s2:=c2.o.size;have s3:=D3.o.size;have ai:=B0.o.lt;have hc:Qc (λj=>j=k) w3 ((w3.setCell ⟨k,6,none⟩ (.pointer ql)).setCell ⟨k,7,none⟩ (.pointer qr)):=((Zg (λj=>j=k) w3).setCell (a:=⟨k,6,none⟩) _ (.inl rfl)).setCell (a:=⟨k,7,none⟩) _ (.inl rfl);have n1:∀a∈tl.aC,¬a=k:=λa ha=>by have:=B a ha;omega
  have n2:∀a∈tr.aC,¬a=k:=λa ha=>by have:=E a ha;omega
  refine⟨.aD {x with a:=k} c tl tr,rfl,⟨⟨rfl,rfl,rfl,rfl,rfl,rfl⟩,u,z⟩,⟨?_,Jw.aB hc _ (Jw.aB D3.o _ I (λa _ h=>h)) n1,Jw.aB hc _ J n2⟩,?_,?_,?_⟩;·have:=(B3.o.set' 6 (.pointer ql) rfl).set' 7 (.pointer qr) rfl;rw[aa,ab];exact this
  .simp only[Tr.aC,List.nodup_append,List.nodup_cons,Zu];refine⟨R,⟨λh=>n2 _ h rfl,U⟩,λa ha d hd e=>?_⟩;subst e;rcases hd with rfl|hd;·exact n1 _ ha rfl
   .have q1:=B _ ha;have q2:=E _ hd;omega
  .intro a ha;have:=hc.size;simp only[Tr.aC,Zl,Zu]at ha;rcases ha with ha|rfl|ha;·have:=B _ ha;omega
   .omega
   .have:=E _ ha;omega
  .exact((C0.o.aA c3.o).setCell (a:=⟨k,6,none⟩) _ (.inr (by show w.heap.size<=k;omega))).setCell (a:=⟨k,7,none⟩) _ (.inr (by show w.heap.size<=k;omega)))
 rw[aa,ab];have a0:=Ja B3.o;clear aa ab D3;go_wp2;go_ret;exact ae.o _ rfl
theorem Rj:∀(t:Tr)(w),Jw w t->Cl 232 #[t.aH] w λe w'=>∃d,e=.returned d.aH/\t.like d/\Jw w' d/\d.aC.Nodup/\(∀a∈d.aC,w.heap.size<=a/\a<w'.heap.size)/\Qc Qb w w'
 | .nil,w,_=>by
  have h:ZW 232 #[.pointer none] w (.pointer none) λw'=>w=w':=by apply WH func232;exact WE
  apply Zz h;rintro w' rfl;exact⟨.nil,rfl,trivial,trivial,List.nodup_nil,nofun,Zg _ _⟩
 | .aD x c l r,w,h=>Qfe h (λw k=>Rj l w k) (λw q=>Rj r w q)
theorem Qlx{w}{F:Fp}{T:Nat}{l:List Xu}(h:Vz w F T l):
  Cl 185 #[ptr T] w λe w'=>∃b,e=.returned (ptr b)/\Vz w' (Qn Qb w w') b l/\Qc Qb w w':=by
 obtain⟨t,h⟩:=h;obtain⟨k,U⟩:=Zx (w.heap.size);obtain⟨pt,u⟩:=t.aS;obtain⟨W,B⟩:=Zx (w.alloc (.cells #[Dd,Vv,.pointer pt,ZI l.length] 269));have K:Hi (Qc Qb w W):=O (by rw[B];exact(Zg _ _).alloc _);have J:Hi (Qh W k #[Dd,Vv,.pointer pt,ZI l.length] 269):=O (by rw[B,U];exact Qh.new _ _ _);have H:=O h;have HK:=O U;have HC:=O (Rj t W (Jw.aB K.o _ h.sub.at' (λa _ h=>h)));rw[u]at HC;have R:=h.top;rw[u]at R;have HT:=O (K.o.blk R (λh=>h));have a0:=X9 R;unfold ptr Dd Vv at*;have e0:=X9 (show Qh (w.alloc (.cells #[.func (.func 180) #[] #[],.func (.func 181) #[] #[],.pointer pt,ZI l.length] 269)) T _ _ from B▸HT.o);clear h u R;apply WH func185;go_wp2_with fail;rw[<-U,<-B];clear U B a0;go_wp2_with fail;apply Zo HC;rintro e w2⟨V,rfl,c,E,I,d,z⟩;obtain⟨q,hq⟩:=V.aS;have Z:Hi (∀w',w'=w2.setCell ⟨k,2,none⟩ (.pointer q)->Vz w' (Qn Qb w w') k l/\Qc Qb w w'):=O (by
  rintro w' rfl;have hc:Qc (λj=>j=k) w2 (w2.setCell ⟨k,2,none⟩ (.pointer q)):=(Zg (λj=>j=k) w2).setCell (a:=⟨k,2,none⟩) _ (.inl rfl);have ac:=HK.o;have ab:=J.o.lt;have s2:=z.size;have s0:=K.o.size;have aa:Qc Qb w (w2.setCell ⟨k,2,none⟩ (.pointer q)):=(K.o.aA z).setCell (a:=⟨k,2,none⟩) _ (.inr (by show w.heap.size<=k;omega));have hB:=(z.blk J.o (λh=>h)).set' 2 (.pointer q) (cs':=#[Dd,Vv,V.aH,ZI l.length]) (by rw[hq];rfl);have n1:∀a∈V.aC,¬a=k:=λa ha=>by have:=d a ha;omega
  obtain⟨m,hm⟩:=H.o.fine;refine⟨⟨V,hB,⟨⟨_,_,hB⟩,List.nodup_cons.2 ⟨λh=>n1 _ h rfl,I⟩,Jw.aB hc _ E n1⟩,⟨m,Qo3 c hm⟩,(Qah c).trans H.o.blk,(Ck c).trans H.o.flat,H.o.ris,?_,λj hj=>hj.elim (λh=>h.elim) (λh=>h.2)⟩,aa⟩;intro a ha;have sz:=hc.size;rcases Zu.1 ha with rfl|ha;·exact .inr ⟨by omega,by omega⟩
  .have:=d a ha;exact .inr ⟨by omega,by omega⟩)
 have f2:∀j,w2.frozen? ⟨k,j,none⟩=false:=(z.blk J.o (λh=>h)).frozen;have d0:=X9 (z.blk J.o (λh=>h));rw[hq];clear hq E I d c z e0;go_wp2;go_ret;exact⟨_,rfl,Z.o _ rfl⟩
def Qet(b T m:Nat)(l:List Xu)(L:List (Int×Value)):List Ya:=
 [Tv b #[ptr T,.map (some m)] 208,λw G=>Vz w G T l,Qo8 m L]
theorem Yl(b T m:Nat)(l:List Xu)(L:List (Int×Value)):∀P∈Qet b T m l L,Uy P:=by
 intro P c;simp only[Qet,Zu,List.not_mem_nil,or_false]at c;rcases c with rfl|rfl|rfl;·exact Ks _ _ _
 .exact Vz.obj.good T l
 .exact Qhd _ _
def Jg(w:World)(F:Fp)(b:Nat)(l:List Xu):Prop:=Ol l/\∃T m L,L.Perm (atV l)/\Oh (Qet b T m l L) w F
theorem Jg.obj:Hf Jg where
 bd:=λ⟨_,T,m,L,_,h⟩=>(Je (Yl _ T m _ L)).bd h
 own:=λ⟨_,T,m,L,_,h⟩=>by obtain⟨G,k,q⟩:=J6 (Yl _ T m _ L) 0 rfl h;exact q _ k.2.1
 aB:=λ⟨c,T,m,L,d,h⟩z B=>⟨c,T,m,L,d,(Je (Yl _ T m _ L)).aB h z B⟩
 more:=λ⟨c,T,m,L,d,h⟩E u=>⟨c,T,m,L,d,(Je (Yl _ T m _ L)).more h E u⟩
theorem Jg.opn{w}{F:Fp}{b:Nat}{l:List Xu}(h:Jg w F b l):
  ∃T m L,L.Perm (atV l)/\Qh w b #[ptr T,.map (some m)] 208/\(∃G,Vz w G T l)/\Xq w m L:=by
 obtain⟨_,T,m,L,u,h⟩:=h;obtain⟨z,d,_⟩:=J6 (Yl _ T m _ L) 0 rfl h;obtain⟨c,k,_⟩:=J6 (Yl _ T m _ L) 1 rfl h;obtain⟨B,q,_⟩:=J6 (Yl _ T m _ L) 2 rfl h;exact⟨T,m,L,u,d.1,⟨c,k⟩,q.1⟩
theorem Jg.ris{w}{F:Fp}{b:Nat}{l:List Xu}(h:Jg w F b l):Xd l:=by obtain⟨T,m,L,q,d,⟨G,c⟩,k⟩:=h.opn;exact c.ris
theorem Dp{w}{b T:Nat}{v:Value}(h:Qh w b #[ptr T,v] 208):ZW 130 #[ptr b] w (ptr T) λw'=>w=w':=by have c:=Q4 h;clear h;apply WH func130;exact WE
theorem Qn1{w}{F:Fp}{b:Nat}{l:List Xu}(h:Jg w F b l):ZW 160 #[ptr b] w (ZI l.length) λw'=>w=w':=by obtain⟨T,m,L,z,c,⟨G,d⟩,u⟩:=h.opn;have q:=O (Dp c);have k:=O (Qp0 d);clear h z c d u;apply WH func160;go_wp2_with fail;apply Zy q;rintro w1 rfl;go_wp2_with fail;apply Zy k;rintro w1 rfl;exact WE
theorem My{w}{F:Fp}{b:Nat}{l:List Xu}(h:Jg w F b l):ZW 80 #[ptr b] w (.tuple #[ZU (((low l).getD (0,0)).1:Int),.bool (low l).isSome]) λw'=>Qc Qb w w':=by obtain⟨T,m,L,z,d,⟨G,k⟩,u⟩:=h.opn;have q:=O (Dp d);have c:=O (Qpy k);generalize low l=o at c|-;unfold ptr Ur at*;clear h z d k u;apply WH func80;go_wp2_with fail;apply Zy q;rintro w1 rfl;go_wp2_with fail;apply Zy c;intro w1 B;go_wp2;go_ret2;refine⟨rfl,?_⟩;(exact Z0)
theorem Qge{w}{F:Fp}{b:Nat}{l:List Xu}(h:Jg w F b l)(k:Nat):ZW 93 #[ptr b,ZU k] w (.tuple #[ZI ((Jt k l).getD (0,0)).2,.bool (Jt k l).isSome]) λw'=>Qc Qb w w':=by obtain⟨T,m,L,B,d,⟨G,q⟩,z⟩:=h.opn;have u:=O (Dp d);have c:=O (Ql0 q k);unfold Jt;generalize low (l.filter λe=>decide (e.1<=k))=o at c|-;unfold ptr Ur at*;clear h B d q z;apply WH func93;go_wp2_with fail;apply Zy u;rintro w1 rfl;go_wp2_with fail;apply Zy c;intro w1 E;go_wp2;go_ret2;refine⟨rfl,?_⟩;(exact Z0)
theorem Qen{w}{F:Fp}{b:Nat}{l:List Xu}(h:Jg w F b l)(v:Nat):ZW 94 #[ptr b,ZU v] w (.tuple #[ZI (((Xf v l).map (·.2.1)).getD 0),.bool (Xf v l).isSome]) λw'=>Qc Qb w w':=by
 obtain⟨T,m,L,K,u,⟨G,z⟩,J⟩:=h.opn;have q:=Zx (w.heap.size);have d:=O ((Zg Qb w).alloc (.cells #[ZU v] 22));have I:=O (Dp (d.o.blk u (λh=>h)));have c:=O (Qlz (Vz.obj.aB z d.o (Jl.none G)) v (Qh.new w #[ZU v] 22));have B:Qrc (Xf v l)=.agg #[ZU ((((Xf v l).map (·.1)).getD 0:Nat):Int),ZI (((Xf v l).map (·.2.1)).getD 0)]:=by cases Xf v l<;>rfl
 rw[B]at c;generalize((Xf v l).map (·.1)).getD 0=U at c;generalize((Xf v l).map (·.2.1)).getD 0=V at c|-;generalize(Xf v l).isSome=Z at c|-;clear h K u z J B;apply WH func94;go_wp2_with fail;apply Zy I;rintro w1 rfl;go_wp2_with fail;apply ZF c (λ_ k=>d.o.aA k);intro w1 E;go_wp2;go_ret2;refine⟨rfl,?_⟩;have:=E.o;(exact Z0)
section
attribute [local irreducible] Kl J9
theorem Qjr(w):(zeroValue 199).run prog w=.ok (.agg #[ZU 0,ZI 0]) w:=by go_simp
theorem Qre{F:Fp}{w w1 w2 w3 d:World}(q:w.heap.size<=w1.heap.size)(u:w1.heap.size<=w2.heap.size)(z:w2.heap.size<=w3.heap.size)(B:w3.heap.size<=d.heap.size):∀k,Qn (Qn F w1 w2) w3 d k->Qn F w d k:=by
 intro k c;rcases c with(c|c)|c;·exact .inl c
 .exact .inr ⟨by omega,by omega⟩
 .exact .inr ⟨by omega,by omega⟩
theorem Qux{F:Fp}{w w':World}(h:Bd F w)(d:w.heap.size<=w'.heap.size):Bd (Qn F w w') w':=λk c=>c.elim (λc=>Nat.lt_of_lt_of_le (h k c) d) (λc=>c.2)
theorem Qt4{l:List Xu}(h:Ol l){e f:Xu}(u:e∈l)(z:f∈l)(B:e.2.1=f.2.1):e=f:=by
 unfold Ol at h;induction l with
 |nil=>cases u
 |cons a l E=>
  simp only[List.map_cons,List.nodup_cons]at h;rcases Zu.1 u with q|d
  .rcases Zu.1 z with k|c;·rw[q,k]
   .exact absurd (Z3.2 ⟨f,c,by rw[<-B,q]⟩) h.1
  .rcases Zu.1 z with k|c;·exact absurd (Z3.2 ⟨e,d,by rw[B,k]⟩) h.1
   .exact E h.2 d c
theorem Qjx{l:List Xu}(h:Ol l){e:Xu}(c:e∈l):On e.2.1 l=some e:=by
 cases d:On e.2.1 l with
 |none=>exact absurd rfl (Pu d _ c)
 |some f=> obtain⟨k,q⟩:=Pv d;rw[Qt4 h k c q]
theorem Qn0{w}{F:Fp}{b:Nat}{l:List Xu}(h:Jg w F b l)(n:Nat)(id:Int)(v:Nat)(E:(n,id,v)∈l):
  ZW 78 #[ptr b,ZI id] w (.tuple #[ZU n,ZU v,.bool true]) λw'=>Qc Qb w w':=by
 obtain⟨T,m,L,Z,k,⟨G,R⟩,U⟩:=h.opn;have V:On id l=some (n,id,v):=Qjx h.1 E;have c:=Qht (id:=id) Z h.1;rw[V,Zn]at c;have B:=Dj (P:=prog) U underlying206 underlying3 (Qjr w) id;rw[c]at B;dsimp only[Option.getD_some,Option.isSome_some]at B;obtain⟨q,I⟩:=Zx (w.heap.size);obtain⟨W,u⟩:=Zx (w.alloc (.cells #[ZU n,ZI id] 199));have z:Hi (Qc Qb w W):=O (by rw[u];exact(Zg _ _).alloc _);have J:Hi (Qh W q #[ZU n,ZI id] 199):=O (by rw[u,I];exact Qh.new _ _ _);have B0:=O (z.o.blk k (λh=>h));have HO:=O (Dp k);have HG:=O (λw'(hc:Qc Qb w w')=>Qpz (Vz.obj.aB R hc (Jl.none G)) n id v E);have a0:=Q4 k;unfold ptr Yo at*;clear h Z k R U V c E;apply WH func78;go_wp2_with fail;apply Zy HO;rintro w1 rfl;go_wp2_with fail;rw[<-I,<-u];clear I u a0 B;have b0:=Q4 B0.o.drew;have k0:=Q4 J.o.drew;apply XC 32100200000 Qb W;apply YA 0;clear b0 k0;go_wp2_with fail;apply Zz (HG.o _ (z.o.aA (Zg Qb W).drew));intro w2 K;have d:Hi (Qc Qb W w2):=O ((Zg Qb W).drew.aA K);clear K;go_wp2_with fail;refine⟨d.o,?_⟩;apply YA 0;go_wp2_with fail;refine⟨d.o,?_⟩;apply YI 0;have k0:=Q4 (d.o.blk J.o (λh=>h));go_wp2;refine bodyPost_ret (v:=.tuple #[ZU n,ZU v,.bool true]) ?_ rfl ⟨rfl,?_⟩;·simp[*,results,Tryz.results78,go_sem]
 .exact z.o.aA d.o
end
theorem Qjw{l:List Xu}(h:Ol l){e:Xu}(c:e∈l):Xa e.2.1 l=del e.1 e.2.1 l:=Qgj h c rfl
theorem Jg.o{w W w2 w3}{F:Fp}{b:Nat}{l:List Xu}{e:Xu}(h:Jg w F b l)(he:e∈l){T m:Nat}{L:List (Int×Value)}(hp:L.Perm (atV l))(hs:Oh (Qet b T m l L) w F)(z:Qc Qb w W)
  (hM:Xq w2 m (Vu e.2.1 L)) (V:Qc (λj=>j=m) W w2) (B:Qc Qb w2 w3):
  Qh w3 b #[ptr T,.map (some m)] 208/\∃G,Vz w3 G T l/\∀w4,Qc G w3 w4->Vz w4 (Qn G w3 w4) T (del e.1 e.2.1 l)->Jg w4 (Qn F w w4) b (Xa e.2.1 l)/\Qc F w w4:=by
 have g:=Je (Yl b T m l L);have s1:=g.aB hs z (Jl.none F);obtain⟨G2,⟨m1,m2,m3⟩,u,ab,d⟩:=Xv 2 (Yl b T m l L) rfl s1;have I:Qc G2 W w2:=V.sub λk U=>U▸m2;have s2:Oh (Qet b T m l (Vu e.2.1 L)) w2 (Qn F W w2):=d w2 (Qo8 m (Vu e.2.1 L)) I ⟨hM,.inl m2,m3.ext I⟩;have J:=Yl b T m l (Vu e.2.1 L);have s3:=(Je J).aB s2 B (Jl.none _);obtain⟨B0,K,_⟩:=J6 J 0 rfl s3;obtain⟨G,hG,q,aa,c⟩:=Xv 1 J rfl s3;refine⟨K.1,G,hG,λw4 E hT=>?_⟩;have s4:Oh (Qet b T m (del e.1 e.2.1 l) (Vu e.2.1 L)) w4 (Qn (Qn F W w2) w3 w4):=c w4 (λw G=>Vz w G T (del e.1 e.2.1 l)) E hT;have R:=Jg.obj.bd h;have Z:Qc F w w4:=((z.none.aA (I.sub u)).aA B.none).trans E λk U=>(q k U).elim .inl (λh=>.inr (Zp z.size h.1));have s5:=(Je (Yl b T m _ _)).more s4 (Qre z.size V.size B.size E.size) (R.ext Z);refine⟨⟨h.1.drop,T,m,_,Qq1 hp,?_⟩,Z⟩;rw[Qjw h.1 he];exact s5
theorem Jg.same{w w'}{F:Fp}{b:Nat}{l:List Xu}{id:Int}(h:Jg w F b l)(q:On id l=none)(c:Qc Qb w w'):Jg w' (Qn F w w') b (Xa id l)/\Qc F w w':=by rw[M7 (Pu q)];exact⟨Jg.obj.more (Jg.obj.aB h c (Jl.none F)) (λk d=>.inl d) ((Jg.obj.bd h).ext (c.none (F:=F))),c.none⟩
theorem Tt{w}{F:Fp}{b:Nat}{l:List Xu}(h:Jg w F b l)(hl:l.length<4611686018427387904)(id:Int):
  ZW 210 #[ptr b,ZI id] w (.bool (On id l).isSome) λw'=>Jg w' (Qn F w w') b (Xa id l)/\Qc F w w':=by
 have hH:=h;obtain⟨ho,T,m,L,hp,V⟩:=h;obtain⟨G0,d,_⟩:=J6 (Yl _ T m _ L) 0 rfl V;obtain⟨G2,k,_⟩:=J6 (Yl _ T m _ L) 2 rfl V;have d:=d.1;have k:=k.1;have z:=Qht (id:=id) hp ho;have B:=Dj (P:=prog) k underlying206 underlying3 (Qjr w) id;rw[z]at B;have HO:=O (Dp d);obtain⟨a0,a1⟩:=Q4 d;obtain⟨q,hq⟩:=Zx (w.heap.size);cases E:On id l with
 |none=> rw[E]at B;dsimp only[Option.map_none,Option.getD_none,Option.isSome_none]at B|-;have c:=O (λw'(hc:Qc Qb w w')=>hH.same E hc);clear d k z hp V E hH hl;apply WH func210;go_wp2_with fail;apply Zy HO;rintro w1 rfl;go_wp2;go_ret;refine⟨rfl,c.o _ ?_⟩;(exact Z0)
 |some e0=>
  obtain⟨u,U⟩:=Pv E;obtain⟨n,i,v⟩:=e0;dsimp only at U;subst U;rw[E]at B;dsimp only[Zn,Option.getD_some,Option.isSome_some]at B|-;obtain⟨W,hW⟩:=Zx (w.alloc (.cells #[ZU n,ZI i] 199));have C0:Hi (Qc Qb w W):=O (by rw[hW];exact(Zg _ _).alloc _);have K0:Hi (Qh W q #[ZU n,ZI i] 199):=O (by rw[hW,hq];exact Qh.new _ _ _);have B0:=O (C0.o.blk d (λh=>h));obtain⟨w2,R,J,c2⟩:=Di (P:=prog) (k.aB C0.o (λh=>h)) underlying206 underlying3 3 0 i;have AO:=O (λw3 I=>Jg.o hH u hp V C0.o J c2 (w3:=w3) I);have K2:=O (c2.blk K0.o (λe=>by have:=k.lt;have:=hq;omega));have aa:=O (λw3 G(h:Vz w3 G T l)=>Qly h hl n i ⟨_,u,rfl,rfl⟩);unfold ptr Yo at*;clear d k z hp V E hH u J c2 hl;apply WH func210;go_wp2_with fail;apply Zy HO;rintro w1 rfl;go_upto_region 6 with fail;rw[<-hq,<-hW];clear hq hW a0 a1 B;obtain⟨a0,a1⟩:=Q4 B0.o;go_wp2_with fail;clear a0 a1 R;have E1:=λx=>Q4 (Qk (S:=Qb) ((AO.o w2 (Zg _ _)).1) (λh=>h) x);have E2:=λx=>Q4 (Qk (S:=Qb) K2.o (λh=>h) x);refine ZE [] [0,1,2,3,4] [] [5,6,7] (Qb) w2 ?_;simp only[pick,Zf,Ze,Zd];refine Qg ?_;iterate 5 (refine Ql (λK hK=>?_);go_simp;refine hK _ ?_;clear hK K)
  refine Qg ?_;intro _ ab;obtain⟨xo,Z⟩:=ab;subst Z;simp only[Jd];have I:=Qv Qb w2 xo;generalize Qz Qb w2 xo=w3 at I|-;obtain⟨_,G,hG,c⟩:=AO.o w3 I;have HF:=O c;have HD:=O (aa.o w3 G hG);clear E1 E2 c hG I;go_wp2_with fail;apply ZF HD (λw4 ⟨hT,c4⟩=>HF.o w4 c4 hT);intro w4 FF;exact WD FF
theorem Jg.putIn{w W}{F:Fp}{b:Nat}{l:List Xu}(ho:Ol l){n v:Nat}{i:Int}(hn:∀e∈l,e.2.1≠i){T m:Nat}{L:List (Int×Value)}(hp:L.Perm (atV l))(hs:Oh (Qet b T m l L) w F)(B:Qc Qb w W):
  Qh W b #[ptr T,.map (some m)] 208/\∃G,Vz W G T l/\(∀k,G k->F k)/\(∀w2 w3,Qc G W w2->Vz w2 (Qn G W w2) T (Un (n,i,v) l)->Qc Qb w2 w3->
   Qh w3 b #[ptr T,.map (some m)] 208/\Xq w3 m L/\(∀c,Qc (λj=>j=m) w3 c->Xq c m (Oi i (Yo n i) L)->Jg c (Qn F w c) b (Un (n,i,v) l)/\Qc F w c)):=by
 have E:=Yl b T m l L;have s1:=(Je E).aB hs B (Jl.none F);obtain⟨B0,U,_⟩:=J6 E 0 rfl s1;obtain⟨G,hG,d,aa,q⟩:=Xv 1 E rfl s1;refine⟨U.1,G,hG,d,λw2 w3 I hT J=>?_⟩;have s2:Oh (Qet b T m (Un (n,i,v) l) L) w2 (Qn F W w2):=q w2 (λw G=>Vz w G T (Un (n,i,v) l)) I hT;have R:=Yl b T m (Un (n,i,v) l) L;have s3:=(Je R).aB s2 J (Jl.none _);obtain⟨B1,V,_⟩:=J6 R 0 rfl s3;obtain⟨G2,⟨m1,m2,m3⟩,z,ab,u⟩:=Xv 2 R rfl s3;refine⟨V.1,m1,λc c4 hM=>?_⟩;have K:Qc G2 w3 c:=c4.sub λk hk=>hk▸m2;have s4:Oh (Qet b T m (Un (n,i,v) l) (Oi i (Yo n i) L)) c (Qn (Qn F W w2) w3 c):=u c (Qo8 m (Oi i (Yo n i) L)) K ⟨hM,.inl m2,m3.ext K⟩;have Z:=(Je E).bd hs;have cF:Qc F w c:=((B.none.aA (I.sub d)).aA J.none).trans K λk hk=>(z k hk).elim .inl (λh=>.inr (Zp B.size h.1));have s5:=(Je (Yl b T m _ _)).more s4 (Qre B.size I.size J.size c4.size) (Z.ext cF);refine⟨⟨?_,T,m,_,Qta hp hn,s5⟩,cF⟩;have:=Ol.put (id:=i) (key:=n) (value:=v) ho;unfold Vf at this;rwa[M7 hn]at this
theorem Qn.ext{F:Fp}{w w1 w2}{b:Nat}{l:List Xu}(h:Jg w2 (Qn (Qn F w w1) w1 w2) b l)(c:w.heap.size<=w1.heap.size)(d:w1.heap.size<=w2.heap.size)(k:Bd F w):Jg w2 (Qn F w w2) b l:=
 Jg.obj.more h (Qn.trans c d) (Qux k (Zp c d))
theorem Qct{w}{F:Fp}{b:Nat}{l:List Xu}(h:Jg w F b l)(hl:l.length<4611686018427387903)(id:Int)(n v:Nat):
  ZW 212 #[ptr b,ZI id,ZU n,ZU v] w (.tuple #[]) λw'=>Jg w' (Qn F w w') b (Vf id n v l)/\Qc F w w':=by
 have HD:=O (Tt h (by omega) id);obtain⟨T0,m0,L0,ah,U,_⟩:=h.opn;have HO:=O (Dp U);have ac:=O (Jg.obj.bd h);have ag:(Xa id l).length<=l.length:=List.length_filter_le _ _;have d:Hi (∀e∈Xa id l,e.2.1≠id):=O (λe he hi=>by have:=(List.mem_filter.1 he).2;simp at this;exact this hi);have u:Hi (Un (n,id,v) (Xa id l)=Vf id n v l):=O rfl;have J:Hi ((Xa id l).length<4611686018427387904):=O (by omega);generalize Vf id n v l=lp at u|-;generalize Xa id l=ld at HD d u J;clear h ah U ag hl;apply WH func212;go_wp2_with fail;apply Zy HO;rintro w1 rfl;go_wp2_with fail;apply Zy HD;rintro w1⟨⟨ho,T,m,L,hp,hs⟩,c1⟩;obtain⟨q,hq⟩:=Zx (w1.heap.size);obtain⟨W,hW⟩:=Zx (w1.alloc (.cells #[ZU n,ZI id] 199));have C0:Hi (Qc Qb w1 W):=O (by rw[hW];exact(Zg _ _).alloc _);have K0:Hi (Qh W q #[ZU n,ZI id] 199):=O (by rw[hW,hq];exact Qh.new _ _ _);have PU:=O (λW(c0:Qc Qb w1 W)=>Jg.putIn (n:=n) (v:=v) ho d.o hp hs c0);have C1:=O c1;have BB:=O ((PU.o W C0.o).1);have ab:=O ((Je (Yl _ T m _ L)).bd hs);have KQ:Hi (∀k,(Qn F w w1) k->k≠q):=O (λk hk e=>by have:=ab.o k hk;omega);clear ho hp hs c1;go_wp2_with fail;rw[<-hq,<-hW];clear hq hW;have E1:=λx=>Q4 (Qk (S:=Qb) BB.o (λh=>h) x);have E2:=λx=>Q4 (Qk (S:=Qb) K0.o (λh=>h) x);refine ZE [] [0,1,2,3,4,5] [] [6] (Qb) W ?_;simp only[pick,Zf,Ze,Zd];refine Qg ?_;iterate 6 (refine Ql (λK Z=>?_);go_simp;refine Z _ ?_;clear Z K)
 refine Qg ?_;intro _ z;obtain⟨xo,c⟩:=z;subst c;simp only[Jd];have c3:=O (Qv Qb W xo);generalize Qz Qb W xo=w3 at c3|-;clear E1 E2;obtain⟨_,G,hG,V,NX⟩:=PU.o w3 (C0.o.aA c3.o);have HG:=O hG;have ae:=O V;have af:=O NX;have R:=O (Qp2 HG.o J.o n id v (λe he h=>d.o e he h.2));have K3:=O (c3.o.blk K0.o (λh=>h));unfold Yo ptr at R;clear hG V NX;go_wp2_with fail;apply Zy R;rintro E⟨hT,c5⟩;have N5:=O (λw6(B:Qc Qb E w6)=>af.o E w6 c5 hT B);have K5:=O (c5.blk K3.o (λh=>KQ.o _ (ae.o _ h) rfl));have S5:=O (Zp C0.o.size (Zp c3.o.size c5.size));have E1:=λx=>Q4 (Qk (S:=Qb) ((N5.o E (Zg _ _)).1) (λh=>h) x);have E2:=λx=>Q4 (Qk (S:=Qb) K5.o (λh=>h) x);clear hT c5;unfold ptr at E1;go_wp2_with fail;refine ZE [] [0,1,2,3,4,5] [] [6] (Qb) E ?_;simp only[pick,Zf,Ze,Zd];refine Qg ?_;iterate 6 (refine Ql (λK Z=>?_);go_simp;refine Z _ ?_;clear Z K)
 refine Qg ?_;intro _ z;obtain⟨xo,c⟩:=z;subst c;simp only[Jd];have B:=Qv Qb E xo;generalize Qz Qb E xo=w6 at B|-;clear E1 E2;obtain⟨_,hM,I⟩:=N5.o w6 B;obtain⟨w7,ai,aa,c7⟩:=X6 (P:=prog) hM underlying206 underlying3 id (Yo n id);have FF:=O (I w7 c7 aa);have SS:=O (Zp S5.o (Zp B.size c7.size));unfold Yo at ai;clear I aa c7 hM B;go_wp2;refine WB rfl rfl ⟨rfl,?_⟩;rw[<-u.o];exact⟨Qn.ext FF.o.1 C1.o.size SS.o ac.o,C1.o.ext FF.o.2⟩
theorem Qo9{w}{b:Nat}{L:List (Int×Value)}(h:Xq w b L):ZW 186 #[.map (some b)] w (.map (some w.heap.size)) λw'=>Xq w' w.heap.size L/\Qc Qb w w':=by obtain⟨q,d,u,c⟩:=h;have k:=O c;have z:=λw=>run_eql_map_nil_sl (P:=prog) w 206 _ _ (some b) underlying206;clear c;apply WH func186;go_wp2;rw[run_callFunc_extern func144 (by kernel_rfl) (by kernel_rfl) (by kernel_rfl) (e:=Extern.MapsClone.clone) (by kernel_rfl),run_maps_clone_sl w 206 u];simp only[Result.andThen];rw[Oper.upon_value];go_wp2;rw[run_typeAssert_map_sl _ 206 _ _ _ _ underlying206];simp only[Result.andThen];rw[Oper.upon_value];go_wp2;go_ret;exact⟨rfl,⟨q,d,(MapKept.heap_alloc w _).1,k.o⟩,(Zg _ _).alloc _⟩
theorem Jg.made{w w':World}{b T m:Nat}{G:Fp}{l:List Xu}{L:List (Int×Value)}(V:Ol l)(Z:L.Perm (atV l))(q:Qh w' b #[ptr T,.map (some m)] 208)(z:Vz w' G T l)(d:Xq w' m L)
  (E:w.heap.size<=b) (I:w.heap.size<=m) (J:∀k,G k->w.heap.size<=k) (K:b≠m) (R:¬G b) (U:¬G m):Jg w' (Qn Qb w w') b l:=by
 have B:Bd (Qn Qb w w') w':=λk c=>c.elim (λh=>h.elim) (λh=>h.2);have u:=Vz.obj.bd z;refine⟨V,T,m,L,Z,?_⟩;refine Q7 (G:=λk=>k=b) (H:=λk=>G k\/k=m) ⟨q,rfl,λk e=>e▸q.lt⟩ (Q7 (G:=G) (H:=λk=>k=m) z (Y6 ⟨d,rfl,λk e=>e▸d.lt⟩ (λk e=>e▸d.lt)) ?_ (λk h=>.inl h) (λk h=>.inr h) ?_) ?_ ?_ ?_ B;·rintro k c rfl;exact U c
 .intro k c;rcases c with c|rfl;·exact u k c
  .exact d.lt
 .rintro k rfl c;rcases c with c|c;·exact R c
  .exact K c
 .rintro k rfl;exact .inr ⟨E,q.lt⟩
 .intro k c;rcases c with c|rfl;·exact .inr ⟨J k c,u k c⟩
  .exact .inr ⟨I,d.lt⟩
theorem Bw(w):Cl 116 #[] w λe w'=>∃b,e=.returned (ptr b)/\Jg w' (Qn Qb w w') b []/\Qc Qb w w':=by
 have z:=O (Qp1 w);unfold ptr Dd Vv at*;apply WH func116;go_wp2_with fail;apply Zy z;rintro w1⟨u,d⟩;have c:Hi (∀w',w'=(w1.alloc (.map #[] 0)).alloc (.cells #[ZP w.heap.size,.map (some w1.heap.size)] 208)->Jg w' (Qn Qb w w') (w1.heap.size+1) []/\Qc Qb w w'):=O (by
  rintro w' rfl;have q:Qc Qb w1 ((w1.alloc (.map #[] 0)).alloc (.cells #[ZP w.heap.size,.map (some w1.heap.size)] 208)):=((Zg _ _).alloc _).alloc _;have s1:=d.size;refine⟨Jg.made (T:=w.heap.size) (m:=w1.heap.size) (G:=Qn Qb w w1) (L:=[]) List.nodup_nil (List.Perm.refl _) (Qh.new' _ _ (by simp)) (Vz.obj.aB u q (Jl.none _)) ((Xq.new w1).aB ((Zg Qb _).alloc _) (λh=>h)) (by omega) (by omega) (λk B=>B.elim (λh=>h.elim) (λh=>h.1)) (by omega) ?_ ?_,d.aA q⟩
  .rintro(h|h);·exact h
   .omega
  .rintro(h|h);·exact h
   .omega)
 have E:=@run_makeMap prog;clear u d;go_wp2;go_ret;exact⟨_,rfl,c.o _ rfl⟩
theorem Ao{w}{F:Fp}{b:Nat}{l:List Xu}(h:Jg w F b l):Cl 125 #[ptr b] w λe w'=>∃b',e=.returned (ptr b')/\Jg w' (Qn Qb w w') b' l/\Qc Qb w w':=by
 have ho:=h.1;obtain⟨T,m,L,hp,Z,⟨G,h1⟩,h2⟩:=h.opn;have HC:=O (λw'(c:Qc Qb w w')=>Qlx (Vz.obj.aB h1 c (Jl.none G)));have HM:=O (λw'(c:Qc Qb w w')=>Qo9 (h2.aB c (λh=>h)));have HP:=O (Zt ho hp);have H0:=O Z;have a0:=Q4 Z;have E1:=λx=>Q4 (Qk (S:=Qb) H0.o (λh=>h) x);clear h ho hp Z h1 h2;apply WH func125;go_wp2_with fail;clear a0;refine ZE [] [0,1,2,3,5,6,7,8] [4,9,10,11,12] [] (Qb) w ?_;simp only[pick,Zf,Ze,Zd];refine Qg ?_;iterate 8 (refine Ql (λK hK=>?_);go_simp;refine hK _ ?_;clear hK K)
 refine Qg ?_;intro _ aa;obtain⟨xo,z⟩:=aa;subst z;simp only[Jd];have E:=O (Qv Qb w xo);generalize Qz Qb w xo=w1 at E|-;clear E1;go_wp2_with fail;refine(HC.o w1 E.o).mono ?_;rintro e w2⟨B,rfl,hT,U⟩;have R:=O (E.o.aA U);have HT:=O hT;have D2:=O U;clear hT U;go_wp2;refine⟨Qd R.o,?_⟩;go_wp2_with fail;apply Zz (HM.o w2 R.o);rintro w3⟨hM,V⟩;have I:=O (R.o.aA V);have u:=O hM;have D3:=O V;clear hM V;go_wp2;refine⟨Qd I.o,?_⟩;go_wp2;refine⟨Qd I.o,?_⟩;have J:Hi (∀w',w'=w3.alloc (.cells #[ZP B,.map (some w2.heap.size)] 208)->Jg w' (Qn Qb w w') w3.heap.size l/\Qc Qb w w'):=O (by
  rintro w' rfl;have q:Qc Qb w3 (w3.alloc (.cells #[ZP B,.map (some w2.heap.size)] 208)):=(Zg _ _).alloc _;have s1:=E.o.size;have s2:=D2.o.size;have s3:=D3.o.size;have s4:=u.o.lt;refine⟨Jg.made (T:=B) (m:=w2.heap.size) (G:=Qn Qb w1 w2) (L:=L) HP.o.1 HP.o.2 (Qh.new _ _ _) (Vz.obj.aB (Vz.obj.aB HT.o D3.o (Jl.none _)) q (Jl.none _)) (u.o.aB q (λh=>h)) (by omega) (by omega) (λk hk=>hk.elim (λh=>h.elim) (λh=>by omega)) (by omega) ?_ ?_,I.o.aA q⟩
  .rintro(h|h);·exact h
   .omega
  .rintro(h|h);·exact h
   .omega)
 obtain⟨w4,d⟩:=Zx (w3.alloc (.cells #[ZP B,.map (some w2.heap.size)] 208));have q:Hi (Qc Qb w w4):=O (d▸I.o.alloc _);obtain⟨f1,f2⟩:=J.o w4 d;have FF:=O (Zt f1 f2);clear f1 f2;go_wp2;rw[<-d];refine⟨Qd q.o,?_⟩;clear d;go_wp2;refine⟨Qd q.o,?_⟩;exact WG FF
section
open Go.Shelf
attribute [local go_sem] Oper.semAt_some
attribute [local irreducible] Uo
theorem Qac{T:Fp}(W):Le T W W.drew:=λb o _ h _=>h
theorem Le.refl{T:Fp}(W):Le T W W:=λb o _ h _=>h
theorem Jw.kpt{T:Fp}{w w'}(d:Le T w w'):∀(t:Tr),Jw w t->(∀a∈t.aC,T a)->Jw w' t
 | .nil,_,_=>trivial
 | .aD x c l r,⟨h1,h2,h3⟩,hT=>⟨d.blk h1 (hT x.a (by simp[Tr.aC])),Jw.kpt d l h2 (λa ha=>hT a (by simp[Tr.aC,ha])),Jw.kpt d r h3 (λa ha=>hT a (by simp[Tr.aC,ha]))⟩
def Qof(x:Xu):Array Value:=#[Yo x.1 x.2.1,ZU x.2.2]
def Ok(T:Fp)(J k:List Xu->World->Prop)(c l:List Xu)(W:World)(e:Ending)(d:World):Prop:=
 ∃b:Bool,e=.returned (.bool b)/\(b=true->J (c++l) d/\Le T W d)/\(b=false->∃p,p<+:l/\k (c++p) d)
theorem Qrb{n l:Nat}{T:Fp}{J k:List Xu->World->Prop}(u:∀c W,J c W->J c W.drew)(c:List Xu)(W)(q:J c W):
  CallsIn Fence.wide n prog 234 #[.pointer none,.func (.yield l) #[] #[]] W (Ok T J k c [] W):=by
 have d:Hi (Ok T J k c [] W (.returned (.bool true)) W.drew):=O ⟨true,rfl,λ_=>⟨by rw[List.append_nil];exact u _ _ q,Qac W⟩,nofun⟩;clear q u;refine callsIn_of_wp func234 rfl trivial ?_ rfl;simp only[ntmps234,List.size_toArray,Zm,List.length_nil,Nat.reduceAdd,Nat.reduceSub,Array.replicate_succ,Array.replicate_zero,List.push_toArray,List.append_toArray,List.nil_append,List.cons_append];gi_wp2;refine Lx [(0,0),(0,1),(0,2),(0,3),(0,4),(0,5),(0,6),(0,7),(2,8),(0,9),(0,10),(0,11),(0,12),(0,13),(0,14),(0,15),(0,16),(0,17),(0,18),(2,19),(0,20),(0,21),(0,22),(0,23),(0,24),(0,25),(0,26),(2,27),(0,28),(0,29),(2,30)] Zq (by kernel_rfl) (λ_ _ _ _ _ h=>h) ?_;simp only[Jk,Zf,Ze,Zd];iterate 3 (refine Et (h:=?_))
 iterate 26 (first|(refine Qf4 (by kernel_rfl) ?_)|(refine Ae (by kernel_rfl) ?_)|(refine Qf3 (by kernel_rfl) ?_);try simp only[Act.put,Za,Zc,Zb])
 refine Et (h:=?_);refine Bl ?_;gi_wp2;refine Qf2 ?_;gi_wp2;refine bodyPost_ret (v:=.bool true) (by simp[results,Tryz.results234,go_sem]) rfl d.o
theorem Qoc{n l N:Nat}{T:Fp}{J z:List Xu->World->Prop}(hJ:∀d W,J d W->J d W.drew)
  (hY:∀m d x W1,J d W1->d.length<N->YieldAt Fence.wide m prog l (Qof x) W1 λe W'=>(e=.returned (.bool true)/\J (d++[x]) W'/\Le T W1 W')\/(e=.returned (.bool false)/\z (d++[x]) W'))
  {x:Nd} {c:Bool} {L R:Tr} (d:List Xu) (W) (hA:Jw W (.aD x c L R)) (hT:∀a∈(Tr.aD x c L R).aC,T a) (h0:J d W) (u:d.length+(Tr.aD x c L R).flat.length<=N)
  (il:∀m d W,Jw W L->J d W->d.length+L.flat.length<=N->CallsIn Fence.wide m prog 234 #[L.aH,.func (.yield l) #[] #[]] W (Ok T J z d L.flat W))
  (ir:∀m d W,Jw W R->J d W->d.length+R.flat.length<=N->CallsIn Fence.wide m prog 234 #[R.aH,.func (.yield l) #[] #[]] W (Ok T J z d R.flat W)):
  CallsIn Fence.wide n prog 234 #[ZP x.a,.func (.yield l) #[] #[]] W (Ok T J z d (Tr.aD x c L R).flat W):=by
 have HB:=O hA.1;have HA:=O hA;have HJ:=O hJ;have HY:=O hY;have H0:=O h0;have HL:=O u;have IL:=O il;have IR:=O ir;have HT:=O hT;obtain⟨pl,ac⟩:=L.aS;obtain⟨pr,ae⟩:=R.aS;rw[ac]at HB IL;rw[ae]at HB IR;clear hA hJ hY h0 u il ir hT ac ae;refine callsIn_of_wp func234 rfl trivial ?_ rfl;simp only[ntmps234,List.size_toArray,Zm,List.length_nil,Nat.reduceAdd,Nat.reduceSub,Array.replicate_succ,Array.replicate_zero,List.push_toArray,List.append_toArray,List.nil_append,List.cons_append];gi_wp2;have V:=Ja HB.o.drew;refine Lx [(0,0),(0,1),(0,2),(0,3),(0,4),(0,5),(0,6),(0,7),(2,8),(0,9),(0,10),(0,11),(0,12),(0,13),(0,14),(0,15),(0,16),(0,17),(0,18),(2,19),(0,20),(0,21),(0,22),(0,23),(0,24),(0,25),(0,26),(2,27),(0,28),(0,29),(2,30)] Zq (by kernel_rfl) (λ_ _ _ _ _ h=>h) ?_;simp only[Jk,Zf,Ze,Zd];iterate 8 (refine Et (h:=?_))
 clear V;refine Bl ?_;gi_wp2;refine⟨trivial,(λh=>by cases h),?_⟩;refine(IL.o _ d W.drew (Jw.aB ((Zg Qb W).drew) _ HA.o.2.1 (λa _ h=>h)) (HJ.o _ _ H0.o) (by have:=HL.o;simp[Tr.flat]at this;omega)).mono ?_;rintro e w1⟨b1,rfl,E,K⟩;cases b1
 .obtain⟨p,hp,hx⟩:=K rfl;have k:Hi (Ok T J z d (Tr.aD x c L R).flat W (.returned (.bool false)) w1):=O ⟨false,rfl,nofun,λ_=>⟨p,hp.trans (by simp[Tr.flat]),hx⟩⟩;clear E K hp hx;gi_wp2;iterate 1 (first|refine Et (h:=?_)|refine Dl (h:=?_);try simp only[Act.put,Za,Zc,Zb])
  iterate 10 (first|(refine Qf4 (by kernel_rfl) ?_)|(refine Ae (by kernel_rfl) ?_)|(refine Qf3 (by kernel_rfl) ?_);try simp only[Act.put,Za,Zc,Zb])
  iterate 2 (first|refine Et (h:=?_)|refine Dl (h:=?_);try simp only[Act.put,Za,Zc,Zb])
  iterate 6 (first|(refine Qf4 (by kernel_rfl) ?_)|(refine Ae (by kernel_rfl) ?_)|(refine Qf3 (by kernel_rfl) ?_);try simp only[Act.put,Za,Zc,Zb])
  iterate 2 (first|refine Et (h:=?_)|refine Dl (h:=?_);try simp only[Act.put,Za,Zc,Zb])
  refine Bl ?_;gi_wp2;refine Qf2 ?_;gi_wp2;refine bodyPost_ret (v:=.bool false) (by simp[results,Tryz.results234,go_sem]) rfl k.o
 .obtain⟨aa,B⟩:=E rfl;have B1:=O (B.blk HB.o.drew (HT.o _ (by simp[Tr.aC])));have V:=Ja B1.o;obtain⟨fn,aj,ag,ai,hy,hR⟩:=HY.o 0 _ (x.n,x.i,x.v) w1 aa (by have:=HL.o;simp[Tr.flat]at this|-;omega);have U:=O B;have HR:=O hR;clear E K aa B hR;dsimp only[Qof,Yo]at hy;gi_wp2;iterate 10 (first|refine Et (h:=?_)|refine Dl (h:=?_);try simp only[Act.put,Za,Zc,Zb])
  clear V;refine Bl ?_;gi_wp2;refine⟨(λh=>by cases h),?_⟩;refine(Nx HR.o).mono ?_;clear hy;rintro e W3(⟨rfl,ab,q⟩|⟨rfl,af⟩)
  .have B3:=O (q.blk B1.o (HT.o _ (by simp[Tr.aC])));have V:=Ja B3.o;have AR:=O (Jw.kpt (U.o.trans q) R (Jw.aB ((Zg Qb W).drew) _ HA.o.2.2 (λa _ h=>h)) (λa ha=>HT.o a (by simp[Tr.aC,ha])));have ah:=O ((Le.trans (Qac W) U.o).trans q);have J3:=O ab;clear ab q;gi_wp2;iterate 7 (first|refine Et (h:=?_)|refine Dl (h:=?_);try simp only[Act.put,Za,Zc,Zb])
   clear V;refine Bl ?_;gi_wp2;refine⟨trivial,(λh=>by cases h),?_⟩;refine(IR.o _ _ W3 AR.o J3.o (by have:=HL.o;simp[Tr.flat]at this|-;omega)).mono ?_;rintro e W4⟨b4,rfl,E,K⟩;have k:Hi (Ok T J z d (Tr.aD x c L R).flat W (.returned (.bool b4)) W4):=O (by
    refine⟨b4,rfl,λh=>⟨?_,ah.o.trans (E h).2⟩,λh=>?_⟩;·have:=(E h).1;simpa[Tr.flat]using this
    .obtain⟨p,hp,hx⟩:=K h;refine⟨L.flat++(x.n,x.i,x.v)::p,?_,by simpa using hx⟩;simp[Tr.flat,hp])
   clear E K;gi_wp2;iterate 2 (first|refine Et (h:=?_)|refine Dl (h:=?_);try simp only[Act.put,Za,Zc,Zb])
   refine Bl ?_;gi_wp2;refine Qf2 ?_;gi_wp2;refine bodyPost_ret (v:=.bool b4) (by simp[results,Tryz.results234,go_sem]) rfl k.o
  .have k:Hi (Ok T J z d (Tr.aD x c L R).flat W (.returned (.bool false)) W3):=O ⟨false,rfl,nofun,λ_=>⟨L.flat++[(x.n,x.i,x.v)],by simp[Tr.flat],by simpa using af⟩⟩;clear af;gi_wp2;iterate 2 (first|refine Et (h:=?_)|refine Dl (h:=?_);try simp only[Act.put,Za,Zc,Zb])
   iterate 6 (first|(refine Qf4 (by kernel_rfl) ?_)|(refine Ae (by kernel_rfl) ?_)|(refine Qf3 (by kernel_rfl) ?_);try simp only[Act.put,Za,Zc,Zb])
   iterate 2 (first|refine Et (h:=?_)|refine Dl (h:=?_);try simp only[Act.put,Za,Zc,Zb])
   refine Bl ?_;gi_wp2;refine Qf2 ?_;gi_wp2;refine bodyPost_ret (v:=.bool false) (by simp[results,Tryz.results234,go_sem]) rfl k.o
theorem Wf{l N:Nat}{T:Fp}{J I:List Xu->World->Prop}(q:∀d W,J d W->J d W.drew)
  (B:∀m d x z,J d z->d.length<N->YieldAt Fence.wide m prog l (Qof x) z λe u=>(e=.returned (.bool true)/\J (d++[x]) u/\Le T z u)\/(e=.returned (.bool false)/\I (d++[x]) u)):
  ∀(t:Tr)(n:Nat)(d:List Xu)(W),Jw W t->(∀a∈t.aC,T a)->J d W->d.length+t.flat.length<=N->
   CallsIn Fence.wide n prog 234 #[t.aH,.func (.yield l) #[] #[]] W (Ok T J I d t.flat W)
 | .nil,n,d,W,_,_,k,_=>Qrb q d W k
 | .aD x c L R,n,d,W,hA,hT,k,hlen=>Qoc q B d W hA hT k hlen
   (λm d W ha k E=>Wf q B L m d W ha (λa h=>hT a (by simp[Tr.aC,h])) k E)
   (λm d W ha k E=>Wf q B R m d W ha (λa h=>hT a (by simp[Tr.aC,h])) k E)
end
end Go.Proofs.YtigcnnkagkbflaaGreat
