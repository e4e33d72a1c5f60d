/- A part of the proof: no condition. -/
import Derived.Test.YtnnhmpehkbihnaaGreatPk10
import Derived.Laws.EntriesVeiled
namespace Go.Proofs.YtnnhmpehkbihnaaGreat
set_option linter.unusedVariables false
set_option maxRecDepth 100000
set_option maxHeartbeats 4000000
open Go.RowKit
open Go.Proofs.Tryz
section
attribute [local go_sem] Qp
attribute [local go_sem ↓] Vw Vx
theorem Kc.color{w w'}{b:Nat}{x:Nd}{c c':Bool}{l r:Tr}(hs:Kc w b (.aD x c l r))(q:w'=w.setCell ⟨x.a,5,none⟩ (.bool c')):Kc w' b (.aD x c' l r)∧Qc (fun k=>k∈(Tr.aD x c l r).aC) w w':=by subst q;have hc:Qc (fun k=>k=x.a) w (w.setCell ⟨x.a,5,none⟩ (.bool c')):=(Zg _ w).setCell (a:=⟨x.a,5,none⟩) _ (.inl rfl);have d:=hs.nd;simp only[Tr.aC,List.nodup_cons,Zl,Zu,not_or,List.nodup_append]at d;refine⟨⟨hs.top.aB hc (by grind),hs.nd,hs.at'.1.set' 5 _ rfl,Jw.aB hc l hs.at'.2.1 (by grind),Jw.aB hc r hs.at'.2.2 (by grind)⟩,hc.sub ?_⟩;rintro k rfl;simp[Tr.aC]
theorem Qob{n:Nat}{i:Int}{x:Nd}{l r:Tr}{m:Nat}(hf:Yp (.aD x false l r) m)(hr:Xd (Tr.aD x false l r).flat)(B:(Tr.aD x false l r).has n i):
  ∃c,Drop n i (.aD x (!l.red) l r) c∧(∃d,Yp c d)∧c.flat=del n i (Tr.aD x false l r).flat:=by
 cases hl:l.red with
 |true=> obtain⟨c,h1,k,_,u⟩:=Oa n i _ (.aD x false l r) m (Zv _) hf (by show(false||l.red)=true;rw[hl];rfl) hr B;exact⟨c,h1,⟨m,k⟩,u⟩
 |false=>
  obtain⟨d,z⟩:∃d,m=d+1:=by obtain⟨q,_,_,_,_,e⟩:=hf.parts;exact⟨q,by simpa using e⟩
  subst z;obtain⟨c,h1,k,_,u⟩:=Oa n i _ (.aD x true l r) d (Zv _) (hf.toRed hl) rfl hr B;exact⟨c,h1,⟨d,k⟩,u⟩
theorem Mx.gone{w w6 w'}{F:Fp}{T:Nat}{t:Tr}{l:List Xu}{p q:Value}(h:Mx w F T t l)
  (z:Qh w6 T #[Dd,Vv,p,q] 254)(u:Qc F w w6)
  (B:w'=(w6.setCell ⟨T,2,none⟩ (.pointer none)).setCell ⟨T,3,none⟩ (.int .i64 0)):
  Vz w' (Qn F w w') T []∧Qc F w w':=by
 subst B;have d:F T:=h.fp T (by simp);have c:Qc F w ((w6.setCell ⟨T,2,none⟩ (.pointer none)).setCell ⟨T,3,none⟩ (.int .i64 0)):=(u.setCell (a:=⟨T,2,none⟩) _ (.inl d)).setCell (a:=⟨T,3,none⟩) _ (.inl d);have k:Qh ((w6.setCell ⟨T,2,none⟩ (.pointer none)).setCell ⟨T,3,none⟩ (.int .i64 0)) T #[Dd,Vv,.pointer none,.int .i64 0] 254:=(z.set' 2 _ rfl).set' 3 _ rfl;exact⟨⟨.nil,k,⟨⟨_,_,k⟩,by simp[Tr.aC],trivial⟩,⟨0,trivial,trivial,rfl⟩,rfl,rfl,List.Pairwise.nil,fun a ha=>by simp[Tr.aC]at ha;exact .inl (ha▸d),h.bd.ext c⟩,c⟩
theorem A8{n:Nat}{i:Int}:∀{l:List Xu},Xd l→(∃e∈l,e.1=n∧e.2.1=i)→(del n i l).length+1=l.length
 |e::l,hr,h=>by
  obtain⟨h1,k⟩:=List.pairwise_cons.1 hr;by_cases c:e.1=n∧e.2.1=i;·rw[Nc c fun f hf d=>?_,Zm];have:=h1 f hf;unfold Mv at this;omega
  ·have:del n i (e::l)=e::del n i l:=by rw[del,List.filter_cons,if_pos (by rw[decide_eq_false c];rfl)];rfl
   rw[this,Zm,Zm,A8 k];obtain⟨f,hf,d⟩:=h;rcases Zu.1 hf with rfl|hf;·exact absurd d c
   ·exact⟨f,hf,d⟩
theorem Qly{w}{F:Fp}{T:Nat}{l:List Xu}(h:Vz w F T l)(hl:l.length<4611686018427387904)(n:Nat)(i:Int)(E:∃e∈l,e.1=n∧e.2.1=i):
  Cl 222 #[ptr T,Yo n i] w fun e w'=>e=.returned (.int .i64 0)∧Vz w' (Qn F w w') T (del n i l)∧Qc F w w':=by
 obtain⟨t,h⟩:=h;have z:Xd t.flat:=by rw[h.flat];exact h.ris
 obtain⟨y,cy,ay,az,U⟩:∃y c a b,t.at n i=.aD y c a b:=by
  cases hq:t.at n i with
  |nil=> obtain⟨e,he,u⟩:=E;exact absurd u ((Ap z).1 hq e (by rw[h.flat];exact he))
  |aD y c a b=>exact⟨y,c,a,b,rfl⟩
 obtain⟨x,L,R,rfl⟩:∃x l r,t=.aD x false l r:=by
  cases t with
  |nil=>cases U
  |aD x c l r=>obtain rfl:c=false:=h.blk;exact⟨x,l,r,rfl⟩
 obtain⟨m,hm⟩:=h.fine;have ag:R.red=false:=hm.parts.choose_spec.2.2.1;obtain⟨t',hD,af,Z⟩:=Qob hm z (by unfold Tr.has;rw[h.flat];exact E);rw[h.flat]at Z;have ah:=A8 h.ris E;have hs:IntKind.i64.wrap ((l.length:Int)-1)=((del n i l).length:Int):=by rw[IntWalk.i64_in _ (by omega)];omega
 have ap:=O af;have ac:=O Z;have au:Hi (Xd (del n i l)):=O (Ql1 h.ris);have H:=O h;have ae:=O (show T∉(Tr.aD x false L R).aC from(List.nodup_cons.1 h.sub.nd).1);obtain⟨k,u⟩:=Zx (w.heap.size);have K0:=O (Qh.new w #[.int .u64 n,.int .i64 i] 204);have C0:=O ((Zg Qb w).alloc (.cells #[.int .u64 n,.int .i64 i] 204));have aq:=O (show∀a∈T::(Tr.aD x false L R).aC,a≠k from fun a ha e=>by have:=h.bd a (h.fp a ha);omega);simp only[←u]at K0;have aa:=O (fun w F(h:Mx w F T (.aD x false L R) l)=>Qfd h n i);simp only[U,Tr.aH]at aa;have ab:=O (fun w(h:Kc w T (.aD x (!L.red) L R))=>Qpb hD h);have J:=O (fun k(u:k∈t'.aC)=>show k∈(Tr.aD x false L R).aC from(Hs hD).subset u);have ar:=O ag;dsimp only[Tr.aH]at ab;unfold ptr Yo at*;clear h U hm ah E hl z hD af Z ag;go_enter func222,ntmps222;go_wp2_with fail;rw[←u];obtain⟨W,hW⟩:=Zx (w.alloc (.cells #[.int .u64 n,.int .i64 i] 204));rw[←hW]at K0 C0⊢;clear hW u;have R0:=O (H.o.aB C0.o (Jl.none F));have HN:=Od ⟨_,_,R0.o.top⟩;have HA:=aa.o _ _ R0.o;obtain⟨k0,k1⟩:=Q4 K0.o;unfold ptr at HN;refine Zz HN ?_;rintro w1 rfl;go_wp2_with fail;refine Zz HA ?_;intro w2 c2;have B:=O (R0.o.aB c2 (Jl.none F));have K2:=O (c2.blk K0.o (fun h=>h));have C2:=O (C0.o.aA c2);clear c2 HA HN k0 k1 R0 K0 C0;have q:(Tr.aD x false L R).aH=.pointer (some ⟨x.a,0,none⟩):=rfl;obtain⟨a0,a1,a2,a3⟩:=X9 B.o.top;obtain⟨b0,b1,b2,b3,b4,b5,b6,b7⟩:=Ja B.o.sub.at'.1;rw[q]at a2;have HL:=O (Kf L B.o.sub.at'.2.1);have HR:=O (Kf R B.o.sub.at'.2.2);rw[ar.o]at HR;obtain⟨pl,aj⟩:=L.ptrV_any;obtain⟨pr,ak⟩:=R.ptrV_any;rw[aj]at b6 HL;rw[ak]at b7 HR;clear q aj ak;go_upto_region 5 with fail;go_cut [32] (fun ax wz=>ax=.bool (!L.red)∧wz=w2)
 case first=>
  cases hq:L.red;all_goals rw[hq]at HL
  all_goals
   go_wp2_with fail;refine Zy HL ?_;rintro w3 rfl;go_wp2_with fail;try
    refine Zy HR ?_;rintro w3 rfl;go_wp2_with fail
   go_meet;exact⟨by rw[hq];rfl,rfl⟩
 case rest=>
  obtain⟨rfl,an⟩:=hcut;rw[an];clear an wc HL HR;go_upto_if 32 with fail;have f2:=B.o.sub.at'.1.frozen;go_cut [] (fun wz=>Kc wz T (.aD x (!L.red) L R)∧Qc (fun k=>k∈(Tr.aD x false L R).aC) w2 wz)
  case first=>
   cases hq:L.red;·have FX:=O (fun w7(e:w7=w2.setCell ⟨x.a,5,none⟩ (.bool true))=>B.o.sub.color (c':=true) e);go_wp2_with fail;go_meet;rw[hq];exact FX.o _ rfl
   ·go_wp2_with fail;go_meet;rw[hq];exact⟨B.o.sub,Zg _ _⟩
  case rest=>
   obtain⟨i3,c3⟩:=hcut;obtain⟨w3,am⟩:=Zx wc;rw[←am]at i3 c3⊢;have T3:=O (c3.blk B.o.top ae.o);have K3:=O (c3.blk K2.o (fun h=>aq.o _ (Zr _ h) rfl));have C3:=O (C2.o.none.aA c3);have I3:=O i3;clear am i3 c3 B K2 C2 a0 a1 a2 a3 b0 b1 b2 b3 b4 b5 b6 b7 f2;have q:(Tr.aD x false L R).aH=.pointer (some ⟨x.a,0,none⟩):=rfl;have E1:=fun x=>Q4 (Qk (S:=Qb) K3.o (fun h=>h) x);have E2:=fun x=>X9 (Qk (S:=Qb) T3.o (fun h=>h) x);rw[q]at E2;clear q;go_wp2_with fail;refine Ka [1,2,3,4,5,6] [0] [7,8,9,10] (Qz (Qb) (w3)) Zq (by kernel_rfl) (fun _ _ _ _ _ h=>h) (Qd (by(repeat' (first|(with_reducible first|exact Zg _ _|assumption|refine Zh ?_ _|refine Zi ?_ _|refine Zj ?_|refine Zk ?_ _ ?_|(apply Or.inl;rfl))|(apply Or.inl;simp;done)|(apply Or.inr;simp;first|done|omega))))) ?_;simp only[pick,Zf,Ze,Zd];iterate 6 (refine Ql (fun K hK=>?_);go_simp;refine hK _ ?_;clear hK K)
   refine Qg ?_;iterate 1 (refine Ql (fun K hK=>?_);go_simp;refine hK _ ?_;clear hK K)
   refine Qg ?_;intro _ aw;obtain⟨xo,al⟩:=aw;subst al;have c4:=O (Qv Qb w3 xo);generalize Qz Qb w3 xo=w4 at c4⊢;clear E1 E2;have I4:=O (I3.o.aB c4.o (fun _ _ h=>h));have T4:=O (c4.o.blk T3.o (fun h=>h));have C4:=O (C3.o.aA c4.o.none);clear I3 T3 K3 C3 c4;go_wp2_with fail;refine Zz (ab.o _ I4.o) ?_;rintro w6⟨i6,c6⟩;have d:=c6.blk T4.o ae.o;have C6:=O (show Qc F w w6 from(C4.o.aA c6).sub fun k u=>H.o.fp k (Zr _ u));obtain⟨a0,a1,a2,a3⟩:=X9 d;have f1:=d.frozen;cases t' with
   |nil=> have V:del n i l=[]:=ac.o.symm;rw[V]at hs;have I:=O (fun w' hw=>H.o.gone (w':=w') d C6.o hw);dsimp only[Tr.aH];have ao:=O V;clear i6 c6 d V;rw[show(([]:List Xu).length:Int)=0 from rfl]at hs;go_wp2;go_ret;rw[ao.o];exact⟨rfl,I.o _ rfl⟩
   |aD x1 c1 l1 r1=>
    have I:=O (fun w' hw=>H.o.root (l':=del n i l) (w':=w') i6 d C6.o (fun k u=>.inl (H.o.fp k (Zr _ (J.o k u)))) ap.o ac.o au.o hw);have hX:=i6.at'.1;have ai:=i6.nd;simp only[Tr.aC,List.nodup_cons,Zl,Zu,not_or,List.nodup_append]at ai;have av:T≠x1.a:=by grind
    have a4:x1.a≠T:=Ne.symm av;obtain⟨b0,b1,b2,b3,b4,b5,b6,b7⟩:=Ja hX;have f2:=hX.frozen;dsimp only[Tr.aH];clear hX ai i6 c6 d;go_wp2;go_ret;exact⟨rfl,I.o _ rfl⟩
end
section
attribute [local go_sem] Qp
attribute [local go_sem ↓] Vw Vx
attribute [local go_sem] Ds Oy
theorem Mx.even{w}{F:Fp}{T:Nat}{t:Tr}{l:List Xu}(h:Mx w F T t l):t.even:=by obtain⟨m,c⟩:=h.fine;exact c.2.1
theorem Vz.ris{w}{F:Fp}{T:Nat}{l:List Xu}(h:Vz w F T l):Xd l:=by obtain⟨t,h⟩:=h;exact h.ris
theorem Qp1(w):Cl 176 #[Dd,Vv] w fun e w'=>e=.returned (ptr w.heap.size)∧Vz w' (Qn Qb w w') w.heap.size []∧Qc Qb w w':=by
 have c:=O (fun w'(u:w'=w.alloc (.cells #[Dd,Vv,.pointer none,.int .i64 0] 254))=>show Vz w' (Qn Qb w w') w.heap.size []∧Qc Qb w w' from by
  subst u;have d:=Qh.new w #[Dd,Vv,.pointer none,.int .i64 0] 254;exact⟨⟨.nil,d,⟨⟨_,_,d⟩,by simp[Tr.aC],trivial⟩,⟨0,trivial,trivial,rfl⟩,rfl,rfl,List.Pairwise.nil,fun a ha=>by simp[Tr.aC]at ha;exact .inr ⟨by omega,by subst ha;simp⟩,fun k q=>q.elim (fun h=>h.elim) (fun h=>h.2)⟩,(Zg _ _).alloc _⟩)
 unfold ptr Dd Vv at*;go_enter func176,ntmps176;go_wp2;go_ret;exact⟨rfl,c.o _ rfl⟩
theorem Qp0{w}{F:Fp}{T:Nat}{l:List Xu}(h:Vz w F T l):Cl 211 #[ptr T] w fun e w'=>e=.returned (.int .i64 l.length)∧w=w':=by obtain⟨t,h⟩:=h;have c:=O (Od ⟨_,_,h.top⟩);obtain⟨d,a1,k,q⟩:=X9 h.top;unfold ptr at*;clear h;go_enter func211,ntmps211;go_wp2_with fail;refine Zy c ?_;rintro w1 rfl;go_wp2;go_ret;exact⟨rfl,rfl⟩
theorem aE{n:Nat}{i:Int}{v:Nat}{t:Tr}(hr:Xd t.flat)(B:(n,i,v)∈t.flat):∃y c a b,t.at n i=.aD y c a b∧y.v=v:=by
 cases E:t.at n i with
 |nil=>exact absurd ⟨rfl,rfl⟩ ((Ap hr).1 E _ B)
 |aD y c a b=>
  obtain⟨h1,J,I⟩:=Qer E;refine⟨y,c,a,b,rfl,?_⟩;rcases Nat.lt_trichotomy 0 1 with _|h|h
  ·by_cases e:(n,i,y.v)=(n,i,v);·simpa using e
   ·exfalso;have:Mv (n,i,y.v) (n,i,v)∨Mv (n,i,v) (n,i,y.v):=by
     obtain⟨j,q⟩:=List.mem_iff_getElem.1 B;obtain⟨k,u⟩:=List.mem_iff_getElem.1 I;obtain⟨q,z⟩:=q;obtain⟨u,d⟩:=u;rcases Nat.lt_trichotomy j k with h'|h'|h';·have:=List.pairwise_iff_getElem.1 hr j k q u h';rw[z,d]at this;exact .inr this
     ·subst h';rw[z]at d;exact absurd d.symm e
     ·have:=List.pairwise_iff_getElem.1 hr k j u q h';rw[z,d]at this;exact .inl this
    unfold Mv at this;dsimp only at this;omega
  ·cases h
  ·omega
theorem Qfy{w}{n:Nat}{i:Int}:∀{t:Tr},Jw w t→Jw w (t.at n i)
 | .nil,_=>trivial
 | .aD x c l r,h=>by
  rw[Tr.at];split;·exact h
  ·split;·exact Qfy h.2.1
   ·exact Qfy h.2.2
theorem Qpz{w}{F:Fp}{T:Nat}{l:List Xu}(h:Vz w F T l)(n:Nat)(i:Int)(v:Nat)(R:(n,i,v)∈l):
  Cl 171 #[ptr T,Yo n i] w fun e w'=>e=.returned (.tuple #[.int .u64 v,.bool true])∧Qc Qb w w':=by
 obtain⟨t,h⟩:=h;obtain⟨y,c,a,b,d,rfl⟩:=aE (t:=t) (by rw[h.flat];exact h.ris) (by rw[h.flat];exact R);have J:=O (show Jw w (.aD y c a b)from d▸Qfy (n:=n) (i:=i) h.sub.at');have H:=O h;obtain⟨k,B⟩:=Zx (w.heap.size);have z:=O (Qh.new w #[.int .u64 n,.int .i64 i] 204);have u:=O ((Zg Qb w).alloc (.cells #[.int .u64 n,.int .i64 i] 204));simp only[←B]at z;have q:=O (fun w F(h:Mx w F T t l)=>Qfd h n i);simp only[d,Tr.aH]at q;unfold ptr Yo at*;clear h d R;go_enter func171,ntmps171;go_wp2_with fail;rw[←B];obtain⟨W,hW⟩:=Zx (w.alloc (.cells #[.int .u64 n,.int .i64 i] 204));rw[←hW]at z u⊢;clear hW B;have I:=q.o _ _ (H.o.aB u.o (Jl.none F));obtain⟨k0,k1⟩:=Q4 z.o;refine Zz I ?_;intro w2 K;have E:=O (u.o.aA K);obtain⟨U,b1,b2,V,Z,b5,b6,b7⟩:=Ja (E.o.blk J.o.1 (fun h=>h));clear k0 k1 I J K;go_wp2;go_ret2;exact⟨rfl,E.o⟩
def Ur(s:Nat×Int):Value:=.agg #[.int .u64 s.1,.int .i64 s.2]
theorem Qpy{w}{F:Fp}{T:Nat}{l:List Xu}(h:Vz w F T l):
  Cl 172 #[ptr T] w fun e w'=>e=.returned (.tuple #[Ur ((low l).getD (0,0)),.bool (low l).isSome])∧Qc Qb w w':=by
 obtain⟨t,h⟩:=h;have q:=Bb t h.even;rw[h.flat]at q;rw[←q];obtain⟨k,E⟩:=Zx (w.heap.size);have z:=O ((Zg Qb w).alloc (.cells #[.int .u64 0,.int .i64 0] 201));have J:=O (Qh.new w #[.int .u64 0,.int .i64 0] 201);simp only[←E]at J;have u:=O (h.aB z.o (Jl.none F));have I:=O (Od ⟨_,_,u.o.top⟩);have f0:=J.o.frozen;unfold ptr at*;clear h q;cases t with
 |nil=>
  obtain⟨K,a1,B,R⟩:=X9 u.o.top;have d:Tr.nil.aH=.pointer none:=rfl;rw[d]at B;clear d;go_enter func172,ntmps172;go_wp2_with fail;rw[←E];refine Zy I ?_;rintro w1 rfl;go_wp2;refine bodyPost_ret (v:=.tuple #[Ur (0,0),.bool false]) ?_ rfl ⟨rfl,?_⟩;·simp[*,results,Tryz.results172,go_sem,Ur]
  ·have:=z.o;(repeat' (first|(with_reducible first|exact Zg _ _|assumption|refine Zh ?_ _|refine Zi ?_ _|refine Zj ?_|refine Zk ?_ _ ?_|(apply Or.inl;rfl))|(apply Or.inl;simp;done)|(apply Or.inr;simp;first|done|omega)))
 |aD x c a b=>
  obtain⟨K,a1,B,R⟩:=X9 u.o.top;have d:(Tr.aD x c a b).aH=.pointer (some ⟨x.a,0,none⟩):=rfl;rw[d]at B;obtain⟨U,b1,b2,V,Z,b5,b6,b7⟩:=Ja u.o.sub.at'.1;clear d;go_enter func172,ntmps172;go_wp2_with fail;rw[←E];refine Zy I ?_;rintro w1 rfl;go_wp2;refine bodyPost_ret (v:=.tuple #[Ur (x.sv,x.si),.bool true]) ?_ rfl ⟨rfl,?_⟩;·simp[*,results,Tryz.results172,go_sem,Ur]
  ·have hc:=z.o;(repeat' (first|(with_reducible first|exact Zg _ _|assumption|refine Zh ?_ _|refine Zi ?_ _|refine Zj ?_|refine Zk ?_ _ ?_|(apply Or.inl;rfl))|(apply Or.inl;simp;done)|(apply Or.inr;simp;first|done|omega)))
theorem Qtw(s a:Nat×Int):jn (some s) (some a)=some (Xn s a):=rfl
theorem Ff{W}{q0 q1 q2 T:Nat}(o:Option (Nat×Int))(a:Nat×Int)(h0:Qh W q0 #[.pointer (some ⟨T,0,none⟩)] 195)(h1:Qh W q1 (Y4 (o.getD (0,0))) 201)
  (h2:Qh W q2 #[.bool o.isSome] 4) (hT:Qgc W T) (Z:q1≠q2):
  Cl 210 #[Ur a,ptr q2,ptr q0,ptr q1] W fun e w'=>e=.returned (.tuple #[])∧Qh w' q1 (Y4 ((jn o (some a)).getD (0,0))) 201∧Qh w' q2 #[.bool (jn o (some a)).isSome] 4∧Qc (fun k=>k=q1∨k=q2) W w':=by
 obtain⟨k,hk⟩:=Zx (W.heap.size);have J:=O (Qh.new W (Y4 a) 201);have c:=O ((Zg Qb W).alloc (.cells (Y4 a) 201));simp only[←hk]at J;have l1:=h1.lt;have l2:=h2.lt;have m1:q1≠k:=by omega
 have m2:q2≠k:=by omega
 have HK:Hi (W.heap.size≤k):=O (by omega);have q:=O Z;have M1:=O m1;have M2:=O m2;have af:=Ne.symm Z;have ac:=Ne.symm m1;have ae:=Ne.symm m2;have H0:=O h0;have H1:=O h1;have H2:=O h2;have HT:=O hT;clear h0 h1 h2 hT l1 l2;have E:Hi (∀(w3 w')(s:Nat×Int),Qc Qb W w3→w'=((w3.setCell ⟨q1,0,none⟩ (.int .u64 s.1)).setCell ⟨q1,1,none⟩ (.int .i64 s.2)).setCell ⟨q2,0,none⟩ (.bool true)→
   Qh w' q1 (Y4 s) 201∧Qh w' q2 #[.bool true] 4∧Qc (fun k=>k=q1∨k=q2) W w'):=O fun w3 w' s hc hw=>by
  subst hw;exact⟨(((hc.blk H1.o (fun h=>h)).set' 0 _ rfl).set' 1 _ rfl).other _ (Ne.symm q.o),(((hc.blk H2.o (fun h=>h)).other _ q.o).other _ q.o).set' 0 _ rfl,((hc.none.setCell (a:=⟨q1,0,none⟩) _ (.inl (.inl rfl))).setCell (a:=⟨q1,1,none⟩) _ (.inl (.inl rfl))).setCell (a:=⟨q2,0,none⟩) _ (.inl (.inr rfl))⟩
 cases o with
 |none=> rw[show jn none (some a)=some a from rfl];have d:=c.o.blk H1.o (fun h=>h);have u:=c.o.blk H2.o (fun h=>h);dsimp only[Y4,Ur,Option.getD,Option.isSome]at*;have f1:=d.frozen;have f2:=u.frozen;obtain⟨a0,a1⟩:=Q4 d;have b0:=Jf u;obtain⟨k0,k1⟩:=Q4 J.o;unfold ptr at*;clear d u;go_enter func210,ntmps210;go_wp2_with fail;rw[←hk];go_wp2;refine bodyPost_end (by simp[*,results,Tryz.results210,go_sem]) rfl ⟨rfl,?_⟩;exact E.o _ _ a c.o rfl
 |some s=>
  have HL:=O (fun w=>Qag s a w);rw[Qtw];have b0:=Jf (c.o.blk H2.o (fun h=>h));obtain⟨W1,hW1⟩:=Zx (W.alloc (.cells (Y4 a) 201));rw[←hW1]at J c;have ab:=O hW1;have B0:=O (c.o.blk H0.o (fun h=>h));have d:=O (c.o.blk H1.o (fun h=>h));have u:=O (c.o.blk H2.o (fun h=>h));have BT:=O (HT.o.aB c.o (fun h=>h));dsimp only[Y4,Ur,Option.getD,Option.isSome]at*;obtain⟨pT,nT,U⟩:=BT.o;have I:=O U;unfold ptr Dd Vv at*;clear U;go_enter func210,ntmps210;go_wp2_with fail;rw[←hk,←hW1];have E0:=fun x=>Jf (Qk (S:=Qb) B0.o (fun h=>h) x);have E1:=fun x=>Q4 (Qk (S:=Qb) d.o (fun h=>h) x);have E2:=fun x=>Q4 (Qk (S:=Qb) J.o (fun h=>h) x);have E3:=fun x=>X9 (Qk (S:=Qb) I.o (fun h=>h) x);clear hk hW1;refine Qu [] [0,1,2,3,4,5] [6] [7] (Qz (Qb) (W1)) Zq (by kernel_rfl) (fun _ _ _ _ _ h=>h) (Qd (by(repeat' (first|(with_reducible first|exact Zg _ _|assumption|refine Zh ?_ _|refine Zi ?_ _|refine Zj ?_|refine Zk ?_ _ ?_|(apply Or.inl;rfl))|(apply Or.inl;simp;done)|(apply Or.inr;simp;first|done|omega))))) ?_;simp only[pick,Zf,Ze,Zd];refine Qg ?_;iterate 6 (refine Ql (fun K hK=>?_);go_simp;refine hK _ ?_;clear hK K)
  refine Qg ?_;intro _ aa;obtain⟨xo,V⟩:=aa;subst V;simp only[Jd];have c3:=O (Qv Qb W1 xo);generalize Qz Qb W1 xo=w3 at c3⊢;clear E0 E1 E2 E3 b0;go_wp2_with fail;with_reducible refine Zz (HL.o _) ?_
  intro w4 d4;have R:=O (c3.o.aA d4);clear d4;go_wp2;refine⟨Qd R.o,?_⟩;have z:=O (R.o.blk d.o (fun h=>h));have B:=O (R.o.blk u.o (fun h=>h));have K4:=O (R.o.blk J.o (fun h=>h));have f1:=z.o.frozen;have f2:=B.o.frozen;have f3:=K4.o.frozen;obtain⟨a0,a1⟩:=Q4 z.o;have b0:=Jf B.o;obtain⟨k0,k1⟩:=Q4 K4.o;have F2:=O (fun w' hw=>E.o ((w4.setCell ⟨k,0,none⟩ (.int .u64 ((Xn s a).1:Int))).setCell ⟨k,1,none⟩ (.int .i64 (Xn s a).2)) w' (Xn s a) (((c.o.aA R.o).setCell (a:=⟨k,0,none⟩) _ (.inr HK.o)).setCell (a:=⟨k,1,none⟩) _ (.inr HK.o)) hw);clear B0 d u BT I c3;go_wp2;refine bodyPost_end (by simp[*,results,Tryz.results210,go_sem]) rfl ⟨rfl,?_⟩;exact F2.o _ rfl
def Tr.is:Tr→Bool
 | .nil=>false
 | .aD _ _ _ _=>true
theorem Qqo{n:Nat}{x:Nd}{c:Bool}{l r:Tr}(o:Option (Nat×Int))(h:n<x.n):(Tr.aD x c l r).upto n o=l.upto n o:=by rw[Tr.upto,if_pos h]
theorem Qms{n:Nat}{x:Nd}{c:Bool}{l r:Tr}(o:Option (Nat×Int))(h:¬n<x.n):(Tr.aD x c l r).upto n o=r.upto n (jn (jn o l.sum) (some (x.v,x.i))):=by rw[Tr.upto,if_neg h]
theorem Qh.same{w w'}{S:Fp}{b:Nat}{cs:Array Value}{t:TypeId}(hc:Qc S w w')(h:Qh w' b cs t)(i:Nat)(v:Value)(B:cs[i]? =some v):Qc S w (w'.setCell ⟨b,i,none⟩ v)∧Qh (w'.setCell ⟨b,i,none⟩ v) b cs t:=by
 have d:cs.setIfInBounds i v=cs:=by
  apply Array.ext_getElem?;intro j;rw[Array.getElem?_setIfInBounds];split
  ·rename_i e;subst e;split;·exact B.symm
   ·rename_i E;rw[Array.getElem?_eq_none (by omega)]
  ·rfl
 have z:Qh (w'.setCell ⟨b,i,none⟩ v) b cs t:=h.set' i v d;have c:Qc (fun k=>k=b) w' (w'.setCell ⟨b,i,none⟩ v):=(Zg _ _).setCell (a:=⟨b,i,none⟩) _ (.inl rfl);refine⟨⟨c.os.trans hc.os,c.tape.trans hc.tape,c.output.trans hc.output,Zp hc.size c.size,fun k q u=>?_⟩,z⟩;by_cases e:k=b;·subst e;have h1:=hc.block k q u;rw[←h1];exact z.trans (Eq.symm h)
 ·exact(c.block k (Nat.lt_of_lt_of_le q hc.size) e).trans (hc.block k q u)
structure Qju(W:World)(q1 q2:Nat)(o:Option (Nat×Int))(wr:World):Prop where
 b1:Qh wr q1 (Y4 (o.getD (0,0))) 201
 b2:Qh wr q2 #[.bool o.isSome] 4
 c:Qc (fun k=>k=q1∨k=q2) W wr
theorem Qju.later{W wr w'}{q1 q2:Nat}{o:Option (Nat×Int)}(h:Qju W q1 q2 o wr)(hc:Qc Qb wr w'):Qju W q1 q2 o w':=⟨hc.blk h.b1 (fun h=>h),hc.blk h.b2 (fun h=>h),h.c.aA hc.none⟩
theorem Ql0{w}{F:Fp}{T:Nat}{l:List Xu}(h:Vz w F T l)(n:Nat):
  Cl 158 #[ptr T,.int .u64 n] w fun e w'=>e=.returned (.tuple #[Ur ((low (l.filter fun e=>decide (e.1≤n))).getD (0,0)),.bool (low (l.filter fun e=>decide (e.1≤n))).isSome])∧Qc Qb w w':=by
 obtain⟨t,h⟩:=h;have aj:=Qb1 n t none h.even (by rw[h.flat];exact h.ris);rw[h.flat]at aj;rw[show jn none (low (l.filter fun e=>decide (e.1≤n)))=low (l.filter fun e=>decide (e.1≤n)) by cases low (l.filter fun e=>decide (e.1≤n))<;>rfl]at aj;rw[←aj];obtain⟨R,hR⟩:=Zx (t.upto n none);rw[←hR];have HR:=O hR;obtain⟨d,B⟩:=Zx (w.heap.size);obtain⟨W,hW⟩:=Zx (((w.alloc (.cells #[.pointer (some ⟨T,0,none⟩)] 195)).alloc (.cells #[.int .u64 0,.int .i64 0] 201)).alloc (.cells #[.bool false] 4));have C0:Hi (Qc Qb w W):=O (by rw[hW];exact(((Zg _ _).alloc _).alloc _).alloc _);have B0:Hi (Qh W d #[.pointer (some ⟨T,0,none⟩)] 195):=O (by rw[hW,B];exact((Qh.new _ _ _).alloc _).alloc _);have B1:Hi (Qh W (d+1) #[.int .u64 0,.int .i64 0] 201):=O (by rw[hW,B];exact(Qh.new' _ _ (by simp)).alloc _);have B2:Hi (Qh W (d+1+1) #[.bool false] 4):=O (by rw[hW,B];exact Qh.new' _ _ (by simp));have HQ:=O B;have H:=O (h.aB C0.o (Jl.none F));have aa:=O (fun a(ha:a∈T::t.aC)=>show a<d from B▸h.bd a (h.fp a ha));unfold ptr at*;clear h aj hR;go_enter func158,ntmps158;go_wp2_with fail;rw[←B,←hW];clear B hW;have HN:=Od ⟨_,_,H.o.top⟩;unfold ptr at HN;have b0:=Jf B0.o;obtain⟨a0,a1,a2,a3⟩:=X9 H.o.top;obtain⟨pt,aq⟩:=t.ptrV_any;have a4:=O aq;rw[aq]at a2;clear aq;go_wp2_with fail;refine Zz HN ?_;rintro w1 rfl;go_wp2_with fail;clear a0 a1 a2 a3 HN b0;go_loopg [7] t.size (fun g v wr=>∃(s:Tr)(o:Option (Nat×Int)),v=s.aH∧s.size=g∧Jw W s∧(∀a∈s.aC,a∈t.aC)∧s.upto n o=R∧Qju W (d+1) (d+1+1) o wr);case atStart=>exact⟨t,none,a4.o.symm,rfl,H.o.sub.at',fun _ h=>h,HR.o.symm,B1.o,B2.o,Zg _ _⟩
 case round=>
  obtain⟨s,o,rfl,ai,V,Z,ag,ah⟩:=hrel;have HF:=O ag;have z:=O ah;cases s with
  |nil=>
   have ho:o=R:=ag;rw[ho]at z;dsimp only[Tr.aH];clear ai V Z ag ah ho HF;have E1:=fun x=>Q4 (Qk (S:=Qb) z.o.b1 (fun h=>h) x);have E2:=fun x=>Jf (Qk (S:=Qb) z.o.b2 (fun h=>h) x);go_wp2_with fail;refine Qu [] [0,1] [2,3] [] (Qz (Qb) (wr)) Zq (by kernel_rfl) (fun _ _ _ _ _ h=>h) (Qd (by(repeat' (first|(with_reducible first|exact Zg _ _|assumption|refine Zh ?_ _|refine Zi ?_ _|refine Zj ?_|refine Zk ?_ _ ?_|(apply Or.inl;rfl))|(apply Or.inl;simp;done)|(apply Or.inr;simp;first|done|omega))))) ?_;simp only[pick,Zf,Ze,Zd];refine Qg ?_;iterate 2 (refine Ql (fun K E=>?_);go_simp;refine E _ ?_;clear E K)
   refine Qg ?_;intro _ ab;obtain⟨xo,q⟩:=ab;subst q;simp only[Jd];have c5:=O (Qv Qb wr xo);generalize Qz Qb wr xo=w5 at c5⊢;clear E1 E2;have ae:=O (z.o.later c5.o);have f1:=ae.o.b1.frozen;have X1:=O (Qh.same c5.o ae.o.b1 0 (.int .u64 ((R.getD (0,0)).1:Int)) rfl);have X2:=O (Qh.same X1.o.1 X1.o.2 1 (.int .i64 (R.getD (0,0)).2) rfl);obtain⟨w6,ar⟩:=Zx ((w5.setCell ⟨d+1,0,none⟩ (.int .u64 ((R.getD (0,0)).1:Int))).setCell ⟨d+1,1,none⟩ (.int .i64 (R.getD (0,0)).2));rw[←ar]at X2;clear X1;obtain⟨e0,e1⟩:=Q4 ae.o.b1;go_wp2_with fail;rw[←ar];refine⟨Qd X2.o.1,?_⟩;have af:=O (z.o.later X2.o.1);have X3:=O (Qh.same X2.o.1 af.o.b2 0 (.bool R.isSome) rfl);have f2:=af.o.b2.frozen;clear f1 ar ae c5 e0 e1;have e0:=Jf af.o.b2;obtain⟨w7,au⟩:=Zx (w6.setCell ⟨d+1+1,0,none⟩ (.bool R.isSome));rw[←au]at X3;go_wp2;rw[←au];refine⟨Qd X3.o.1,?_⟩;clear e0;have am:=O (z.o.later X3.o.1);obtain⟨e0,e1⟩:=Q4 am.o.b1;have e2:=Jf am.o.b2;have ay:=O (show Qc Qb w w7 from C0.o.trans am.o.c fun k hk=>.inr (by have:=HQ.o;omega));clear z X2 X3 af f2 au;go_wp2;refine bodyPost_ret (v:=.tuple #[Ur (R.getD (0,0)),.bool R.isSome]) ?_ rfl ⟨rfl,?_⟩;·simp[*,results,Tryz.results158,go_sem,Ur]
   ·exact ay.o
  |aD u cu ul ur=>
   have HA:=O (Jw.aB ah.c _ V (fun a ha h=>by have:=aa.o a (Zr _ (Z a ha));omega));have HU:=O (show Qh W u.a (It u cu ul.aH ur.aH) 258∧u.a<d from⟨V.1,aa.o u.a (Zr _ (Z u.a (by simp[Tr.aC])))⟩);have a5:=O V.2.1;have aw:=O V.2.2;have az:=O (fun a(ha:a∈ul.aC)=>Z a (by simp[Tr.aC,ha]));have av:=O (fun a(ha:a∈ur.aC)=>Z a (by simp[Tr.aC,ha]));obtain⟨b0,b1,b2,b3,b4,b5,b6,b7⟩:=Ja HA.o.1;dsimp only[Tr.aH];have gl:ul.size<gk:=by rw[←ai];simp[Tr.size];omega
   have gr:ur.size<gk:=by rw[←ai];simp[Tr.size];omega
   obtain⟨pl,an⟩:=ul.ptrV_any;obtain⟨pr,ap⟩:=ur.ptrV_any;have al:=O an;have I:=O ap;rw[an]at b6;rw[ap]at b7;clear ai V Z ag ah an ap;by_cases hx:n<u.n
   ·have hd:decide ((n:Int)<(u.n:Int))=true:=by simp;omega
    have a6:decide (n<u.n)=true:=by simp;omega
    have HX:=O (Qqo (c:=cu) (l:=ul) (r:=ur) o hx);clear hx;go_wp2_with fail;go_roundg ul.size;case rel=>exact⟨ul,o,al.o.symm,rfl,a5.o,az.o,by rw[←HX.o];exact HF.o,z.o⟩
    case measure=>exact gl
   ·have hd:decide ((n:Int)<(u.n:Int))=false:=by simp;omega
    have a6:decide (n<u.n)=false:=by simp;omega
    have HX:=O (Qms (c:=cu) (l:=ul) (r:=ur) o hx);clear hx;cases ul with
    |nil=>
     have ao:pl=none:=by have:=al.o;simpa[Tr.aH]using this.symm
     subst ao;have ac:jn (jn o Tr.nil.sum) (some (u.v,u.i))=jn o (some (u.v,u.i)):=by rw[show Tr.nil.sum=none from rfl,Qna]
     rw[ac]at HX;have J:=O z.o;clear ac z;obtain⟨w3,ax⟩:=Zx wr;rw[←ax]at J HA b0 b1 b2 b3 b4 b5 b6 b7⊢;clear ax;obtain⟨o1,U⟩:=Zx o;rw[←U]at HX J HF;clear U;go_wp2_with fail;have A3:=O (show Qh w3 u.a (It u cu Tr.nil.aH ur.aH) 258 from J.o.c.blk HU.o.1 (fun h=>by have:=HU.o.2;omega));have T3:=O (J.o.c.blk H.o.top (fun h=>by have:=aa.o T (by simp);omega));have Q3:=O (J.o.c.blk B0.o (fun h=>by omega));have E1:=fun x=>Jf (Qk (S:=Qb) Q3.o (fun h=>h) x);have E2:=fun x=>X9 (Qk (S:=Qb) T3.o (fun h=>h) x);have E3:=fun x=>Ja (Qk (S:=Qb) A3.o (fun h=>h) x);unfold Dd Vv at E2;rw[I.o]at E3;clear b0 b1 b2 b3 b4 b5 b6 b7 HA;refine Qu [0] [1,2,3,4,5,6,7,8,9,10,11,12] [13] [14] (Qz (Qb) (w3)) Zq (by kernel_rfl) (fun _ _ _ _ _ h=>h) (Qd (by(repeat' (first|(with_reducible first|exact Zg _ _|assumption|refine Zh ?_ _|refine Zi ?_ _|refine Zj ?_|refine Zk ?_ _ ?_|(apply Or.inl;rfl))|(apply Or.inl;simp;done)|(apply Or.inr;simp;first|done|omega))))) ?_;simp only[pick,Zf,Ze,Zd];iterate 1 (refine Ql (fun K E=>?_);go_simp;refine E _ ?_;clear E K)
     refine Qg ?_;iterate 12 (refine Ql (fun K E=>?_);go_simp;refine E _ ?_;clear E K)
     refine Qg ?_;intro _ ab;obtain⟨xo,q⟩:=ab;subst q;simp only[Jd];have c5:=O (Qv Qb w3 xo);generalize Qz Qb w3 xo=w5 at c5⊢;clear E1 E2 E3;have HO:=O (fun w=>Su u.n u.i u.v w);unfold Yo at HO;go_wp2_with fail;refine Zz (HO.o _) ?_;intro w6 d6;have c6:=O (c5.o.aA d6);clear d6;go_wp2;refine⟨Qd c6.o,?_⟩;have S6:=O (J.o.later c6.o);have HC:=O (Ff (q1:=d+1) (q2:=d+1+1) o1 (u.v,u.i) (c6.o.blk Q3.o (fun h=>h)) S6.o.b1 S6.o.b2 ⟨_,_,c6.o.blk T3.o (fun h=>h)⟩ (by omega));unfold ptr Ur at HC;have A6:=c6.o.blk A3.o (fun h=>h);have ak:=O A6;clear A3 T3 Q3 J c5 A6;go_wp2_with fail;refine Zy HC ?_;rintro w7⟨k1,k2,k3⟩;have S7:Hi (Qju W (d+1) (d+1+1) (jn o1 (some (u.v,u.i))) w7):=O ⟨k1,k2,S6.o.c.aA k3⟩;have A7:=k3.blk ak.o (fun h=>by have:=HU.o.2;omega);rw[I.o]at A7;obtain⟨b0,b1,b2,b3,b4,b5,b6,b7⟩:=Ja A7;clear k1 k2 k3 A7;go_wp2_with fail;go_roundg ur.size;case rel=>exact⟨ur,_,I.o.symm,rfl,aw.o,av.o,by rw[←HX.o];exact HF.o,S7.o⟩
     case measure=>exact gr
    |aD y cy yl yr=>
     have ao:pl=some ⟨y.a,0,none⟩:=by have:=al.o;simpa[Tr.aH]using this.symm
     subst ao;obtain⟨d0,d1,d2,d3,d4,d5,d6,d7⟩:=Ja HA.o.2.1.1;have HC:=O (Ff (q1:=d+1) (q2:=d+1+1) o (y.sv,y.si) (z.o.c.blk B0.o (fun h=>by omega)) z.o.b1 z.o.b2 ⟨_,_,z.o.c.blk H.o.top (fun h=>by have:=aa.o T (by simp);omega)⟩ (by omega));unfold ptr Ur at HC;obtain⟨o1,U⟩:=Zx (jn o (some (y.sv,y.si)));have ac:jn (jn o (Tr.aD y cy yl yr).sum) (some (u.v,u.i))=jn o1 (some (u.v,u.i)):=by rw[U];rfl
     rw[ac]at HX;rw[←U]at HC;clear ac U;go_wp2_with fail;refine Zy HC ?_;rintro w3⟨k1,k2,k3⟩;have J:Hi (Qju W (d+1) (d+1+1) o1 w3):=O ⟨k1,k2,z.o.c.aA k3⟩;clear k1 k2 k3 d0 d1 d2 d3 d4 d5 d6 d7 z HC;have A3:=O (show Qh w3 u.a (It u cu (Tr.aD y cy yl yr).aH ur.aH) 258 from J.o.c.blk HU.o.1 (fun h=>by have:=HU.o.2;omega));have T3:=O (J.o.c.blk H.o.top (fun h=>by have:=aa.o T (by simp);omega));have Q3:=O (J.o.c.blk B0.o (fun h=>by omega));have E1:=fun x=>Jf (Qk (S:=Qb) Q3.o (fun h=>h) x);have E2:=fun x=>X9 (Qk (S:=Qb) T3.o (fun h=>h) x);have E3:=fun x=>Ja (Qk (S:=Qb) A3.o (fun h=>h) x);unfold Dd Vv at E2;rw[I.o]at E3;clear b0 b1 b2 b3 b4 b5 b6 b7 HA;go_wp2_with fail;refine Qu [0] [1,2,3,4,5,6,7,8,9,10,11,12] [13] [14] (Qz (Qb) (w3)) Zq (by kernel_rfl) (fun _ _ _ _ _ h=>h) (Qd (by(repeat' (first|(with_reducible first|exact Zg _ _|assumption|refine Zh ?_ _|refine Zi ?_ _|refine Zj ?_|refine Zk ?_ _ ?_|(apply Or.inl;rfl))|(apply Or.inl;simp;done)|(apply Or.inr;simp;first|done|omega))))) ?_;simp only[pick,Zf,Ze,Zd];iterate 1 (refine Ql (fun K E=>?_);go_simp;refine E _ ?_;clear E K)
     refine Qg ?_;iterate 12 (refine Ql (fun K E=>?_);go_simp;refine E _ ?_;clear E K)
     refine Qg ?_;intro _ ab;obtain⟨xo,q⟩:=ab;subst q;simp only[Jd];have c5:=O (Qv Qb w3 xo);generalize Qz Qb w3 xo=w5 at c5⊢;clear E1 E2 E3;have HO:=O (fun w=>Su u.n u.i u.v w);unfold Yo at HO;go_wp2_with fail;refine Zz (HO.o _) ?_;intro w6 d6;have c6:=O (c5.o.aA d6);clear d6;go_wp2;refine⟨Qd c6.o,?_⟩;have S6:=O (J.o.later c6.o);have HC:=O (Ff (q1:=d+1) (q2:=d+1+1) o1 (u.v,u.i) (c6.o.blk Q3.o (fun h=>h)) S6.o.b1 S6.o.b2 ⟨_,_,c6.o.blk T3.o (fun h=>h)⟩ (by omega));unfold ptr Ur at HC;have A6:=c6.o.blk A3.o (fun h=>h);have ak:=O A6;clear A3 T3 Q3 J c5 A6;go_wp2_with fail;refine Zy HC ?_;rintro w7⟨k1,k2,k3⟩;have S7:Hi (Qju W (d+1) (d+1+1) (jn o1 (some (u.v,u.i))) w7):=O ⟨k1,k2,S6.o.c.aA k3⟩;have A7:=k3.blk ak.o (fun h=>by have:=HU.o.2;omega);rw[I.o]at A7;obtain⟨b0,b1,b2,b3,b4,b5,b6,b7⟩:=Ja A7;clear k1 k2 k3 A7;go_wp2_with fail;go_roundg ur.size;case rel=>exact⟨ur,_,I.o.symm,rfl,aw.o,av.o,by rw[←HX.o];exact HF.o,S7.o⟩
     case measure=>exact gr
end
section
attribute [local go_sem] Qp
attribute [local go_sem ↓] Vw Vx
attribute [local go_sem] Ds Oy
theorem Qbh(k:Fn)(c d:Array Value)(w):(binOp .eql 225 (.func k c d) .nilFunc).run prog w=.ok (.bool false) w:=Pf w _ _ _ _ underlying225 k c d
attribute [local go_sem] Qbh
theorem R8{W}{q:Nat}(a:Nat×Int)(v:Nat)(h:Qh W q #[.int .u64 v] 29):
  Cl 160 #[Ur a,ptr q] W fun e w'=>e=.returned (.bool (decide (a.1≤v)))∧Qc Qb W w':=by
 have c:=O ((Zg Qb W).alloc (.cells (Y4 a) 201));have d:=Jf (c.o.blk h (fun h=>h));obtain⟨k0,k1⟩:=Q4 (Qh.new W (Y4 a) 201);dsimp only[Y4,Ur]at*;unfold ptr;clear h;go_enter func160,ntmps160;go_wp2;go_ret;refine⟨?_,c.o⟩;congr 2
theorem Qjm{v:Nat}{x:Nd}{c:Bool}{r:Tr}:(Tr.aD x c .nil r).within v=if x.v≤v then some (x.n,x.i,x.v)else r.within v:=rfl
theorem Qjn{v:Nat}{x y:Nd}{c cy:Bool}{yl yr r:Tr}:(Tr.aD x c (.aD y cy yl yr) r).within v=if y.sv≤v then(Tr.aD y cy yl yr).within v else if x.v≤v then some (x.n,x.i,x.v)else r.within v:=rfl
def Qrc(o:Option Xu):Value:=match o with
 |none=>Yo 0 0
 |some e=>Yo e.1 e.2.1
theorem Qlz{w}{F:Fp}{T q:Nat}{l:List Xu}(h:Vz w F T l)(v:Nat)(hq:Qh w q #[.int .u64 v] 29):
  Cl 159 #[ptr T,.func (.func 160) #[] #[ptr q]] w fun e w'=>e=.returned (.tuple #[Qrc (Xf v l),.bool (Xf v l).isSome])∧Qc Qb w w':=by
 obtain⟨t,h⟩:=h;have ao:=Sa v t h.even;rw[h.flat]at ao;obtain⟨R,hR⟩:=Zx (Xf v l);rw[←hR];have HR:Hi (t.within v=R):=O (ao.trans hR.symm);obtain⟨Z,ae⟩:=Zx (w.heap.size);obtain⟨W,hW⟩:=Zx (w.alloc (.cells #[.int .u64 0,.int .i64 0] 204));have C0:Hi (Qc Qb w W):=O (by rw[hW];exact(Zg _ _).alloc _);have B0:Hi (Qh W Z #[.int .u64 0,.int .i64 0] 204):=O (by rw[hW,ae];exact Qh.new _ _ _);have BQ:=O (C0.o.blk hq (fun h=>h));have HQ:=O ae;have H:=O (h.aB C0.o (Jl.none F));unfold ptr at*;clear h ao hR hq;go_enter func159,ntmps159;go_wp2_with fail;rw[←ae,←hW];clear ae hW;have HN:=Od ⟨_,_,H.o.top⟩;unfold ptr at HN;obtain⟨a0,a1,a2,a3⟩:=X9 H.o.top;obtain⟨pt,an⟩:=t.ptrV_any;have av:=O an;rw[an]at a2;clear an;refine Zz HN ?_;rintro w1 rfl;go_wp2_with fail;clear a0 a1 a2 a3 HN;go_loopg [6] t.size (fun g vv wr=>∃s:Tr,vv=s.aH∧s.size=g∧Jw W s∧s.within v=R∧Qc Qb W wr);case atStart=>exact⟨t,av.o.symm,rfl,H.o.sub.at',HR.o,Zg _ _⟩
 case round=>
  obtain⟨s,rfl,ah,af,ag,J⟩:=hrel;have HF:=O ag;have CR:=O J;cases s with
  |nil=>
   have ho:R=none:=ag.symm;subst ho;have BR:=CR.o.blk B0.o (fun h=>h);obtain⟨e0,e1⟩:=Q4 BR;have f1:=BR.frozen;have aa:=O (show Qc Qb w ((wr.setCell ⟨Z,0,none⟩ (.int .u64 0)).setCell ⟨Z,1,none⟩ (.int .i64 0))from((C0.o.aA CR.o).setCell (a:=⟨Z,0,none⟩) _ (.inr (by have:=HQ.o;simp;omega))).setCell (a:=⟨Z,1,none⟩) _ (.inr (by have:=HQ.o;simp;omega)));dsimp only[Tr.aH];clear ah af ag J BR;go_wp2;refine bodyPost_ret (v:=.tuple #[.agg #[.int .u64 0,.int .i64 0],.bool false]) ?_ rfl ⟨rfl,?_⟩;·simp[*,results,Tryz.results159,go_sem]
   ·exact aa.o
  |aD u cu ul ur=>
   have HA:=O (Jw.aB J _ af (fun a ha h=>h));have ai:=O af;have T3:=O (J.blk H.o.top (fun h=>h));have Q3:=O (J.blk BQ.o (fun h=>h));obtain⟨b0,b1,b2,b3,b4,b5,I,b7⟩:=Ja HA.o.1;dsimp only[Tr.aH];have gl:ul.size<gk:=by rw[←ah];simp[Tr.size];omega
   have gr:ur.size<gk:=by rw[←ah];simp[Tr.size];omega
   obtain⟨pr,am⟩:=ur.ptrV_any;have E:=O am;rw[am]at b7;clear ah af ag J am;cases ul with
   |nil=>
    have U:Tr.nil.aH=.pointer none:=rfl;rw[U]at I;clear U;have HX:=O (Qjm (v:=v) (x:=u) (c:=cu) (r:=ur));obtain⟨w3,au⟩:=Zx wr;rw[←au]at CR HA T3 Q3 b0 b1 b2 b3 b4 b5 I b7⊢;clear au;go_wp2_with fail;have E2:=fun x=>X9 (Qk (S:=Qb) T3.o (fun h=>h) x);have E3:=fun x=>Ja (Qk (S:=Qb) HA.o.1 (fun h=>h) x);unfold Dd Vv at E2;rw[E.o]at E3;clear b0 b1 b2 b3 b4 b5 I b7;refine Qu [0] [1,2,3,4,5,6,7,8,9,10,11,12] [13,14,15] [] (Qz (Qb) (w3)) Zq (by kernel_rfl) (fun _ _ _ _ _ h=>h) (Qd (by(repeat' (first|(with_reducible first|exact Zg _ _|assumption|refine Zh ?_ _|refine Zi ?_ _|refine Zj ?_|refine Zk ?_ _ ?_|(apply Or.inl;rfl))|(apply Or.inl;simp;done)|(apply Or.inr;simp;first|done|omega))))) ?_;simp only[pick,Zf,Ze,Zd];iterate 1 (refine Ql (fun K hK=>?_);go_simp;refine hK _ ?_;clear hK K)
    refine Qg ?_;iterate 12 (refine Ql (fun K hK=>?_);go_simp;refine hK _ ?_;clear hK K)
    refine Qg ?_;intro _ ap;obtain⟨xo,ab⟩:=ap;subst ab;simp only[Jd];have c5:=O (Qv Qb w3 xo);generalize Qz Qb w3 xo=w5 at c5⊢;clear E2 E3;have HO:=O (fun w=>Su u.n u.i u.v w);unfold Yo at HO;go_wp2_with fail;refine Zz (HO.o _) ?_;intro w6 d6;have c6:=O (c5.o.aA d6);clear d6;go_wp2;refine⟨Qd c6.o,?_⟩;have d:=O (R8 (u.v,u.i) v (c6.o.blk Q3.o (fun h=>h)));unfold ptr Ur at d;by_cases V:u.v≤v
    ·rw[decide_eq_true V]at d;have al:R=some (u.n,u.i,u.v):=by have:=HF.o;rw[HX.o,if_pos V]at this;exact this.symm
     subst al;clear V;go_wp2_with fail;refine Zy d ?_;intro w7 z;have k:=O (c6.o.aA z);clear z;go_wp2;refine⟨Qd k.o,?_⟩;go_wp2;refine⟨Qd k.o,?_⟩;have B:=k.o.blk HA.o.1 (fun h=>h);have C7:=O (CR.o.aA k.o);have B7:=C7.o.blk B0.o (fun h=>h);obtain⟨b0,b1,b2,b3,b4,b5,I,b7⟩:=Ja B;obtain⟨e0,e1⟩:=Q4 B7;have f1:=B7.frozen;have aa:=O (show Qc Qb w ((w7.setCell ⟨Z,0,none⟩ (.int .u64 u.n)).setCell ⟨Z,1,none⟩ (.int .i64 u.i))from((C0.o.aA C7.o).setCell (a:=⟨Z,0,none⟩) _ (.inr (by have:=HQ.o;simp;omega))).setCell (a:=⟨Z,1,none⟩) _ (.inr (by have:=HQ.o;simp;omega)));clear B B7;go_wp2;refine bodyPost_ret (v:=.tuple #[.agg #[.int .u64 u.n,.int .i64 u.i],.bool true]) ?_ rfl ⟨rfl,?_⟩;·simp[*,results,Tryz.results159,go_sem]
     ·exact aa.o
    ·rw[decide_eq_false V]at d;have aj:Hi (ur.within v=R):=O (by have:=HF.o;rw[HX.o,if_neg V]at this;exact this);clear V;go_wp2_with fail;refine Zy d ?_;intro w7 z;have k:=O (c6.o.aA z);clear z;go_wp2;refine⟨Qd k.o,?_⟩;go_wp2;refine⟨Qd k.o,?_⟩;have B:=k.o.blk HA.o.1 (fun h=>h);rw[E.o]at B;obtain⟨b0,b1,b2,b3,b4,b5,I,b7⟩:=Ja B;have C7:=O (CR.o.aA k.o);clear B;go_wp2_with fail;go_roundg ur.size;case rel=>exact⟨ur,E.o.symm,rfl,ai.o.2.2,aj.o,C7.o⟩
     case measure=>exact gr
   |aD y cy yl yr=>
    have U:(Tr.aD y cy yl yr).aH=.pointer (some ⟨y.a,0,none⟩):=rfl;have ar:=O U;rw[U]at I;clear U;have ak:=O (Qjn (v:=v) (x:=u) (y:=y) (c:=cu) (cy:=cy) (yl:=yl) (yr:=yr) (r:=ur));obtain⟨d0,d1,d2,d3,d4,d5,d6,z⟩:=Ja HA.o.2.1.1;have HW:=O (R8 (y.sv,y.si) v Q3.o);unfold ptr Ur at HW;by_cases hy:y.sv≤v
    ·rw[decide_eq_true hy]at HW;have HY:=O hy;clear hy;go_wp2_with fail;refine Zy HW ?_;intro w3 c3;have A3:=c3.blk HA.o.1 (fun h=>h);rw[ar.o]at A3;clear b0 b1 b2 b3 b4 b5 I b7 d0 d1 d2 d3 d4 d5 d6 z;obtain⟨b0,b1,b2,b3,b4,b5,I,b7⟩:=Ja A3;have C3:=O (CR.o.aA c3);clear c3 A3;go_wp2_with fail;go_roundg (Tr.aD y cy yl yr).size;case rel=>exact⟨_,ar.o.symm,rfl,ai.o.2.1,by have:=HF.o;rw[ak.o,if_pos HY.o]at this;exact this,C3.o⟩
     case measure=>exact gl
    ·rw[decide_eq_false hy]at HW;have HX:Hi ((Tr.aD u cu (.aD y cy yl yr) ur).within v=if u.v≤v then some (u.n,u.i,u.v)else ur.within v):=O (by rw[ak.o,if_neg hy]);clear hy;go_wp2_with fail;refine Zy HW ?_;intro w3 c3;have ac:=O (Jw.aB c3 _ HA.o (fun a ha h=>h));have ax:=O (c3.blk T3.o (fun h=>h));have aw:=O (c3.blk Q3.o (fun h=>h));have aq:=O (CR.o.aA c3);clear b0 b1 b2 b3 b4 b5 I b7 d0 d1 d2 d3 d4 d5 d6 z HA T3 Q3 CR c3 ak;obtain⟨b0,b1,b2,b3,b4,b5,I,b7⟩:=Ja ac.o.1;go_wp2_with fail;have E2:=fun x=>X9 (Qk (S:=Qb) ax.o (fun h=>h) x);have E3:=fun x=>Ja (Qk (S:=Qb) ac.o.1 (fun h=>h) x);unfold Dd Vv at E2;rw[E.o]at E3;clear b0 b1 b2 b3 b4 b5 I b7;refine Qu [0] [1,2,3,4,5,6,7,8,9,10,11,12] [13,14,15] [] (Qz (Qb) (w3)) Zq (by kernel_rfl) (fun _ _ _ _ _ h=>h) (Qd (by(repeat' (first|(with_reducible first|exact Zg _ _|assumption|refine Zh ?_ _|refine Zi ?_ _|refine Zj ?_|refine Zk ?_ _ ?_|(apply Or.inl;rfl))|(apply Or.inl;simp;done)|(apply Or.inr;simp;first|done|omega))))) ?_;simp only[pick,Zf,Ze,Zd];iterate 1 (refine Ql (fun K hK=>?_);go_simp;refine hK _ ?_;clear hK K)
     refine Qg ?_;iterate 12 (refine Ql (fun K hK=>?_);go_simp;refine hK _ ?_;clear hK K)
     refine Qg ?_;intro _ ap;obtain⟨xo,ab⟩:=ap;subst ab;simp only[Jd];have c5:=O (Qv Qb w3 xo);generalize Qz Qb w3 xo=w5 at c5⊢;clear E2 E3;have HO:=O (fun w=>Su u.n u.i u.v w);unfold Yo at HO;go_wp2_with fail;refine Zz (HO.o _) ?_;intro w6 d6;have c6:=O (c5.o.aA d6);clear d6;go_wp2;refine⟨Qd c6.o,?_⟩;have d:=O (R8 (u.v,u.i) v (c6.o.blk aw.o (fun h=>h)));unfold ptr Ur at d;by_cases V:u.v≤v
     ·rw[decide_eq_true V]at d;have al:R=some (u.n,u.i,u.v):=by have:=HF.o;rw[HX.o,if_pos V]at this;exact this.symm
      subst al;clear V;go_wp2_with fail;refine Zy d ?_;intro w7 z;have k:=O (c6.o.aA z);clear z;go_wp2;refine⟨Qd k.o,?_⟩;go_wp2;refine⟨Qd k.o,?_⟩;have B:=k.o.blk ac.o.1 (fun h=>h);have C7:=O (aq.o.aA k.o);have B7:=C7.o.blk B0.o (fun h=>h);obtain⟨b0,b1,b2,b3,b4,b5,I,b7⟩:=Ja B;obtain⟨e0,e1⟩:=Q4 B7;have f1:=B7.frozen;have aa:=O (show Qc Qb w ((w7.setCell ⟨Z,0,none⟩ (.int .u64 u.n)).setCell ⟨Z,1,none⟩ (.int .i64 u.i))from((C0.o.aA C7.o).setCell (a:=⟨Z,0,none⟩) _ (.inr (by have:=HQ.o;simp;omega))).setCell (a:=⟨Z,1,none⟩) _ (.inr (by have:=HQ.o;simp;omega)));clear B B7;go_wp2;refine bodyPost_ret (v:=.tuple #[.agg #[.int .u64 u.n,.int .i64 u.i],.bool true]) ?_ rfl ⟨rfl,?_⟩;·simp[*,results,Tryz.results159,go_sem]
      ·exact aa.o
     ·rw[decide_eq_false V]at d;have aj:Hi (ur.within v=R):=O (by have:=HF.o;rw[HX.o,if_neg V]at this;exact this);clear V;go_wp2_with fail;refine Zy d ?_;intro w7 z;have k:=O (c6.o.aA z);clear z;go_wp2;refine⟨Qd k.o,?_⟩;go_wp2;refine⟨Qd k.o,?_⟩;have B:=k.o.blk ac.o.1 (fun h=>h);rw[E.o]at B;obtain⟨b0,b1,b2,b3,b4,b5,I,b7⟩:=Ja B;have C7:=O (aq.o.aA k.o);clear B;go_wp2_with fail;go_roundg ur.size;case rel=>exact⟨ur,E.o.symm,rfl,ai.o.2.2,aj.o,C7.o⟩
      case measure=>exact gr
end
section
attribute [local go_sem] Qp
def Qet(b T m:Nat)(l:List Xu)(L:List (Int×Value)):List Ya:=
 [Tv b #[ptr T,.map (some m)] 198,fun w G=>Vz w G T l,Qo8 m L]
theorem Yl(b T m:Nat)(l:List Xu)(L:List (Int×Value)):∀P∈Qet b T m l L,Uy P:=by
 intro P c;simp only[Qet,Zu,List.not_mem_nil,or_false]at c;rcases c with rfl|rfl|rfl;·exact Ks _ _ _
 ·exact Vz.obj.good T l
 ·exact Qhd _ _
def Jg(w:World)(F:Fp)(b:Nat)(l:List Xu):Prop:=Ol l∧∃T m L,L.Perm (atV l)∧Oh (Qet b T m l L) w F
theorem Jg.obj:Hf Jg where
 bd:=fun⟨_,T,m,L,_,h⟩=>(Je (Yl _ T m _ L)).bd h
 own:=fun⟨_,T,m,L,_,h⟩=>by obtain⟨G,h1,d⟩:=J6 (Yl _ T m _ L) 0 rfl h;exact d _ h1.2.1
 aB:=fun⟨h0,T,m,L,c,h⟩hc q=>⟨h0,T,m,L,c,(Je (Yl _ T m _ L)).aB h hc q⟩
 more:=fun⟨h0,T,m,L,c,h⟩hs k=>⟨h0,T,m,L,c,(Je (Yl _ T m _ L)).more h hs k⟩
theorem Jg.opn{w}{F:Fp}{b:Nat}{l:List Xu}(h:Jg w F b l):
  ∃T m L,L.Perm (atV l)∧Qh w b #[ptr T,.map (some m)] 198∧(∃G,Vz w G T l)∧Xq w m L:=by
 obtain⟨_,T,m,L,k,h⟩:=h;obtain⟨q,h0,_⟩:=J6 (Yl _ T m _ L) 0 rfl h;obtain⟨c,h1,_⟩:=J6 (Yl _ T m _ L) 1 rfl h;obtain⟨u,d,_⟩:=J6 (Yl _ T m _ L) 2 rfl h;exact⟨T,m,L,k,h0.1,⟨c,h1⟩,d.1⟩
theorem Jg.ris{w}{F:Fp}{b:Nat}{l:List Xu}(h:Jg w F b l):Xd l:=by obtain⟨T,m,L,d,h0,⟨G,h1⟩,c⟩:=h.opn;exact h1.ris
theorem Dp{w}{b T:Nat}{v:Value}(h:Qh w b #[ptr T,v] 198):Cl 157 #[ptr b] w fun e w'=>e=.returned (ptr T)∧w=w':=by obtain⟨c,a1⟩:=Q4 h;unfold ptr at*;clear h;go_enter func157,ntmps157;go_wp2;go_ret;exact⟨rfl,rfl⟩
theorem Qn1{w}{F:Fp}{b:Nat}{l:List Xu}(h:Jg w F b l):Cl 165 #[ptr b] w fun e w'=>e=.returned (.int .i64 l.length)∧w=w':=by obtain⟨T,m,L,q,h0,⟨G,h1⟩,k⟩:=h.opn;have d:=O (Dp h0);have c:=O (Qp0 h1);unfold ptr at*;clear h q h0 h1 k;go_enter func165,ntmps165;go_wp2_with fail;refine Zy d ?_;rintro w1 rfl;go_wp2_with fail;refine Zy c ?_;rintro w1 rfl;go_wp2;go_ret;exact⟨rfl,rfl⟩
theorem My{w}{F:Fp}{b:Nat}{l:List Xu}(h:Jg w F b l):Cl 106 #[ptr b] w fun e w'=>e=.returned (.tuple #[.int .u64 (((low l).getD (0,0)).1:Int),.bool (low l).isSome])∧Qc Qb w w':=by obtain⟨T,m,L,q,h0,⟨G,h1⟩,k⟩:=h.opn;have d:=O (Dp h0);have c:=O (Qpy h1);generalize low l=o at c⊢;unfold ptr Ur at*;clear h q h0 h1 k;go_enter func106,ntmps106;go_wp2_with fail;refine Zy d ?_;rintro w1 rfl;go_wp2_with fail;refine Zy c ?_;intro w1 u;go_wp2;go_ret2;refine⟨rfl,?_⟩;(repeat' (first|(with_reducible first|exact Zg _ _|assumption|refine Zh ?_ _|refine Zi ?_ _|refine Zj ?_|refine Zk ?_ _ ?_|(apply Or.inl;rfl))|(apply Or.inl;simp;done)|(apply Or.inr;simp;first|done|omega)))
theorem Qge{w}{F:Fp}{b:Nat}{l:List Xu}(h:Jg w F b l)(k:Nat):Cl 92 #[ptr b,.int .u64 k] w fun e w'=>e=.returned (.tuple #[.int .i64 ((Jt k l).getD (0,0)).2,.bool (Jt k l).isSome])∧Qc Qb w w':=by obtain⟨T,m,L,u,h0,⟨G,h1⟩,q⟩:=h.opn;have d:=O (Dp h0);have c:=O (Ql0 h1 k);unfold Jt;generalize low (l.filter fun e=>decide (e.1≤k))=o at c⊢;unfold ptr Ur at*;clear h u h0 h1 q;go_enter func92,ntmps92;go_wp2_with fail;refine Zy d ?_;rintro w1 rfl;go_wp2_with fail;refine Zy c ?_;intro w1 z;go_wp2;go_ret2;refine⟨rfl,?_⟩;(repeat' (first|(with_reducible first|exact Zg _ _|assumption|refine Zh ?_ _|refine Zi ?_ _|refine Zj ?_|refine Zk ?_ _ ?_|(apply Or.inl;rfl))|(apply Or.inl;simp;done)|(apply Or.inr;simp;first|done|omega)))
theorem Qen{w}{F:Fp}{b:Nat}{l:List Xu}(h:Jg w F b l)(v:Nat):Cl 94 #[ptr b,.int .u64 v] w fun e w'=>e=.returned (.tuple #[.int .i64 (((Xf v l).map (·.2.1)).getD 0),.bool (Xf v l).isSome])∧Qc Qb w w':=by
 obtain⟨T,m,L,I,h0,⟨G,h1⟩,E⟩:=h.opn;obtain⟨q,J⟩:=Zx (w.heap.size);have d:=O ((Zg Qb w).alloc (.cells #[.int .u64 v] 29));have B:=O (Dp (d.o.blk h0 (fun h=>h)));have c:=O (Qlz (Vz.obj.aB h1 d.o (Jl.none G)) v (Qh.new w #[.int .u64 v] 29));have u:Qrc (Xf v l)=.agg #[.int .u64 ((((Xf v l).map (·.1)).getD 0:Nat):Int),.int .i64 (((Xf v l).map (·.2.1)).getD 0)]:=by cases Xf v l<;>rfl
 rw[u]at c;generalize((Xf v l).map (·.1)).getD 0=K at c;generalize((Xf v l).map (·.2.1)).getD 0=R at c⊢;generalize(Xf v l).isSome=U at c⊢;unfold ptr at*;clear h I h0 h1 E u;go_enter func94,ntmps94;go_wp2_with fail;refine Zy B ?_;rintro w1 rfl;go_wp2_with fail;refine Zy c ?_;intro w1 k;have z:=O (d.o.aA k);clear k;go_wp2;go_ret2;refine⟨rfl,?_⟩;have:=z.o;(repeat' (first|(with_reducible first|exact Zg _ _|assumption|refine Zh ?_ _|refine Zi ?_ _|refine Zj ?_|refine Zk ?_ _ ?_|(apply Or.inl;rfl))|(apply Or.inl;simp;done)|(apply Or.inr;simp;first|done|omega)))
theorem Qjr(w):(zeroValue 204).run prog w=.ok (.agg #[.int .u64 0,.int .i64 0]) w:=by go_simp
theorem Qre{F:Fp}{w w1 w2 w3 w4:World}(h1:w.heap.size≤w1.heap.size)(d:w1.heap.size≤w2.heap.size)(q:w2.heap.size≤w3.heap.size)(u:w3.heap.size≤w4.heap.size):∀k,Qn (Qn F w1 w2) w3 w4 k→Qn F w w4 k:=by
 intro k c;rcases c with(c|c)|c;·exact .inl c
 ·exact .inr ⟨by omega,by omega⟩
 ·exact .inr ⟨by omega,by omega⟩
theorem Qux{F:Fp}{w w':World}(h:Bd F w)(hs:w.heap.size≤w'.heap.size):Bd (Qn F w w') w':=fun k c=>c.elim (fun c=>Nat.lt_of_lt_of_le (h k c) hs) (fun c=>c.2)
theorem Qt4{l:List Xu}(h:Ol l){e f:Xu}(u:e∈l)(hf:f∈l)(hi:e.2.1=f.2.1):e=f:=by
 unfold Ol at h;induction l with
 |nil=>cases u
 |cons a l z=>
  simp only[List.map_cons,List.nodup_cons]at h;rcases Zu.1 u with q|d
  ·rcases Zu.1 hf with k|c;·rw[q,k]
   ·exact absurd (Z3.2 ⟨f,c,by rw[←hi,q]⟩) h.1
  ·rcases Zu.1 hf with k|c;·exact absurd (Z3.2 ⟨e,d,by rw[hi,k]⟩) h.1
   ·exact z h.2 d c
theorem Qjx{l:List Xu}(h:Ol l){e:Xu}(c:e∈l):On e.2.1 l=some e:=by
 cases d:On e.2.1 l with
 |none=>exact absurd rfl (Pu d _ c)
 |some f=> obtain⟨h1,k⟩:=Pv d;rw[Qt4 h h1 c k]
theorem Qn0{w}{F:Fp}{b:Nat}{l:List Xu}(h:Jg w F b l)(n:Nat)(id:Int)(v:Nat)(E:(n,id,v)∈l):
  Cl 105 #[ptr b,.int .i64 id] w fun e w'=>e=.returned (.tuple #[.int .u64 n,.int .u64 v,.bool true])∧Qc Qb w w':=by
 obtain⟨T,m,L,Z,h0,⟨G,h1⟩,U⟩:=h.opn;have V:On id l=some (n,id,v):=Qjx h.1 E;have k:=Qht (id:=id) Z h.1;rw[V,Zn]at k;have B:=Dj (P:=prog) U underlying196 underlying3 (Qjr w) id;rw[k]at B;dsimp only[Option.getD_some,Option.isSome_some]at B;obtain⟨q,I⟩:=Zx (w.heap.size);obtain⟨W,hW⟩:=Zx (w.alloc (.cells #[.int .u64 n,.int .i64 id] 204));have z:Hi (Qc Qb w W):=O (by rw[hW];exact(Zg _ _).alloc _);have J:Hi (Qh W q #[.int .u64 n,.int .i64 id] 204):=O (by rw[hW,I];exact Qh.new _ _ _);have B0:=O (z.o.blk h0 (fun h=>h));have HO:=O (Dp h0);have HG:=O (fun w'(hc:Qc Qb w w')=>Qpz (Vz.obj.aB h1 hc (Jl.none G)) n id v E);obtain⟨a0,a1⟩:=Q4 h0;unfold ptr Yo at*;clear h Z h0 h1 U V k E;go_enter func105,ntmps105;go_wp2_with fail;refine Zy HO ?_;rintro w1 rfl;go_wp2_with fail;rw[←I,←hW];clear I hW a0 a1 B;have E1:=fun x=>Q4 (Qk (S:=Qb) B0.o (fun h=>h) x);have E2:=fun x=>Q4 (Qk (S:=Qb) J.o (fun h=>h) x);refine Qcp [(true,0),(true,1),(true,2),(true,3),(true,4),(false,5),(true,6),(true,7),(true,8),(false,9),(false,10)] (fun w'=>∃x,w'=Qz (Qb) (W) x) Zq (by kernel_rfl) (fun _ _ _ _ _ h=>h) (Qd (by(repeat' (first|(with_reducible first|exact Zg _ _|assumption|refine Zh ?_ _|refine Zi ?_ _|refine Zj ?_|refine Zk ?_ _ ?_|(apply Or.inl;rfl))|(apply Or.inl;simp;done)|(apply Or.inr;simp;first|done|omega))))) ?_;simp only[E8,Zf,Ze,Zd];iterate 5 (refine Qr1 (by kernel_rfl) (fun u d=>(by obtain⟨x,rfl⟩:=d;go_simp;try rfl)) ?_;try simp only[Act.put,Za,Zc,Zb])
 refine Qr0 (fun u d=>?_);obtain⟨x,rfl⟩:=d;have c:=O (Qv Qb W x);generalize Qz Qb W x=w1 at c⊢;clear E1 E2;go_wp2_with fail;refine Zz (HG.o _ (z.o.aA c.o)) ?_;intro w2 R;have K:=O (c.o.aA R);clear R;go_wp2;refine⟨Qd K.o,?_⟩;clear K w2 c w1;try simp only[Act.put,Za,Zc,Zb]
 iterate 3 (refine Qr1 (by kernel_rfl) (fun u d=>(by obtain⟨x,rfl⟩:=d;go_simp;try rfl)) ?_;try simp only[Act.put,Za,Zc,Zb])
 iterate 2 (refine Qr0 (fun u d=>?_);go_wp2;refine⟨d,?_⟩;clear d u;try simp only[Act.put,Za,Zc,Zb])
 refine Qt2 (fun wz hz=>?_);obtain⟨x,rfl⟩:=hz;have c:=O (Qv Qb W x);generalize Qz Qb W x=w1 at c⊢;obtain⟨k0,k1⟩:=Q4 (c.o.blk J.o (fun h=>h));go_wp2;refine bodyPost_ret (v:=.tuple #[.int .u64 n,.int .u64 v,.bool true]) ?_ rfl ⟨rfl,?_⟩;·simp[*,results,Tryz.results105,go_sem]
 ·exact z.o.aA c.o
end
end Go.Proofs.YtnnhmpehkbihnaaGreat
