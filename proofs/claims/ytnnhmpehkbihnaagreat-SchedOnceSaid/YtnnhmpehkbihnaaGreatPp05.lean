/- A part of the proof: no condition. -/
import Derived.Test.YtnnhmpehkbihnaaGreatPp04
import Derived.WalkMore
import Derived.Deep.LoopGhost
namespace Go.Proofs.YtnnhmpehkbihnaaGreat
set_option linter.unusedVariables false
set_option maxRecDepth 100000
set_option maxHeartbeats 4000000
open Go.RowKit
open Go.Proofs.Tryz
section
attribute [local go_sem] Qq
attribute [local go_sem ↓] Xe Xn
theorem Own.empty{T:Type}{cells:T→List Value}{sz:Nat}{e:TypeId}{w:World}{g:Nat}(h:Qh w g #[] e):Own cells sz e w (.slice (some ⟨g,0,none⟩) 0 0) ([]:List T):=
 ⟨by simp[Zr],.inr ⟨g,0,#[],rfl,Nat.zero_le _,h,Nat.le_refl _,by simp[maxLen],by simp,by simp[Zr]⟩⟩
def Kz(k:Nat×Nat):List Value:=[.int .u64 (k.1:Int),.int .u64 (k.2:Int)]
theorem Jh(k:Nat×Nat):(Kz k).length=2:=rfl
theorem startT:Qkf prog Kz 2 298 369 16 (0,0) where
 ht:=underlying298
 hi:=Lu (by kernel_rfl)
 pos:=by decide
 hc:=Jh
 one:=by intro x u c;simp only[Kz,List.mem_cons,List.not_mem_nil,or_false]at c;rcases c with rfl|rfl<;>rfl
structure Uj(w:World)(F:Fp)(b:Nat)(r:Jo):Prop where
 bd:Bd F w
 own:F b
 may:r.c.May
 sag:¬r.c.r<r.c.f
 ok:Vv r.l
 rise:Gm r.l
 ex:∃(v:Value)(K:V9),Qh w b (Qc0 r.c r.l.length (Zp r.l) v) 300∧Own Kz 2 369 w v K∧Xj r.c (Zp r.l) K r.l∧∀k,v.ownBlock=some k→F k∧k≠b
theorem sagP:Ky Uj where
 bd h:=h.bd
 own h:=h.own
 keep h hc hd:=⟨h.bd.later hc,h.own,h.may,h.sag,h.ok,h.rise,by
  obtain⟨v,K,h1,u,q,c⟩:=h.ex;exact⟨v,K,hc.blk h1 (hd _ h.own),u.keep hc (fun k d=>hd _ (c k d).1),q,c⟩⟩
 more h hs hb:=⟨hb,hs _ h.own,h.may,h.sag,h.ok,h.rise,by
  obtain⟨v,K,h1,u,q,c⟩:=h.ex;exact⟨v,K,h1,u,q,fun k d=>⟨hs _ (c k d).1,(c k d).2⟩⟩⟩
theorem Qa0{w:World}{F:Fp}{b:Nat}{r:Jo}(h:Uj w F b r):Cl 335 #[ptr b] w fun e w'=>e=.returned (.bool (r.l.length==0))∧w=w':=by
 obtain⟨v,K,h1,_⟩:=h.ex;unfold ptr;obtain⟨c,a1,q,d,u,z,B⟩:=Qc1 h1;have e:((r.l.length:Int)==0)=(r.l.length==0):=by
  cases r.l with
  |nil=>rfl
  |cons k l=>simp;omega
 rw[←e];clear h h1 e;generalize(r.l.length:Int)=n at*;go_enter func335,ntmps335;go_wp2;go_ret;exact⟨rfl,rfl⟩
theorem Qs0(c:Z6)(hc:c.May)(z:¬c.r<c.f)(w:World):Cl 221 #[cV c] w fun e w'=>∃b,e=.returned (.tuple #[ptr b,.int .i64 0])∧Uj w' (Qn Qb w w') b ⟨c,[]⟩∧Qc Qb w w':=by
 have U:=O (Y0 c);have K:=O (Dz c);rw[decide_eq_true hc]at U;rw[decide_eq_false z]at K;have d:∀(W w':World),Qc Qb w W→w'=W.alloc (.cells (Qc0 c 0 0 (.slice none 0 0)) 300)→Uj w' (Qn Qb w w') W.heap.size ⟨c,[]⟩∧Qc Qb w w':=by rintro W w' hW rfl;have h1:=hW.size;refine⟨⟨fun k E=>E.elim (fun h=>h.elim) (fun h=>h.2),.inr ⟨h1,by simp⟩,hc,z,Vv.nil,.nil,_,[],Qh.new _ _ _,Own.nil _ _ _ _,⟨List.Sublist.refl _,nofun⟩,fun k E=>by simp[Value.ownBlock]at E⟩,hW.alloc _⟩
 have HF:=O d;obtain⟨f,l,r⟩:=c;unfold cV at*;dsimp only[Qc0]at*;have B:=O (Qh.new w #[.int .u64 (f:Int),.int .u64 (l:Int),.int .u64 (r:Int)] 38);have C:=O ((Qc.refl Qb w).alloc (.cells #[.int .u64 (f:Int),.int .u64 (l:Int),.int .u64 (r:Int)] 38));clear hc z d;go_enter func221,ntmps221;go_wp2_with fail;refine(U.out _).mono ?_;rintro e w1⟨rfl,q⟩;have C1:=O (C.out.trans' q);have R:=O (q.blk B.out (fun h=>h));clear q;obtain⟨I,a1,J⟩:=Dy R.out;go_wp2_with fail;refine(K.out _).mono ?_;rintro e w2⟨rfl,u⟩;have V:=O (C1.out.trans' u);have Z:=O (u.blk R.out (fun h=>h));clear u I a1 J;obtain⟨I,a1,J⟩:=Dy Z.out;go_wp2;go_ret2;exact⟨_,rfl,HF.out _ _ V.out rfl⟩
theorem Qai:prog.eqGuardType prog.depth 298=false:=by kernel_rfl
theorem Qbv:prog.stoodInHeld 298=false:=by kernel_rfl
attribute [local go_sem] Qai Qbv
theorem Qmd(v:Value)(K:V9)(w:World)(R:Own Kz 2 369 w v K)(hl:K.length<1099511627776):
  Cl 332 #[v] w fun e w'=>∃v',e=.returned v'∧Own Kz 2 369 w' v' K∧Qc Qb w w'∧(∀k,v'.ownBlock=some k→w.heap.size≤k)∧(v=.slice none 0 0→v'=.slice none 0 0):=by
 obtain⟨a,cap,rfl,z,h0,d⟩:=R.row startT.hc;have HR:=O d;have HK:=O R;clear d R;have I:=fun(W:World)=>Lib.run_eql_slice_nil (P:=prog) W 298 369 a K.length cap 0 0 underlying298;cases a with
 |none=>
  obtain rfl:=h0 rfl;have u:K.length=0:=by omega
  obtain rfl:=List.eq_nil_of_length_eq_zero u;have C0:=O (Qc.refl Qb w);simp only[List.length_nil,Option.isNone_none]at I;clear z h0 hl u;go_enter func332,ntmps332;go_wp2;go_ret;exact⟨_,rfl,Own.nil _ _ _ _,C0.out,nofun,fun _=>rfl⟩
 |some ad=>
  clear h0;go_enter func332,ntmps332;go_wp2_with (at_builtin;refine Jf startT rfl (.tmp 5) (.tmp 6) rfl _ ([]:V9) rfl (Own.empty (Qh.new' _ _ (by simp))) _ _ K rfl ?a2 ?a3 ?a4 ?a5 ?a6);case a2=>intro h;cases h
  case a3=>exact HR.out.keep ((Qc.refl Qb w).alloc _) (fun _ _ h=>h)
  case a4=>simp[maxLen];omega
  case a5=>simp;omega
  case a6=>
   intro v' w1 c B E;have V:Qc Qb w w1:=((Qc.refl Qb w).alloc (.cells #[] 369)).trans B fun j Z=>.inr (by simp[Value.ownBlock]at Z;omega);have U:∀k,v'.ownBlock=some k→w.heap.size≤k:=by
    intro k J;rcases E with h|h;·rw[h]at J;simp[Value.ownBlock]at J;omega
    ·rw[h]at J;have:=Option.some.inj J;have hz:(w.alloc (.cells #[] 369)).heap.size=w.heap.size+1:=by simp
     omega
   have q:=O (And.intro c (And.intro V U));clear c V U B E;go_wp2;go_ret;exact⟨_,rfl,q.out.1,q.out.2.1,q.out.2.2,nofun⟩
theorem Xj.len{c:Z6}{x:Nat}{a b:V9}(h:Xj c x a b):a.length≤b.length:=h.1.length_le
end
section
attribute [local go_sem] Qq
attribute [local go_sem ↓] Xe Xn
theorem Qs1(c:Z6)(hc:c.May)(y:Nat):Hh c y≤Qx:=by
 have h0:=Xu;have q:=Hx;unfold Hh;split;·exact Nat.le_refl _
 ·cases h:c.reach y with
  |none=>exact Nat.le_refl _
  |some n=>
   show n≤Qx;unfold Z6.reach at h;have k:∀a b,0<b→Qay a b≤a:=fun a b d=>(Oc d).2 (Nat.le_mul_of_pos_left a d);split at h;·cases h;omega
   ·split at h;·cases h;have:=k y c.f (Nat.pos_of_ne_zero fun h0=>by rename_i h1;rw[h0,Nat.zero_mul]at h1;omega);omega
    ·split at h;·cases h
     ·cases h;have:=k (y-c.f*c.l) c.r (by omega);have:=hc.hl;omega
theorem Qvm{f:Nat×Nat→Nat}{l:V9}{a:Nat}{k:Nat×Nat}(c:k∈l):f k≤l.foldl (fun n k=>max n (f k)) a:=((Vn l a).1 (Nat.le_refl _)).2 k c
theorem Qme{f g:Nat×Nat→Nat}(h:∀k,min Qx (f k)=min Qx (g k)):∀(l:V9)(a b:Nat),min Qx a=min Qx b→min Qx (l.foldl (fun n k=>max n (f k)) a)=min Qx (l.foldl (fun n k=>max n (g k)) b)
 |[],a,b,e=>e
 |k::l,a,b,e=>by
  have:=h k;have c:min Qx (max a (f k))=min Qx (max b (g k)):=by omega
  exact Qme h l _ _ c
def atN(c:Z6)(y:Nat)(k:Nat×Nat):Nat:=k.1+Hh c (y-k.2)
theorem Qvn{c:Z6}{y:Nat}(d:y≤Jz)(k:Nat×Nat):min Qx (atN c y k)=min Qx (Lr c y k):=by
 unfold atN Lr Hh;rw[if_neg (by omega)];cases c.reach (y-k.2)with
 |none=>show min Qx (k.1+Qx)=min Qx Qx;omega
 |some n=>rfl
theorem Qmf{w:World}{F:Fp}{b:Nat}{r:Jo}(h:Uj w F b r)(hl:r.l≠[])(hn:r.l.length<1099511627776)(y:Nat)(hy:y≤Jz)(c:Z6)(hc:c.May)
  (he:∀K,Xj r.c (Zp r.l) K r.l→∀t,Zp r.l≤t→Z8 (Kw c t) K=Z8 (Kw c t) r.l)(g q:Nat)(eg:∀ab w,(callFunc g ab).run prog w=.ok (.enter g ab) w)
  (hN:∀m,m≤Jz→∀w',Qc Qb w w'→Cl g #[.int .u64 (m:Int),.pointer (some ⟨q,0,none⟩)] w' fun e w2=>e=.returned (.int .u64 (Hh c m:Nat))∧Qc Qb w' w2):
  Cl 329 #[ptr b,.int .u64 (y:Int),.func (.func g) #[] #[.pointer (some ⟨q,0,none⟩)]] w fun e w'=>e=.returned (.int .u64 (Yo c r.l y:Nat))∧Qc Qb w w':=by
 have h0:=Xu;have ay:=Hx;have H1:=O (Qa0 h);have af:(r.l.length==0)=false:=by simpa using hl
 rw[af]at H1;obtain⟨v,K,hB,hO,Z,_⟩:=h.ex;have aq:K≠[]:=(Ow (f:=Kw r.c (Zp r.l)) Z.1 hl fun k J=>by obtain⟨j,hj,d⟩:=Z.2 k J;exact⟨j,hj,(d _ (Nat.le_refl _)).1⟩).1;have ac:Yo c r.l y=min Qx (K.foldl (fun n k=>max n (atN c y k)) (Zp r.l)):=by rw[←Qpd (c:=r.c) h.ok hl Z.1 (he K Z) aq];unfold Dv;rw[if_neg (by omega)];exact(Qme (f:=atN c y) (g:=Lr c y) (Qvn hy) K _ _ rfl).symm
 have a8:K.length<1099511627776:=Nat.lt_of_le_of_lt Z.len hn;have az:∀k∈K,k.1≤Qx∧k.2≤Jz:=fun k J=>⟨Nat.le_trans (h.ok.rise k (Z.1.subset J)) h.ok.last,h.ok.cap k (Z.1.subset J)⟩;have B:=h.ok.last;obtain⟨ka,kc,rfl,bf,bd,V⟩:=hO.row Jh;have HR:=O V;have a9:=O az;have aa:=O ac;have bc:=O hN;have a7:=O (Qs1 c hc);have B0:=O hB;obtain⟨I,ap⟩:=Zx (Zp r.l);rw[←ap]at B B0 aa;rw[aa.out];have bg:¬(4611686018427387904:Int)<(y:Int):=by omega
 have be:decide (4611686018427387904<y)=false:=by simp;omega
 obtain⟨a0,a1,a2,a3,a4,a5,a6⟩:=Qc1 B0.out;unfold ptr at*;clear ac az hN V hB hO Z h hl he bd ap af;go_enter func329,ntmps329;go_wp2_with fail;refine H1.out.mono ?_;rintro e w1⟨rfl,rfl⟩;go_wp2_with fail;refine H1.out.mono ?_;rintro e w1⟨rfl,rfl⟩;go_wp2;go_loopw [7,34] (fun a i wr=>∃j:Nat,j≤K.length∧i=.int .i64 j∧a=.int .u64 ((K.take j).foldl (fun n k=>max n (atN c y k)) I:Nat)∧(K.take j).foldl (fun n k=>max n (atN c y k)) I≤Qx∧Qc Qb w wr) (fun _ i _=>K.length-(intOf i).toNat);case atStart=>exact⟨0,Nat.zero_le _,rfl,rfl,B,Qc.refl _ _⟩
 case round=>
  obtain⟨j,hj,rfl,rfl,ha,E⟩:=hrel;have ay:=Hx;by_cases Jl:j<K.length
  ·have RW:Yr Kz 2 wr ka K:=HR.out.keep E (fun _ _ h=>h);obtain⟨gb,go,rfl,u⟩:=RW j Jl;have c0:=u 0 _ rfl;have c1:=u 1 _ rfl;obtain⟨k,J⟩:=Zx (K[j]);rw[←J]at c0 c1;have al:k∈K:=J▸List.getElem_mem Jl;obtain⟨ax,bj⟩:=a9.out k al;have z:(K.take (j+1)).foldl (fun n k=>max n (atN c y k)) I=max ((K.take j).foldl (fun n k=>max n (atN c y k)) I) (atN c y k):=by rw[List.take_succ_eq_append_getElem Jl,List.foldl_append,←J];rfl
   have ae:Qx≤atN c y k→min Qx (K.foldl (fun n k=>max n (atN c y k)) I)=Qx:=fun h=>by have:=Qvm (f:=atN c y) (a:=I) al;omega
   have R:=O z;have an:=O ae;have HM:=O (fun w=>Ql5 y k.2 hy w);have HC:=O (bc.out (y-k.2) (by omega));have ao:=a7.out (y-k.2);have au:atN c y k=k.1+Hh c (y-k.2):=rfl;rw[au]at R an;generalize Hh c (y-k.2)=n at R an HC ao;generalize y-k.2=m at HM HC;generalize(K.take j).foldl (fun n k=>max n (atN c y k)) I=A at*;have av:IntKind.u64.wrap ((9223372036854775808:Int)-(k.1:Int))=((9223372036854775808-k.1:Nat):Int):=by rw[IntWalk.u64_in _ (by omega)];omega
   have ai:((j+1:Nat):Int)=(j:Int)+1:=by omega
   have bh:K.length≤9223372036854775807:=by omega
   have ah:=O E;clear z ae E RW u J al au;simp only[Nat.add_zero]at c0;have BK:=O (Qh.new wr #[.int .u64 (k.1:Int),.int .u64 (k.2:Int)] 369);have CK:=O (ah.out.alloc (.cells #[.int .u64 (k.1:Int),.int .u64 (k.2:Int)] 369));go_wp2_with fail;with_reducible refine(HM.out _).mono ?_
   rintro e w2⟨rfl,c2⟩;have aw:=O (c2.blk BK.out (fun h=>h));have aj:=O (CK.out.trans' c2);clear c2 c0 c1 BK CK;go_wp2_with fail;refine(HC.out _ aj.out).mono ?_;rintro e w3⟨rfl,c3⟩;have ba:=O (c3.blk aw.out (fun h=>h));have ar:=O (aj.out.trans' c3);clear c3 aw aj;obtain⟨c0,c1⟩:=Qz ba.out;have ag:=Hx;by_cases U:9223372036854775808-k.1≤n
   ·have am:decide (9223372036854775808-k.1≤n)=true:=by simpa using U
    have hr:=an.out (by omega);rw[ag]at hr;have ak:=O hr;generalize 9223372036854775808-k.1=dd at av am;clear hr U ao ha ax ag;go_wp2;go_ret;exact⟨by rw[ak.out];rfl,ar.out⟩
   ·have am:decide (9223372036854775808-k.1≤n)=false:=by simpa using U
    have bi:IntKind.u64.wrap ((k.1:Int)+(n:Int))=((k.1+n:Nat):Int):=by rw[IntWalk.u64_in _ (by omega)];omega
    have bk:max (A:Int) ((k.1+n:Nat):Int)=((max A (k.1+n):Nat):Int):=by omega
    have hA:max A (k.1+n)≤Qx:=by omega
    have HA:=O hA;generalize 9223372036854775808-k.1=dd at av am;generalize k.1+n=kn at*;generalize max A kn=A2 at*;clear U ao ha ax ag hA;go_wp2;go_roundw;case rel=>exact⟨j+1,by omega,by rw[ai],by rw[R.out],by rw[R.out];exact HA.out,ar.out⟩
    case measure=>simp[intOf];omega
  ·have bb:j=K.length:=by omega
   subst bb;rw[List.take_length]at*;have hr:min Qx (K.foldl (fun n k=>max n (atN c y k)) I)=K.foldl (fun n k=>max n (atN c y k)) I:=by omega
   have ah:=O E;have ak:=O hr;clear hr ha ay E;go_wp2;go_ret;exact⟨by rw[ak.out];rfl,ah.out⟩
theorem Qmg{w:World}{F:Fp}{b:Nat}{r:Jo}(h:Uj w F b r)(hl:r.l=[])(y:Nat)(c:Z6)(g q:Nat):
  Cl 329 #[ptr b,.int .u64 (y:Int),.func (.func g) #[] #[.pointer (some ⟨q,0,none⟩)]] w fun e w'=>e=.returned (.int .u64 (Yo c r.l y:Nat))∧Qc Qb w w':=by
 have d:=O (Qa0 h);rw[hl]at d;have e:Yo c r.l y=if y=0 then 0 else 9223372036854775808:=by unfold Yo;rw[if_pos hl]
 unfold ptr at*;dsimp only[List.length_nil]at d;rw[e];by_cases k:y=0;·subst k;clear e hl h;go_enter func329,ntmps329;go_wp2_with fail;refine d.out.mono ?_;rintro e w1⟨rfl,rfl⟩;go_wp2;go_ret;exact⟨rfl,Qc.refl _ _⟩
 ·rw[if_neg k];have u:((y:Int)==0)=false:=by simp;omega
  clear k e hl h;go_enter func329,ntmps329;go_wp2_with fail;refine d.out.mono ?_;rintro e w1⟨rfl,rfl⟩;go_wp2_with fail;refine d.out.mono ?_;rintro e w1⟨rfl,rfl⟩;go_wp2;go_ret;exact⟨rfl,Qc.refl _ _⟩
theorem Qmh{w:World}{F:Fp}{b:Nat}{r:Jo}(h:Uj w F b r)(hl:r.l≠[])(y:Nat)(k:Jz<y)(c:Z6)(g q:Nat):
  Cl 329 #[ptr b,.int .u64 (y:Int),.func (.func g) #[] #[.pointer (some ⟨q,0,none⟩)]] w fun e w'=>e=.returned (.int .u64 (Yo c r.l y:Nat))∧Qc Qb w w':=by
 have u:=O (Qa0 h);have d:(r.l.length==0)=false:=by simpa using hl
 rw[d]at u;have e:Yo c r.l y=9223372036854775808:=by unfold Yo;rw[if_neg hl,if_pos k]
 have B:(4611686018427387904:Int)<(y:Int):=by rw[Xu]at k;omega
 have z:decide (4611686018427387904<y)=true:=by rw[Xu]at k;simpa using k
 unfold ptr at*;rw[e];clear e hl h k d;go_enter func329,ntmps329;go_wp2_with fail;refine u.out.mono ?_;rintro e w1⟨rfl,rfl⟩;go_wp2_with fail;refine u.out.mono ?_;rintro e w1⟨rfl,rfl⟩;go_wp2;go_ret;exact⟨rfl,Qc.refl _ _⟩
end
theorem Qkh{w:World}{q b:Nat}{c:Z6}{n:Int}{x:Nat}{v:Value}(hc:c.May)(k:Qh w q #[.pointer (some ⟨b,0,none⟩)] 272)(u:Qh w b (Qc0 c n x v) 300)(m:Nat)(d:m≤Jz):
  Cl 330 #[.int .u64 (m:Int),.pointer (some ⟨q,0,none⟩)] w fun e w'=>e=.returned (.int .u64 (Hh c m:Nat))∧Qc Qb w w':=by
 have z:=O (Qfo c hc m d);have J:=Zv k;obtain⟨E,a1,I,_⟩:=Qc1 u;unfold cV at z;clear k u d;go_enter func330,ntmps330;go_wp2_with fail;refine(z.out _).mono ?_;rintro e w1⟨rfl,B⟩;go_wp2;go_ret;exact⟨rfl,B⟩
theorem Qki{w:World}{q:Nat}{r:Nat}(hr:r≤1048576)(d:Qh w q #[.int .u64 (r:Int)] 29)(m:Nat)(c:m≤Jz):
  Cl 344 #[.int .u64 (m:Int),.pointer (some ⟨q,0,none⟩)] w fun e w'=>e=.returned (.int .u64 (Hh ⟨0,0,r⟩ m:Nat))∧Qc Qb w w':=by
 have k:=O (Qfo ⟨0,0,r⟩ ⟨Nat.zero_le _,hr,Nat.zero_le _,fun _=>rfl,fun h=>(h rfl).elim⟩ m c);have z:=Zv d;unfold cV at k;clear d c hr;go_enter func344,ntmps344;go_wp2_with fail;refine(k.out _).mono ?_;rintro e w1⟨rfl,u⟩;go_wp2;go_ret;exact⟨rfl,u⟩
theorem Qfq{w:World}{F:Fp}{b:Nat}{r:Jo}(h:Uj w F b r)(hn:r.l.length<1099511627776)(y:Nat)(c:Z6)(hc:c.May)
  (z:∀K,Xj r.c (Zp r.l) K r.l→∀t,Zp r.l≤t→Z8 (Kw c t) K=Z8 (Kw c t) r.l)(g q:Nat)(B:∀d w,(callFunc g d).run prog w=.ok (.enter g d) w)
  (u:∀m,m≤Jz→∀w',Qc Qb w w'→Cl g #[.int .u64 (m:Int),.pointer (some ⟨q,0,none⟩)] w' fun e w2=>e=.returned (.int .u64 (Hh c m:Nat))∧Qc Qb w' w2):
  Cl 329 #[ptr b,.int .u64 (y:Int),.func (.func g) #[] #[.pointer (some ⟨q,0,none⟩)]] w fun e w'=>e=.returned (.int .u64 (Yo c r.l y:Nat))∧Qc Qb w w':=by
 by_cases hl:r.l=[];·exact Qmg h hl y c g q
 ·by_cases k:Jz<y;·exact Qmh h hl y k c g q
  ·exact Qmf h hl hn y (by omega) c hc z g q B u
theorem Qmi{w:World}{F:Fp}{b:Nat}{r:Jo}(h:Uj w F b r)(hn:r.l.length<1099511627776)(y:Nat):
  Cl 326 #[ptr b,.int .u64 (y:Int)] w fun e w'=>e=.returned (.int .u64 (r.reach y:Nat))∧Qc Qb w w':=by
 have d:=O ((Qc.refl Qb w).alloc (.cells #[.pointer (some ⟨b,0,none⟩)] 272));have h':=sagP.keep h d.out (Je.none F);obtain⟨v,K,k,_⟩:=h'.ex;have c:=Qh.new w #[.pointer (some ⟨b,0,none⟩)] 272;have z:=O (Qfq h' hn y r.c h.may (fun K hs t ht=>by
  by_cases hl:r.l=[];·have:K=[]:=List.sublist_nil.1 (hl▸hs.1);rw[this,hl]
  ·exact Qpc hs hl ht) 330 w.heap.size (enters_of func330 (by kernel_rfl) rfl)
  (fun m u w' hc=>Qkh h.may (hc.blk c (fun h=>h)) (hc.blk k (fun h=>h)) m u))
 unfold Jo.reach;unfold ptr at*;clear c k h' h;go_enter func326,ntmps326;go_wp2_with fail;refine z.out.mono ?_;rintro e w1⟨rfl,q⟩;go_wp2;go_ret;exact⟨rfl,d.out.trans' q⟩
theorem Qs2(c:Z6)(t:Nat)(k:Nat×Nat):Kw ⟨0,0,c.r⟩ t k=Vo c t k:=by unfold Kw Vo Z6.at;simp
theorem Qmj{w:World}{F:Fp}{b:Nat}{r:Jo}(h:Uj w F b r)(hn:r.l.length<1099511627776)(y:Nat):
  Cl 342 #[ptr b,.int .u64 (y:Int)] w fun e w'=>e=.returned (.int .u64 (r.elig y:Nat))∧Qc Qb w w':=by
 have u:=O ((Qc.refl Qb w).alloc (.cells #[.int .u64 (r.c.r:Int)] 29));have h':=sagP.keep h u.out (Je.none F);have q:=Qh.new w #[.int .u64 (r.c.r:Int)] 29;have c:=h.may.hr;have I:=O (Qfq h' hn y ⟨0,0,r.c.r⟩ ⟨Nat.zero_le _,c,Nat.zero_le _,fun _=>rfl,fun h=>(h rfl).elim⟩ (fun K hs t ht=>by
  by_cases hl:r.l=[];·have:K=[]:=List.sublist_nil.1 (hl▸hs.1);rw[this,hl]
  ·have e:Kw ⟨0,0,r.c.r⟩ t=Vo r.c t:=funext (Qs2 r.c t);rw[e];exact Ql3 hs hl ht) 344 w.heap.size (enters_of func344 (by kernel_rfl) rfl)
  (fun m z w' hc=>Qki c (hc.blk q (fun h=>h)) m z))
 unfold Jo.elig;rw[if_neg h.sag];obtain⟨v,K,k,_⟩:=h.ex;have E:=O k;have d:=k.lt;obtain⟨R,a1,U,_⟩:=Qc1 (E.out.alloc (.cells #[.int .u64 0] 29));have J:¬b=w.heap.size:=by omega
 unfold ptr at*;clear q k h' h d;go_enter func342,ntmps342;go_wp2_with fail;refine I.out.mono ?_;rintro e w1⟨rfl,B⟩;go_wp2;go_ret;exact⟨rfl,u.out.trans' B⟩
section
variable{P:Program}{ops:Array Oper}{Q:Exit→Act→World→Prop}{C:World→Prop}
def Qc2(P:Program)(ops:Array Oper)(Q:Exit→Act→World→Prop)(C:World→Prop)(late:List Oper)(c:List Oper):Nat→List Nat→Act→World→Prop
 |0,_,a,w=>Zn P ops Q C late c a w
 |n+1,is,a,w=>∀i∈is,∀o,ops[i]? =some o→wpList P ops (Exit.then (fun d w'=>C w'∧Qc2 P ops Q C late c n (is.erase i) d w') Q) [o] a w
theorem Qfr{late c:List Oper}{j:Nat}{d:Oper}(q:ops[j]? =some d):Qc2 P ops Q C late c 1 [j]=fun a w=>wpList P ops (Exit.then (fun B w'=>C w'∧Zn P ops Q C late c B w') Q) [d] a w:=by
 funext a w;apply propext;constructor;·intro h;exact h j (by simp) d q
 ·intro h k z o u;simp only[List.mem_cons,List.not_mem_nil,or_false]at z;subst z;rw[q]at u;obtain rfl:=Option.some.inj u;exact h
theorem Qpl{late c:List Oper}{i j:Nat}{B z:Oper}{a:Act}{w:World}(u:i≠j)(hi:ops[i]? =some B)(E:ops[j]? =some z)
  (h1:wpList P ops (Exit.then (fun d w'=>C w'∧wpList P ops (Exit.then (fun d w'=>C w'∧Zn P ops Q C late c d w') Q) [z] d w') Q) [B] a w)
  (K:wpList P ops (Exit.then (fun d w'=>C w'∧wpList P ops (Exit.then (fun d w'=>C w'∧Zn P ops Q C late c d w') Q) [B] d w') Q) [z] a w):Qc2 P ops Q C late c 2 [i,j] a w:=by
 have e1:[i,j].erase i=[j]:=by simp
 have J:[i,j].erase j=[i]:=by rw[List.erase_cons_tail (by simpa using u)];simp
 intro k I o q;simp only[List.mem_cons,List.not_mem_nil,or_false]at I;rcases I with rfl|rfl;·rw[hi]at q;obtain rfl:=Option.some.inj q;rw[e1,Qfr E];exact h1
 ·rw[E]at q;obtain rfl:=Option.some.inj q;rw[J,Qfr hi];exact K
def Qmk(ops:Array Oper)(c d:List Nat):Nat→List Nat→Array Bool→Bool
 |0,_,listed=>Qeq ops (c++d) listed
 |n+1,is,listed=>decide (Region.ready .any ops listed=is)&&!is.isEmpty&&is.all fun i=>(ops[i]?).isSome&&Qmk ops c d n (is.erase i) (listed.setIfInBounds i true)
theorem Qi9{late:Nat→Bool}{k q:List Nat}(d:∀j∈q,late j=true):∀(n:Nat)(is:List Nat)(c:Array Bool)(a:Act)(w:World),Qmk ops k q n is c=true→
  Qc2 P ops Q C (pick ops q) (pick ops k) n is a w→Ox P ops Q C late (n+(k.length+q.length)) c a w
 |0,is,c,a,w,hB,h=>by rw[Nat.zero_add];exact Qaz d k c a w (by simpa[Qmk]using hB) h
 |n+1,is,c,a,w,hB,h=>by
  simp only[Qmk,Bool.and_eq_true,decide_eq_true_eq]at hB;obtain⟨⟨h1,z⟩,u⟩:=hB;have e:n+1+(k.length+q.length)=(n+(k.length+q.length))+1:=by omega
  rw[e];refine⟨fun E=>(by rw[h1]at E;subst E;simp at z),fun i hi=>?_⟩;rw[h1]at hi;have I:=List.all_eq_true.1 u i hi;simp only[Bool.and_eq_true]at I;obtain⟨J,B⟩:=I;obtain⟨o,h0⟩:=Option.isSome_iff_exists.1 J;refine wpOp_mono (fun K w' h'=>⟨fun _=>h'.1,?_⟩) (Yp h0 (h i hi o h0));exact Qi9 d n (is.erase i) _ K w' B h'.2
def Qfs(ops:Array Oper)(fin:Array Bool→Bool):List Nat→Array Bool→Bool
 |[],listed=>fin listed
 |k::ks,listed=>(Region.ready .any ops listed).contains k&&Region.free .any ops listed k&&((ops[k]?).map (·.dst.isSome)).getD false&&Qfs ops fin ks (listed.setIfInBounds k true)
theorem Qft{m:Nat}{fin:Array Bool→Bool}{late:Nat→Bool}{ls:List Nat}{K:Act→World→Prop}(B:Region.noSelect ops=true)(hn:∀t,late t=true→∀h∈ls,Jy ops ops.size t h=true)
  (hQ:∀c(a:Act)(d:Tmp)v w,Q (.panic c) (a.put (some d) v) w→Q (.panic c) a w)(z:∀q a w,fin q=true→K a w→Ox P ops Q C late m q a w):
  ∀(u:List Nat)(q:Array Bool)(a:Act)(w:World),(∀k∈u,k∈ls)→Ji ops q→C w→
   Qfs ops fin u q=true→Xk P ops C (fun J=>∀w',C w'→K J w') (pick ops u) a→
   Ox P ops Q C late (u.length+m) q a w
 |[],q,a,w,hsub,hcl,hC,hB,h=>by simp only[List.length_nil,Nat.zero_add];exact z q a w (by simpa[Qfs]using hB) (h w hC)
 |k::u,q,a,w,hsub,hcl,hC,hB,h=>by
  simp only[Qfs,Bool.and_eq_true]at hB;obtain⟨⟨⟨hr,hf⟩,I⟩,V⟩:=hB;have E:k∈Region.ready .any ops q:=by simpa using hr
  obtain⟨_,o,h0,_⟩:=mem_ready.1 E;rw[h0]at I;simp only[Option.map_some,Option.getD_some]at I;obtain⟨d,I⟩:=Option.isSome_iff_exists.1 I;rw[Ur h0]at h;have U:∃v,YieldsIf P ops C o v a∧Xk P ops C (fun J=>∀w',C w'→K J w') (pick ops u) (a.put o.dst v):=by
   simp only[Xk]at h;by_cases R:Region.wanted o (yielded ops a.tmps)=true;·simp only[R,if_true]at h;obtain⟨v,h1,h2⟩:=h;exact⟨v,.inl ⟨R,h1⟩,h2⟩
   ·simp only[R]at h;exact⟨undef,.inr ⟨by simpa using R,rfl⟩,h⟩
  obtain⟨v,U,hK⟩:=U;have e:(k::u).length+m=(u.length+m)+1:=by simp;omega
  rw[e];refine Gv (F:=ops.size) h0 (Region.noSelect_spec B) (fun c J w' Z=>by rw[I]at Z;exact hQ c J d _ w' Z) (fun j oj hj hT=>hn j hT k (hsub k (by simp))) _ q a w hcl (Region.free_spec h0 hf) E U hC
   (Qft B hn hQ z u _ _ w (fun j hj=>hsub j (by simp[hj])) (hcl.set E) hC V hK)
def Qzv(ops:Array Oper)(ls d k c:List Nat):Bool:=
 Region.noSelect ops&&decide (ls.length+(d.length+(k.length+c.length))=ops.size)&&(c.all fun t=>ls.all fun h=>Jy ops ops.size t h)&&Qfs ops (Qmk ops k c d.length d) ls (Array.replicate ops.size false)
theorem Qfu{id:Nat}{a:Act}{w:World}{l:List Oper}(ls q E u:List Nat)(G:World→World)(V:P.follows .mixedOrders=true)(U:Qzv l.toArray ls q E u=true)
  (Z:∀c(a:Act)(d:Tmp)v w,Q (.panic c) (a.put (some d) v) w→Q (.panic c) a w)(hG:∃x,w.drew=G x)
  (h:Xk P l.toArray (fun w'=>∃x,w'=G x) (fun a'=>∀w',(∃x,w'=G x)→Qc2 P l.toArray Q (fun w'=>∃x,w'=G x) (pick l.toArray u) (pick l.toArray E) q.length q a' w') (pick l.toArray ls) a):
  (Code.region id l.toArray true).wp P Q a w:=by
 simp only[Qzv,Bool.and_eq_true,decide_eq_true_eq]at U;obtain⟨⟨⟨z,B⟩,R⟩,J⟩:=U;refine wp_region_any V ?_;have I:Ji l.toArray (Array.replicate l.toArray.size false):=fun j oj _ hl=>by rw[getD_replicate_false]at hl;cases hl
 have hn:∀t,decide (t∈u)=true→∀h∈ls,Jy l.toArray l.toArray.size t h=true:=fun t ht h hh=>List.all_eq_true.1 (List.all_eq_true.1 R t (by simpa using ht)) h hh;refine Gu (C:=fun w'=>∃x,w'=G x) (late:=fun j=>decide (j∈u)) _ _ _ _ ?_;have:=Qft (P:=P) (ops:=l.toArray) (C:=fun w'=>∃x,w'=G x) (Q:=Q) (late:=fun j=>decide (j∈u)) (m:=q.length+(E.length+u.length)) (ls:=ls) (K:=Qc2 P l.toArray Q (fun w'=>∃x,w'=G x) (pick l.toArray u) (pick l.toArray E) q.length q) z hn Z
  (fun k a w hf hK=>Qi9 (fun j hj=>by simpa using hj) q.length q k a w hf hK) ls _ a _ (fun _ h=>h) I hG J h
 rw[B]at this;exact this
end
section
attribute [local go_sem] Qq
attribute [local go_sem ↓] Xe Xn
theorem Own.cells2{e:TypeId}{w:World}{a:Option Addr}{n cap:Nat}{l:V9}(h:Own Kz 2 e w (.slice a n cap) l)(i:Nat)(hi:i<l.length):
  ∃g,a=some ⟨g,0,none⟩∧w.cell? ⟨g,i*2,none⟩=some (.int .u64 (l[i].1:Int))∧w.cell? ⟨g,i*2+1,none⟩=some (.int .u64 (l[i].2:Int)):=by
 obtain⟨I,q,d,_,_,c⟩:=h.row Jh;simp only[Value.slice.injEq]at d;obtain⟨rfl,_,_⟩:=d;obtain⟨_,h⟩:=h;rcases h with⟨h1,E⟩|⟨g,k,B,h1,_⟩;·omega
 ·simp only[Value.slice.injEq]at h1;obtain⟨rfl,_,_⟩:=h1;obtain⟨J,K,d,hc⟩:=c i hi;simp only[Option.some.injEq,Addr.mk.injEq]at d;obtain⟨rfl,rfl,_⟩:=d;have u:=hc 0 _ rfl;have z:=hc 1 _ rfl;simp only[Nat.zero_add,Nat.add_zero]at u z;exact⟨g,rfl,u,z⟩
theorem Own.len{T:Type}{cells:T→List Value}{sz:Nat}{e:TypeId}{w:World}{a:Option Addr}{n cap:Nat}{l:List T}(hc:∀x,(cells x).length=sz)(h:Own cells sz e w (.slice a n cap) l):n=l.length∧n≤cap:=by obtain⟨k,c,d,h1,_,_⟩:=h.row hc;simp only[Value.slice.injEq]at d;omega
theorem Own.dropLast{T:Type}{cells:T→List Value}{sz:Nat}{e:TypeId}{w:World}{a:Option Addr}{n cap:Nat}{l:List T}(hc:∀x,(cells x).length=sz)(h:Own cells sz e w (.slice a n cap) l)(hl:l≠[]):Own cells sz e w (.slice a (n-1) cap) l.dropLast:=by
 have hn:=(h.len hc).1;obtain⟨h0,h⟩:=h;have k:=List.length_pos_iff.2 hl;refine⟨by rw[Xd hc],?_⟩;rcases h with⟨h1,q⟩|⟨g,d,c,h1,q,B,I,z,E,u⟩;·omega
 ·simp only[Value.slice.injEq]at h1;obtain⟨rfl,_,rfl⟩:=h1;refine .inr ⟨g,cap,c,by rw[List.length_dropLast,hn],q,B,by rw[List.length_dropLast];omega,z,E,?_⟩;have e1:l.dropLast=l.take (l.length-1):=List.dropLast_eq_take;rw[List.length_dropLast,e1,←Qfc hc,←u,List.take_take];congr 1;have:(l.length-1)*sz≤l.length*sz:=Nat.mul_le_mul_right _ (by omega);omega
theorem Qxt(m n:Nat):decide ((0:Int)≤Qep m n)=decide (n≤m):=by
 unfold Qep;by_cases h1:m<n;·rw[if_pos h1];simp;omega
 ·rw[if_neg h1];split<;>simp<;>omega
theorem Qxu(m n:Nat):decide (Qep m n≤(0:Int))=decide (m≤n):=by
 unfold Qep;by_cases h1:m<n;·rw[if_pos h1];simp;omega
 ·rw[if_neg h1];split<;>simp<;>omega
structure Qy6(c:Z6)(X:Nat)(L:V9)(W2:World)(gk:Nat)(v i:Value)(wr:World):Prop where
 ex:∃(j:Nat)(out:V9)(a:Option Addr)(cap:Nat),j+gk=L.length∧i=.int .i64 j∧v=.slice a out.length cap∧Own Kz 2 369 wr (.slice a out.length cap) out∧out=(L.take j).foldl (Ha c X) []∧
  out.length≤j∧(∀z∈out,z.1≤X∧z.2≤Jz)∧(∀k,(Value.slice a out.length cap).ownBlock=some k→W2.heap.size≤k)∧Qc Qb W2 wr
structure Qy7(c:Z6)(X:Nat)(k:Nat×Nat)(P:V9)(W2 W3:World)(q B:Nat)(gk:Nat)(v n:Value)(wi:World):Prop where
 ex:∃(o:V9)(a:Option Addr)(cap:Nat),o.length=gk∧n=.int .i64 o.length∧v=.slice a o.length cap∧Own Kz 2 369 wi (.slice a o.length cap) o∧Hd c X k o.length o=P∧o.length≤B∧(∀z∈o,z.1≤X∧z.2≤Jz)∧
  (∀g,(Value.slice a o.length cap).ownBlock=some g→W2.heap.size≤g∧g≠q)∧Qc Qb W3 wi
theorem Qfv{o:V9}{m:Nat}(h:o.length=m+1):∃z,o.getLast? =some z∧z∈o∧∃c:m<o.length,o[m]=z:=by
 have c:m<o.length:=by omega
 refine⟨o[m],?_,List.getElem_mem c,c,rfl⟩;rw[List.getLast?_eq_getElem?,h,Nat.add_sub_cancel,List.getElem?_eq_getElem c]
theorem Qml{w:World}{F:Fp}{b:Nat}{r:Jo}(h:Uj w F b r)(hn:r.l.length<549755813888)(x y:Nat)(V:x<18446744073709551616)(hy:y<18446744073709551616):
  Cl 327 #[ptr b,.int .u64 (x:Int),.int .u64 (y:Int)] w fun e w'=>e=.returned (.tuple #[])∧Uj w' (Qn F w w') b (r.start x y)∧Qc F w w':=by
 have Z:=h.may;have d:=h.ok.last;have di:=Xu;have dk:=Hx;obtain⟨X,hX⟩:=Zx (max (min x Qx) (Zp r.l));obtain⟨Y,hY⟩:=Zx (min y Jz);obtain⟨v0,K,hB,hO,hS,hV⟩:=h.ex;have bl:Zp (r.start x y).l=X:=by rw[hX];exact Hn _ _ _
 have bg:Xj r.c X (Qfg r.c X (K++[(X,Y)])) (r.start x y).l:=by have:=Qsw (Nat.le_of_not_lt h.sag) hS h.rise h.ok.rise x y;rw[hX,hY];rw[Hn]at this;exact this
 have cu:K.length<549755813888:=Nat.lt_of_le_of_lt hS.len hn;have bv:∀k∈K++[(X,Y)],k.1≤X∧k.2≤Jz:=fun k I=>by
  rcases List.mem_append.1 I with I|I;·exact⟨Nat.le_trans (h.ok.rise k (hS.1.subset I)) (by rw[hX];omega),h.ok.cap k (hS.1.subset I)⟩
  ·obtain rfl:k=(X,Y):=by simpa using I
   exact⟨Nat.le_refl _,by rw[hY];exact Nat.min_le_right _ _⟩
 have dw:X≤9223372036854775808:=by rw[hX];omega
 have d8:Y≤4611686018427387904:=by rw[hY];omega
 have df:max (min (x:Int) 9223372036854775808) (Zp r.l:Int)=(X:Int):=by omega
 have dy:min (y:Int) 4611686018427387904=(Y:Int):=by omega
 obtain⟨ka,kc,rfl,_,_,cb⟩:=hO.row Jh;have bm:∀(w':World)(v:Value),Qh w' b (Qc0 r.c (r.l.length+1:Int) X v) 300→Own Kz 2 369 w' v (Qfg r.c X (K++[(X,Y)]))→(∀k,v.ownBlock=some k→w.heap.size≤k)→Qc (fun k=>k=b) w w'→Uj w' (Qn F w w') b (r.start x y)∧Qc F w w':=fun w' v hb ho hv hc=>by
  have cj:Qc F w w':=hc.sub (fun k I=>by rw[I];exact h.own);refine⟨⟨h.bd.ext cj,.inl h.own,Z,h.sag,h.ok.start x y,h.rise.start h.ok x y,v,_,?_,ho,by rw[bl];exact bg,fun k I=>⟨.inr ⟨hv k I,ho.lt k I⟩,by have:=hv k I;have:=hB.lt;omega⟩⟩,cj⟩;rw[bl];have e4:((r.start x y).l.length:Int)=(r.l.length+1:Int):=by simp[Jo.start,Un]
  rw[e4];exact hb
 obtain⟨L,hL⟩:=Zx (K++[(X,Y)]);rw[←hL]at bm bv;have ar:L.length=K.length+1:=by rw[hL];simp
 have dq:L.length<549755813889:=by omega
 have d0:=O ar;have HL:=O hL;have HF:=O bm;have HC:=O (fun w'(hc:Qc (fun k=>k=b) w w')=>Qmd _ K w' (hO.keep hc (fun k I e=>(hV k I).2 e)) (by omega));have cw:=O bv;have B0:=O hB;have ec:=hB.lt;have aw:=O Z;obtain⟨x0,b7⟩:=Zx (Zp r.l);rw[←b7]at df B0;obtain⟨n0,ca⟩:=Zx (r.l.length);rw[←ca]at HF B0 hn;obtain⟨c,b1⟩:=Zx (r.c);rw[←b1]at HF B0 aw;unfold ptr at*;obtain⟨a0,a1,a2,a3,a4,a5,a6⟩:=Qc1 B0.out;have z0:=B0.out.frozen;clear bm bv hL ar bg bl hX hY b7 ca b1 hB hO hS hV cb Z d di dk h;go_enter func327,ntmps327;go_wp2;go_step3;go_wp2;go_step3;go_wp2;obtain⟨W,hW⟩:=Zx ((w.setCell ⟨b,5,none⟩ (.int .u64 (X:Int))).setCell ⟨b,4,none⟩ (.int .i64 ((n0:Int)+1)));have B1:=O ((B0.out.set' 5 (.int .u64 (X:Int)) (cs':=Qc0 c n0 X (.slice ka K.length kc)) rfl).set' 4 (.int .i64 ((n0:Int)+1)) (cs':=Qc0 c ((n0:Int)+1) X (.slice ka K.length kc)) rfl);have C1:=O (((Qc.refl (fun k=>k=b) w).setCell (a:=⟨b,5,none⟩) (.int .u64 (X:Int)) (.inl rfl)).setCell (a:=⟨b,4,none⟩) (.int .i64 ((n0:Int)+1)) (.inl rfl));rw[←hW]at B1 C1⊢;clear hW a0 a1 a2 a3 a4 a5 a6 z0 B0;have cx:=C1.out.size;have bi:=O (fun w'(hc:Qc Qb W w')=>HC.out w' (C1.out.trans' hc.none));clear HC;go_cut [50,51,52] (fun cv cr ct wz=>∃a cap,cv=.slice a L.length cap∧cr=.int .i64 L.length∧ct=.int .i64 0∧Own Kz 2 369 wz (.slice a L.length cap) L∧(∀k,(Value.slice a L.length cap).ownBlock=some k→W.heap.size≤k)∧Qc Qb W wz)
 case first=>
  have E:=fun x=>Qc1 (Qk (S:=Qb) B1.out (fun h=>h) x);try dsimp only[Qc0]at E
  refine Qfu [0,1,2,3,5,6,7,8,9,10,11,15] [4,12] [13,14] [] (Qw (Qb) (W)) (by kernel_rfl) (by kernel_rfl) ?_ (Qd (by(repeat' (first|(with_reducible first|exact Zg _ _|assumption|refine Zh ?_ _|refine Zi ?_ _|refine Zj ?_ |refine Zk ?_ _ ?_ |(apply Or.inl;rfl))|(apply Or.inl;simp;done)|(apply Or.inr;simp;first|done|omega))))) ?_;·exact fun _ _ _ _ _ h=>h
  simp only[pick,Zf,Ze,Zd];iterate 12 (refine Ql (fun K hK=>?_);go_simp;refine hK _ ?_;clear hK K)
  refine Qf ?_;intro _ ab;obtain⟨xo,U⟩:=ab;subst U;have c3:=O (Qu Qb W xo);generalize Qw Qb W xo=w3 at c3⊢;clear E;refine Qpl (by decide) rfl rfl ?_ ?_
  ·go_wp2_with fail;refine(bi.out _ c3.out).mono ?_;rintro e w4⟨v4,rfl,o4,d4,n4,_⟩;have c4:=O (c3.out.trans' d4);have O4:=O o4;have N4:=O n4;clear d4 o4 n4;go_wp2;refine⟨Qd c4.out,?_⟩;go_wp2;refine⟨Qd (c4.out.alloc _),?_⟩;simp only[Zn];go_wp2_with (at_builtin;refine Jf startT rfl (.tmp 41) (.tmp 49) rfl _ K rfl (O4.out.keep ((Qc.refl Qb _).alloc _) (fun _ _ h=>h)) _ _ [(X,Y)] rfl ?a2 ?a3 ?a4 ?a5 ?a6);case a2=>intro h;cases h
   case a3=>exact RowBlk.row Jh (show RowBlk Kz (w4.alloc (.cells #[.int .u64 (X:Int),.int .u64 (Y:Int)] 369)) w4.heap.size [(X,Y)] 369 from Qh.new _ _ _)
   case a4=>simp[maxLen];omega
   case a5=>simp;omega
   intro v5 w5 o5 d5 n5;rw[←HL.out]at o5;have c5:Qc Qb W w5:=(c4.out.alloc (.cells #[.int .u64 (X:Int),.int .u64 (Y:Int)] 369)).trans d5 fun k I=>.inr (by have q0:=N4.out k I;have q1:=c3.out.size;(try simp at q0);omega);have al:∀k,v5.ownBlock=some k→W.heap.size≤k:=fun k I=>by
    have da:=c3.out.size;rcases n5 with h|h;·rw[h]at I;have:=N4.out k I;omega
    ·rw[h]at I;have q1:=Option.some.inj I;have q2:=(c4.out.alloc (.cells #[.int .u64 (X:Int),.int .u64 (Y:Int)] 369)).size;try simp at q1
     try simp at q2
     omega
   obtain⟨a5,aq,rfl,dd,bo,_⟩:=o5.row Jh;have O5:=O (And.intro o5 (And.intro al c5));clear o5 al d5 n5 c5 bo;go_wp2;refine⟨Qd O5.out.2.2,?_⟩;go_wp2;refine⟨Qd O5.out.2.2,?_⟩;go_wp2_with fail;go_meet;exact⟨a5,aq,rfl,rfl,rfl,O5.out.1,O5.out.2.1,O5.out.2.2⟩
  ·go_wp2_with fail;refine⟨Qd (c3.out.alloc _),?_⟩;have R3:=O (Qh.new w3 #[.int .u64 (X:Int),.int .u64 (Y:Int)] 369);go_wp2_with fail;refine(bi.out _ (c3.out.alloc _)).mono ?_;rintro e w4⟨v4,rfl,o4,d4,n4,_⟩;have c4:=O ((c3.out.alloc (.cells #[.int .u64 (X:Int),.int .u64 (Y:Int)] 369)).trans' d4);have R4:=O (d4.blk R3.out (fun h=>h));have O4:=O o4;have N4:=O n4;clear d4 o4 n4 R3;go_wp2;refine⟨Qd c4.out,?_⟩;simp only[Zn];go_wp2_with (at_builtin;refine Jf startT rfl (.tmp 41) (.tmp 49) rfl _ K rfl O4.out _ _ [(X,Y)] rfl ?b2 ?b3 ?b4 ?b5 ?b6);case b2=>intro h;cases h
   case b3=>exact RowBlk.row Jh (show RowBlk Kz w4 w3.heap.size [(X,Y)] 369 from R4.out)
   case b4=>simp[maxLen];omega
   case b5=>simp;omega
   intro v5 w5 o5 d5 n5;rw[←HL.out]at o5;have c5:Qc Qb W w5:=c4.out.trans d5 fun k I=>.inr (by have q0:=N4.out k I;have q1:=c3.out.size;(try simp at q0);omega);have al:∀k,v5.ownBlock=some k→W.heap.size≤k:=fun k I=>by
    have da:=c3.out.size;rcases n5 with h|h;·rw[h]at I;have:=N4.out k I;simp at this;omega
    ·rw[h]at I;have q1:=Option.some.inj I;have q2:=c4.out.size;try simp at q1
     try simp at q2
     omega
   obtain⟨a5,aq,rfl,dd,bo,_⟩:=o5.row Jh;have O5:=O (And.intro o5 (And.intro al c5));clear o5 al d5 n5 c5 bo;go_wp2;refine⟨Qd O5.out.2.2,?_⟩;go_wp2;refine⟨Qd O5.out.2.2,?_⟩;go_wp2_with fail;go_meet;exact⟨a5,aq,rfl,rfl,rfl,O5.out.1,O5.out.2.1,O5.out.2.2⟩
 case rest=>
  obtain⟨la,dn,rfl,rfl,rfl,oL,nL,cW⟩:=hcut;obtain⟨W2,hW2⟩:=Zx wc;rw[←hW2]at oL cW⊢;have B2:=O (cW.blk B1.out (fun h=>h));have C2:=O (C1.out.trans' (Qc.none cW));have OL:=O oL;have NL:=O nL;have dm:=cW.size;have dp:=B2.out.lt;clear hW2 oL nL cW bi C1 B1 cx;go_wp2;go_loopg [6,52] L.length (fun gk v i wr=>Qy6 c X L W2 gk v i wr);case atStart=>exact⟨0,[],none,0,by omega,rfl,rfl,Own.nil _ _ _ _,by simp,Nat.zero_le _,nofun,fun k I=>by simp[Value.ownBlock]at I,Qc.refl _ _⟩
  case round=>
   obtain⟨j,out,oa,bh,hj,rfl,rfl,hO,ac,cf,R,u,B⟩:=hrel;have br:=hO.len Jh;by_cases Jl:j<L.length
   ·obtain⟨g,hg,l0,l1⟩:=(OL.out.keep B (fun _ _ h=>h)).cells2 j Jl;obtain⟨k,I⟩:=Zx (L[j]);rw[←I]at l0 l1;have ak:=cw.out k (I▸List.getElem_mem Jl);have an:(L.take (j+1)).foldl (Ha c X) []=Ha c X out k:=by rw[List.take_succ_eq_append_getElem Jl,List.foldl_append,←ac,←I];rfl
    have bt:=O an;have ae:((j+1:Nat):Int)=(j:Int)+1:=by omega
    have ee:(L.length:Int)≤9223372036854775807:=by omega
    obtain⟨W3,bu⟩:=Zx (wr.alloc (.cells #[.int .u64 (k.1:Int),.int .u64 (k.2:Int)] 369));have BK:=O (Qh.new wr #[.int .u64 (k.1:Int),.int .u64 (k.2:Int)] 369);have CK:=O ((Qc.refl Qb wr).alloc (.cells #[.int .u64 (k.1:Int),.int .u64 (k.2:Int)] 369));obtain⟨q,hq⟩:=Zx (wr.heap.size);have b8:∀x,(Value.slice oa out.length bh).ownBlock=some x→x≠q:=fun x V=>by have:=hO.lt x V;omega
    rw[←bu]at BK CK;rw[←hq]at BK;have O3:=O (hO.keep CK.out (fun _ _ h=>h));have C3:=O (B.trans' CK.out);have B3:=O (C3.out.blk B2.out (fun h=>h));have bc:=O u;have c9:=O R;have dg:=O b8;have HQ:=O hq;obtain rfl:=hg;clear ac hO R u B I an b8 OL;go_wp2;rw[←bu,←hq];clear bu hq;have bk:L.length-(j+1)<gk:=by omega
    have a9:j+1+(L.length-(j+1))=L.length:=by omega
    go_loopg [6,9] out.length (fun g v n wi=>Qy7 c X k (Hd c X k out.length out) W2 W3 q j g v n wi);case atStart=>exact⟨out,oa,bh,rfl,rfl,rfl,O3.out,rfl,cf,c9.out,fun x V=>⟨bc.out x V,dg.out x V⟩,Qc.refl _ _⟩
    case round=>
     obtain⟨o,a,cap,ho,rfl,rfl,hO,hP,cl,R,u,B⟩:=hrel;obtain⟨wi,ch⟩:=Zx wr;rw[←ch]at hO B⊢;clear ch;have af:=(hO.len Jh).2;by_cases hz:o.length=0
     ·obtain rfl:=List.eq_nil_of_length_eq_zero hz;have bx:Hid (Hd c X k out.length out=[]):=O (by rw[←hP];rfl);have Ki:=O (B.blk BK.out (fun h=>h));have Ci:=O (C3.out.trans' B);have HO:=O hO;have bf:=O u;clear hP hz ho hO R u B af cl;rw[List.length_nil]at HO bf⊢;go_wp2;go_quiet (fail);obtain⟨a8,am⟩:=Zx (wi.drewN nq);have s3:=O (show Qc Qb wi a8 by rw[am];exact(Qc.refl _ _).drewN _);rw[←am];clear am;go_wp2;go_quiet (fail);obtain⟨av,ay⟩:=Zx (a8.drewN nq);have t3:=O (show Qc Qb a8 av by rw[ay];exact(Qc.refl _ _).drewN _);rw[←ay];clear ay;obtain⟨u0,u1⟩:=Qz (t3.out.blk (s3.out.blk Ki.out (fun h=>h)) (fun h=>h));have C6:=O ((Ci.out.trans' s3.out).trans' t3.out);have R6:=O ((HO.out.keep s3.out (fun _ _ h=>h)).keep t3.out (fun _ _ h=>h));go_wp2_with (at_builtin;refine Jf startT rfl (.tmp 114) (.tmp 116) rfl _ ([]:V9) rfl (R6.out.keep ((Qc.refl Qb _).alloc _) (fun _ _ h=>h)) _ _ [k] rfl ?d2 ?d3 ?d4 ?d5 ?d6);case d2=>intro h;cases h
      case d3=>exact RowBlk.row Jh (show RowBlk Kz (av.alloc (.cells #[.int .u64 (k.1:Int),.int .u64 (k.2:Int)] 369)) av.heap.size [k] 369 from Qh.new _ _ _)
      case d4=>simp[maxLen]
      case d5=>simp
      intro v7 w7 o7 d7 n7;have u:=bf.out;have c7:Qc Qb W2 w7:=(C6.out.alloc (.cells #[.int .u64 (k.1:Int),.int .u64 (k.2:Int)] 369)).trans d7 fun x V=>.inr (u x V).1;have ax:∀x,v7.ownBlock=some x→W2.heap.size≤x:=fun x V=>by
       rcases n7 with h|h;·rw[h]at V;exact(u x V).1
       ·rw[h]at V;have q1:=Option.some.inj V;have q2:=C6.out.size;(try simp at q1);omega
      obtain⟨a7,ap,rfl,_,_,_⟩:=o7.row Jh;have O7:=O (And.intro o7 (And.intro ax c7));clear o7 ax c7 d7 n7 u;go_wp2;go_roundg (L.length-(j+1))
      case rel=>
       refine⟨j+1,[k],a7,ap,a9,by rw[ae],rfl,O7.out.1,?_,by simp,fun z hz=>?_,O7.out.2.1,O7.out.2.2⟩;·rw[bt.out];unfold Ha;simp only[bx.out];rfl
       ·obtain rfl:z=k:=by simpa using hz
        exact ak
      case measure=>exact bk
     ·obtain⟨m,Z⟩:∃m,o.length=m+1:=⟨o.length-1,by omega⟩;obtain⟨z,d,ba,ai,aj⟩:=Qfv Z;obtain⟨g2,rfl,l2,l3⟩:=hO.cells2 m ai;rw[aj]at l2 l3;obtain⟨bj,b0⟩:=R z ba;have R0:∀x,Own Kz 2 369 (Qw Qb wi x) (.slice (some ⟨g2,0,none⟩) o.length cap) o:=fun x=>hO.keep (Qu Qb wi x) (fun _ _ h=>h);have E1:∀x,(Qw Qb wi x).cell? ⟨g2,m*2,none⟩=some (.int .u64 (z.1:Int))∧(Qw Qb wi x).cell? ⟨g2,m*2+1,none⟩=some (.int .u64 (z.2:Int)):=fun x=>by obtain⟨g3,bw,p0,p1⟩:=(R0 x).cells2 m ai;cases bw;rw[aj]at p0 p1;exact⟨p0,p1⟩
      have Bi:=O (B.blk B3.out (fun h=>h));have Ki:=O (B.blk BK.out (fun h=>h));have E2:=fun x=>Qc1 (Qk (S:=Qb) Bi.out (fun h=>h) x);have E3:=fun x=>Qz (Qk (S:=Qb) Ki.out (fun h=>h) x);try dsimp only[Qc0]at E2
      have E4:=True.intro;have A1:=O (fun w'(hc:Qc Qb wi w')=>Qi8 aw.out (hc.blk Bi.out (fun h=>h)) z X bj (by omega) b0);have A2:=O (fun w'(hc:Qc Qb wi w')=>Qi8 aw.out (hc.blk Bi.out (fun h=>h)) k X ak.1 (by omega) ak.2);have AC:=O (fun w'=>Qfd (Kw c X z) (Kw c X k) w');have A3:=O (fun w'(hc:Qc Qb wi w')=>Qfp aw.out (hc.blk Bi.out (fun h=>h)) z X bj (by omega) b0);have A4:=O (fun w'(hc:Qc Qb wi w')=>Qfp aw.out (hc.blk Bi.out (fun h=>h)) k X ak.1 (by omega) ak.2);have AD:=O (fun w'=>Qfd (Vo c X z) (Vo c X k) w');have HD:=O (And.intro (Qxt (Kw c X z) (Kw c X k)) (Qxu (Vo c X z) (Vo c X k)));unfold kV ptr at A1 A2 A3 A4;unfold Qiq at A1 A2 A3 A4;have cp:((o.length:Nat):Int)=(m:Int)+1:=by omega
      have cc:(0:Int)<(o.length:Int):=by omega
      rw[Z];rw[Z]at hP hO af;have eb:IntKind.i64.wrap (m:Int)=(m:Int):=IntWalk.i64_in _ (by omega);have d9:(m:Int)<(m:Int)+1:=by omega
      have ea:(0:Int)≤(m:Int):=by omega
      have ck:((m+1:Nat):Int)=(m:Int)+1:=by omega
      have be:Hd c X k (m+1) o=if Kw c X k≤Kw c X z then Hd c X k m o.dropLast else o:=by rw[Hd,d]
      have ah:=O (And.intro be hP);have J:=O (And.intro d (And.intro Z (And.intro R (And.intro u B))));have HO:=O hO;have dx:m+1≤cap:=af;have ei:m+1≤j:=by omega
      generalize Kw c X z=p1 at*;generalize Kw c X k=p2 at*;obtain⟨q1,bp⟩:=Zx (Vo c X z);obtain⟨q2,bq⟩:=Zx (Vo c X k);rw[←bp]at A3 AD HD;rw[←bq]at A4 AD HD;have cy:=O bp;have cq:=O bq;clear bp bq;generalize Qep p1 p2=cm at*;generalize Qep q1 q2=cn at*;generalize((p1/18446744073709551616:Nat):Int)=d1 at*;generalize((p1%18446744073709551616:Nat):Int)=eh at*;generalize((p2/18446744073709551616:Nat):Int)=dv at*;generalize((p2%18446744073709551616:Nat):Int)=ds at*;generalize((q1/18446744073709551616:Nat):Int)=dz at*;generalize((q1%18446744073709551616:Nat):Int)=dr at*;generalize((q2/18446744073709551616:Nat):Int)=ed at*;generalize((q2%18446744073709551616:Nat):Int)=dt at*;clear Z d ba aj be hP R u B hO hz cp cc l2 l3 bj b0 ai;have bs:(0:Int)≤cm↔p2≤p1:=by have:=HD.out.1;simpa using this
      have bz:cn≤(0:Int)↔q1≤q2:=by have:=HD.out.2;simpa using this
      by_cases hh:p2≤p1
      ·have dh:(0:Int)≤cm:=bs.2 hh;have HH:=O hh;clear bs bz hh;have c0:=O R0;clear R0;go_wp2;refine Qr [] [0,1,2,3,4,5,6,7,8,9,10,11,12,14,15,16,17,18,19] [13,20,21,22,23] [] (Qw (Qb) (wi)) (by kernel_rfl) (by kernel_rfl) ?_ (Qd (by(repeat' (first|(with_reducible first|exact Zg _ _|assumption|refine Zh ?_ _|refine Zi ?_ _|refine Zj ?_ |refine Zk ?_ _ ?_ |(apply Or.inl;rfl))|(apply Or.inl;simp;done)|(apply Or.inr;simp;first|done|omega))))) ?_;·exact fun _ _ _ _ _ h=>h
       simp only[pick,Zf,Ze,Zd];refine Qf ?_;iterate 19 (refine Ql (fun K hK=>?_);go_simp;refine hK _ ?_;clear hK K)
       refine Qf ?_;intro _ ab;obtain⟨xo,U⟩:=ab;subst U;simp only[Zn];have s3:=O (Qu Qb wi xo);generalize Qw Qb wi xo=a8 at s3⊢;clear E1 E2 E3 E4;go_wp2_with fail;with_reducible refine((A1).out _ s3.out).mono ?_
       rintro e dj⟨rfl,d4⟩;have s4:=O (s3.out.trans' d4);clear d4;go_wp2;refine⟨Qd s4.out,?_⟩;go_wp2_with fail;with_reducible refine((A2).out _ s4.out).mono ?_
       rintro e db⟨rfl,d5⟩;have s5:=O (s4.out.trans' d5);clear d5;go_wp2;refine⟨Qd s5.out,?_⟩;go_wp2_with fail;with_reducible refine((AC).out _).mono ?_
       rintro e cd⟨rfl,d6⟩;have s6:=O (s5.out.trans' d6);clear d6;go_wp2;refine⟨Qd s6.out,?_⟩;go_wp2;refine⟨Qd s6.out,?_⟩;go_wp2;refine⟨Qd s6.out,?_⟩;go_wp2;obtain⟨d,Z,R,u,B⟩:=J.out;have ao:o.dropLast.length=m:=by rw[List.length_dropLast,Z];rfl
       have c8:o≠[]:=fun h=>by rw[h]at Z;cases Z
       have de:m<gk:=by omega
       go_roundg m
       case rel=>
        refine⟨o.dropLast,some ⟨g2,0,none⟩,cap,ao,by rw[ao],by rw[ao],?_,?_,by omega,fun z hz=>R z (List.dropLast_subset _ hz),fun x V=>u x V,B.trans' s6.out⟩;·rw[ao];exact(HO.out.keep s6.out (fun _ _ h=>h)).dropLast Jh c8
        ·rw[ao,←ah.out.2,ah.out.1,if_pos HH.out]
       case measure=>exact de
      ·have dh:cm<(0:Int):=by omega
       have bx:Hid (Hd c X k out.length out=o):=O (by rw[←ah.out.2,ah.out.1,if_neg hh]);have ci:=O bz;clear bs bz hh;have c0:=O R0;clear R0;go_wp2;refine Qr [] [0,1,2,3,4,5,6,7,8,9,10,11,12,14,15,16,17,18,19] [13,20,21,22,23] [] (Qw (Qb) (wi)) (by kernel_rfl) (by kernel_rfl) ?_ (Qd (by(repeat' (first|(with_reducible first|exact Zg _ _|assumption|refine Zh ?_ _|refine Zi ?_ _|refine Zj ?_ |refine Zk ?_ _ ?_ |(apply Or.inl;rfl))|(apply Or.inl;simp;done)|(apply Or.inr;simp;first|done|omega))))) ?_;·exact fun _ _ _ _ _ h=>h
       simp only[pick,Zf,Ze,Zd];refine Qf ?_;iterate 19 (refine Ql (fun K hK=>?_);go_simp;refine hK _ ?_;clear hK K)
       refine Qf ?_;intro _ ab;obtain⟨xo,U⟩:=ab;subst U;simp only[Zn];have s3:=O (Qu Qb wi xo);generalize Qw Qb wi xo=a8 at s3⊢;clear E1 E2 E3 E4;go_wp2_with fail;with_reducible refine((A1).out _ s3.out).mono ?_
       rintro e dj⟨rfl,d4⟩;have s4:=O (s3.out.trans' d4);clear d4;go_wp2;refine⟨Qd s4.out,?_⟩;go_wp2_with fail;with_reducible refine((A2).out _ s4.out).mono ?_
       rintro e db⟨rfl,d5⟩;have s5:=O (s4.out.trans' d5);clear d5;go_wp2;refine⟨Qd s5.out,?_⟩;go_wp2_with fail;with_reducible refine((AC).out _).mono ?_
       rintro e cd⟨rfl,d6⟩;have s6:=O (s5.out.trans' d6);clear d6;go_wp2;refine⟨Qd s6.out,?_⟩;go_wp2;refine⟨Qd s6.out,?_⟩;go_wp2;refine⟨Qd s6.out,?_⟩;obtain⟨w9,az⟩:=Zx cd;have R9:Own Kz 2 369 w9 (.slice (some ⟨g2,0,none⟩) (m+1) cap) o:=by rw[az];exact HO.out.keep s6.out (fun _ _ h=>h)
       have B9:=O (s6.out.blk Bi.out (fun h=>h));have K9:=O (s6.out.blk Ki.out (fun h=>h));have C9:=O (J.out.2.2.2.2.trans' s6.out);rw[←az]at B9 K9 C9;have P9:∀w',Qc Qb w9 w'→Qc Qb wi w':=fun w' h=>s6.out.trans' (by rw[←az];exact h);obtain⟨d,Z,R,u,B⟩:=J.out;obtain⟨z',aa,ba,ai,aj⟩:=Qfv Z;obtain rfl:z'=z:=by rw[d]at aa;exact(Option.some.inj aa).symm
       have E1:∀x,(Qw Qb w9 x).cell? ⟨g2,m*2,none⟩=some (.int .u64 (z'.1:Int))∧(Qw Qb w9 x).cell? ⟨g2,m*2+1,none⟩=some (.int .u64 (z'.2:Int)):=fun x=>by obtain⟨g3,bw,p0,p1⟩:=(R9.keep (Qu Qb w9 x) (fun _ _ h=>h)).cells2 m ai;cases bw;rw[aj]at p0 p1;exact⟨p0,p1⟩
       have E2:=fun x=>Qc1 (Qk (S:=Qb) B9.out (fun h=>h) x);have E3:=fun x=>Qz (Qk (S:=Qb) K9.out (fun h=>h) x);try dsimp only[Qc0]at E2
       have E4:=True.intro;have A5:=O (fun w' hc=>A3.out w' (P9 w' hc));have A6:=O (fun w' hc=>A4.out w' (P9 w' hc));have ce:=O R9;have ag:Ha c X out k=if q1≤q2 then o else o++[k]:=by unfold Ha;simp only[bx.out,d];rw[←cy.out,←cq.out]
       have cg:=O ag;rw[←az];clear az P9 R9 d Z R u B ba ai aj aa ag;by_cases au:q1≤q2
       ·have dc:cn≤(0:Int):=ci.out.2 au;have bn:=O au;clear au;go_wp2;refine Qr [] [0,1,2,3,4,5,6,7,8,9,10,11,12,14,15,16,17,18,19] [13,20,21,22,23] [] (Qw (Qb) (w9)) (by kernel_rfl) (by kernel_rfl) ?_ (Qd (by(repeat' (first|(with_reducible first|exact Zg _ _|assumption|refine Zh ?_ _|refine Zi ?_ _|refine Zj ?_ |refine Zk ?_ _ ?_ |(apply Or.inl;rfl))|(apply Or.inl;simp;done)|(apply Or.inr;simp;first|done|omega))))) ?_;·exact fun _ _ _ _ _ h=>h
        simp only[pick,Zf,Ze,Zd];refine Qf ?_;iterate 19 (refine Ql (fun K hK=>?_);go_simp;refine hK _ ?_;clear hK K)
        refine Qf ?_;intro _ ab;obtain⟨xo,U⟩:=ab;subst U;simp only[Zn];have t3:=O (Qu Qb w9 xo);generalize Qw Qb w9 xo=av at t3⊢;clear E1 E2 E3 E4;go_wp2_with fail;with_reducible refine((A5).out _ t3.out).mono ?_
        rintro e c1⟨rfl,d4⟩;have t4:=O (t3.out.trans' d4);clear d4;go_wp2;refine⟨Qd t4.out,?_⟩;go_wp2_with fail;with_reducible refine((A6).out _ t4.out).mono ?_
        rintro e cz⟨rfl,d5⟩;have t5:=O (t4.out.trans' d5);clear d5;go_wp2;refine⟨Qd t5.out,?_⟩;go_wp2_with fail;with_reducible refine((AD).out _).mono ?_
        rintro e bd⟨rfl,d6⟩;have t6:=O (t5.out.trans' d6);clear d6;go_wp2;refine⟨Qd t6.out,?_⟩;go_wp2;refine⟨Qd t6.out,?_⟩;go_wp2;refine⟨Qd t6.out,?_⟩;go_wp2;obtain⟨d,Z,R,u,B⟩:=J.out;go_roundg (L.length-(j+1))
        case rel=>
         refine⟨j+1,o,some ⟨g2,0,none⟩,cap,a9,by rw[ae],by rw[Z],?_,?_,by omega,R,fun x V=>(u x V).1,(C3.out.trans' C9.out).trans' t6.out⟩;·rw[Z];exact ce.out.keep t6.out (fun _ _ h=>h)
         ·rw[bt.out,cg.out,if_pos bn.out]
        case measure=>exact bk
       ·have dc:(0:Int)<cn:=by have:=ci.out;omega
        have bn:=O au;clear au;go_wp2;refine Qr [] [0,1,2,3,4,5,6,7,8,9,10,11,12,14,15,16,17,18,19] [13,20,21,22,23] [] (Qw (Qb) (w9)) (by kernel_rfl) (by kernel_rfl) ?_ (Qd (by(repeat' (first|(with_reducible first|exact Zg _ _|assumption|refine Zh ?_ _|refine Zi ?_ _|refine Zj ?_ |refine Zk ?_ _ ?_ |(apply Or.inl;rfl))|(apply Or.inl;simp;done)|(apply Or.inr;simp;first|done|omega))))) ?_;·exact fun _ _ _ _ _ h=>h
        simp only[pick,Zf,Ze,Zd];refine Qf ?_;iterate 19 (refine Ql (fun K hK=>?_);go_simp;refine hK _ ?_;clear hK K)
        refine Qf ?_;intro _ ab;obtain⟨xo,U⟩:=ab;subst U;simp only[Zn];have t3:=O (Qu Qb w9 xo);generalize Qw Qb w9 xo=av at t3⊢;clear E1 E2 E3 E4;go_wp2_with fail;with_reducible refine((A5).out _ t3.out).mono ?_
        rintro e c1⟨rfl,d4⟩;have t4:=O (t3.out.trans' d4);clear d4;go_wp2;refine⟨Qd t4.out,?_⟩;go_wp2_with fail;with_reducible refine((A6).out _ t4.out).mono ?_
        rintro e cz⟨rfl,d5⟩;have t5:=O (t4.out.trans' d5);clear d5;go_wp2;refine⟨Qd t5.out,?_⟩;go_wp2_with fail;with_reducible refine((AD).out _).mono ?_
        rintro e bd⟨rfl,d6⟩;have t6:=O (t5.out.trans' d6);clear d6;go_wp2;refine⟨Qd t6.out,?_⟩;go_wp2;refine⟨Qd t6.out,?_⟩;go_wp2;refine⟨Qd t6.out,?_⟩;obtain⟨u0,u1⟩:=Qz (t6.out.blk K9.out (fun h=>h));have c6:=(C3.out.trans' C9.out).trans' t6.out;have C6:=O c6;have RK:=O (Qh.new bd #[.int .u64 (k.1:Int),.int .u64 (k.2:Int)] 369);have ef:o.length<549755813889:=by have:=J.out.2.1;omega
        have bb:=J.out.2.1;have R6:=O (ce.out.keep t6.out (fun _ _ h=>h));rw[←bb]at R6;have du:=O bb;have e0:(Value.slice (some ⟨g2,0,none⟩) (m+1) cap)=.slice (some ⟨g2,0,none⟩) o.length cap:=by rw[bb]
        have co:=O e0;clear e0 bb c6;go_wp2_with (at_builtin;refine Jf startT rfl (.tmp 114) (.tmp 116) rfl _ o co.out (R6.out.keep ((Qc.refl Qb _).alloc _) (fun _ _ h=>h)) _ _ [k] rfl ?c2 ?c3 ?c4 ?c5 ?c6);case c2=>intro h;cases h
        case c3=>exact RowBlk.row Jh (show RowBlk Kz (bd.alloc (.cells #[.int .u64 (k.1:Int),.int .u64 (k.2:Int)] 369)) bd.heap.size [k] 369 from Qh.new _ _ _)
        case c4=>simp[maxLen];omega
        case c5=>simp;omega
        intro v7 w7 o7 d7 n7;have u:=J.out.2.2.2.1;have c7:Qc Qb W2 w7:=(C6.out.alloc (.cells #[.int .u64 (k.1:Int),.int .u64 (k.2:Int)] 369)).trans d7 fun x V=>.inr (u x V).1;have ax:∀x,v7.ownBlock=some x→W2.heap.size≤x:=fun x V=>by
         rcases n7 with h|h;·rw[h]at V;exact(u x V).1
         ·rw[h]at V;have q1:=Option.some.inj V;have q2:=C6.out.size;(try simp at q1);omega
        obtain⟨a7,ap,rfl,_,_,_⟩:=o7.row Jh;have O7:=O (And.intro o7 (And.intro ax c7));clear o7 ax c7 d7 n7 u;go_wp2;obtain⟨d,Z,R,u,B⟩:=J.out;go_roundg (L.length-(j+1))
        case rel=>
         refine⟨j+1,o++[k],a7,ap,a9,by rw[ae],rfl,O7.out.1,?_,?_,fun z hz=>?_,O7.out.2.1,O7.out.2.2⟩;·rw[bt.out,cg.out,if_neg bn.out]
         ·rw[List.length_append,Z];simp;omega
         ·rcases List.mem_append.1 hz with hz|hz;·exact R z hz
          ·obtain rfl:z=k:=by simpa using hz
           exact ak
        case measure=>exact bk
   ·have dl:j=L.length:=by omega
    subst dl;rw[List.take_length]at ac;have b9:=O ac;have HO:=O hO;have bc:=O u;have B9:=O (B.blk B2.out (fun h=>h));have C9:=O (C2.out.trans' (Qc.none B));obtain⟨a0,a1,a2,a3,a4,a5,a6⟩:=Qc1 B9.out;have z0:=B9.out.frozen;have eg:=C2.out.size;clear ac hO R u B hj cf br;go_wp2;rw[Exit.noGoto_normal];refine bodyPost_end (results_none rfl _ _ _) rfl ⟨rfl,HF.out _ _ (B9.out.set' 6 _ rfl) ?_ (fun x V=>by have:=bc.out x V;omega) (C9.out.setCell _ (.inl rfl))⟩;rw[←(show out=Qfg c X L from b9.out)];exact HO.out.keep ((Qc.refl (fun k=>k=b) wr).setCell (a:=⟨b,6,none⟩) _ (.inl rfl)) (fun x V e=>by have:=bc.out x V;omega)
end
end Go.Proofs.YtnnhmpehkbihnaaGreat
