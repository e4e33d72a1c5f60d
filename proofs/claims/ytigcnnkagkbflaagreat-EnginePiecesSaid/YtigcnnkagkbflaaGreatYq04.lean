/- A part of the proof: no condition. -/
import Derived.Test.YtigcnnkagkbflaaGreatYq03
import Derived.WalkSpells
import Derived.WalkLawsBesides
import Derived.Outline
import Derived.Test.YtigcnnkagkbflaaGreatYq02
import Derived.Deep.DrawnRows
import Derived.Deep.DeepCutAuto
namespace Go.Proofs.YtigcnnkagkbflaaGreat
set_option linter.unusedVariables false
set_option maxRecDepth 100000
set_option maxHeartbeats 4000000
open Go.RowKit
open Go.Proofs.Tryz
section
variable{P:Program}{ops:Array Oper}{Q:Exit->Act->World->Prop}{C:World->Prop}
def pick(ops:Array Oper):List Nat->List Oper
 |[]=>[]
 |i::is=>match ops[i]? with
  |some o=>o::pick ops is
  |none=>pick ops is
theorem Df{i:Nat}{c:List Nat}{o:Oper}(h:ops[i]? =some o):pick ops (i::c)=o::pick ops c:=by simp[pick,h]
def Iv(ops:Array Oper):List Nat->Array Bool->Bool
 |[],listed=>(Region.ready .any ops listed).isEmpty
 |k::ks,listed=>decide (Region.ready .any ops listed=[k])&&Iv ops ks (listed.setIfInBounds k true)
theorem Cz{k:Nat}{d:List Nat}{c:Array Bool}(h:Iv ops (k::d) c=true):Region.ready .any ops c=[k]/\(∃o,ops[k]? =some o)/\Iv ops d (c.setIfInBounds k true)=true:=by simp only[Iv,Zw,decide_eq_true_eq]at h;obtain⟨_,o,q,_⟩:=mem_ready.1 (show k∈Region.ready .any ops c by rw[h.1];simp);exact⟨h.1,⟨o,q⟩,h.2⟩
theorem Qd2{d:Nat->Bool}:∀(q:List Nat)(c:Array Bool)(a:Act)(w),(∀j∈q,d j=true)->Iv ops q c=true->
  wpList P ops Q (pick ops q) a w->Ld P ops Q C d q.length c a w
 |[],c,a,w,_,hB,h=>⟨by simpa[Iv]using hB,h⟩
 |k::q,c,a,w,hl,hB,h=>by
  obtain⟨E,⟨o,B⟩,u⟩:=Cz hB;refine⟨λI=>(by rw[E]at I;cases I),λi J=>?_⟩;rw[E]at J;have z:i=k:=by simpa using J
  subst z;rw[Df B]at h;have U:wpOp P ops Q i (wpList P ops Q (pick ops q)) a w:=by unfold wpOp;simp only[B];exact h
  exact wpOp_mono (λK w' h'=>⟨λh=>(by rw[hl i (by simp)]at h;cases h),Qd2 q _ K w' (λj R=>hl j (by simp[R])) u h'⟩) U
theorem Mg{q:Nat->Bool}{z:List Nat}(d:∀j∈z,q j=true):
  ∀(u:List Nat)(c:Array Bool)(a:Act)(w),Iv ops (u++z) c=true->
  Jd P ops Q C (pick ops z) (pick ops u) a w->Ld P ops Q C q (u.length+z.length) c a w
 |[],c,a,w,hB,h=>by rw[List.length_nil,Nat.zero_add];exact Qd2 z c a w d hB h
 |k::u,c,a,w,hB,h=>by
  obtain⟨J,⟨o,I⟩,B⟩:=Cz hB;have e:(k::u).length+z.length=(u.length+z.length)+1:=by simp;omega
  rw[e];rw[Df I]at h;refine⟨λK=>(by rw[J]at K;cases K),λi R=>?_⟩;rw[J]at R;have E:i=k:=by simpa using R
  subst E;refine wpOp_mono (λU w' h'=>⟨λ_=>h'.1,?_⟩) (Ko I h);exact Mg d u _ U w' B h'.2
def Qak(ops:Array Oper)(rest:List Nat):List Nat->Array Bool->Bool
 |[],listed=>Iv ops rest listed
 |k::ks,listed=>(Region.ready .any ops listed).contains k&&Region.free .any ops listed k&&((ops[k]?).map (·.dst.isSome)).getD false&&Qak ops rest ks (listed.setIfInBounds k true)
def Nb(ops:Array Oper)(c rest:List Nat):List Nat->Array Bool->Bool
 |[],listed=>Qak ops rest c listed
 |k::ks,listed=>(Region.ready .any ops listed).contains k&&Region.free .any ops listed k&&((ops[k]?).map W9).getD false&&Nb ops c rest ks (listed.setIfInBounds k true)
def Qvm(ops:Array Oper)(cs c k d:List Nat):Bool:=
 Region.noSelect ops&&decide (cs.length+(c.length+(k.length+d.length))=ops.size)&&(d.all λt=>c.all λh=>Xs ops ops.size t h)&&Nb ops c (k++d) cs (Array.replicate ops.size false)
theorem Qd3{ls I B:List Nat}(z:Region.noSelect ops=true)(hn:∀t∈B,∀h∈ls,Xs ops ops.size t h=true)
  (hQ:∀c(a:Act)(d:Tmp)v w,Q (.panic c) (a.put (some d) v) w->Q (.panic c) a w):
  ∀(u:List Nat)(q:Array Bool)(a:Act)(w),(∀k∈u,k∈ls)->Xj ops q->C w->
   Qak ops (I++B) u q=true->Yt P ops C (λJ=>∀w',C w'->Jd P ops Q C (pick ops B) (pick ops I) J w') (pick ops u) a->
   Ld P ops Q C (λj=>decide (j∈B)) (u.length+(I.length+B.length)) q a w
 |[],q,a,w,_,hcl,hC,hB,h=>by simp only[List.length_nil,Nat.zero_add];exact Mg (λj U=>by simpa using U) I q a w (by simpa[Qak]using hB) (h w hC)
 |k::u,q,a,w,hsub,hcl,hC,hB,h=>by
  simp only[Qak,Zw]at hB;obtain⟨⟨⟨hr,hf⟩,K⟩,Z⟩:=hB;have E:k∈Region.ready .any ops q:=by simpa using hr
  obtain⟨_,o,R,_⟩:=mem_ready.1 E;rw[R]at K;simp only[Zn,Option.getD_some]at K;obtain⟨d,K⟩:=Option.isSome_iff_exists.1 K;rw[Df R]at h;have hy:∃v,YieldsIf P ops C o v a/\Yt P ops C (λJ=>∀w',C w'->Jd P ops Q C (pick ops B) (pick ops I) J w') (pick ops u) (a.put o.dst v):=by
   simp only[Yt]at h;by_cases V:Region.wanted o (yielded ops a.tmps)=true;·simp only[V,if_true]at h;obtain⟨v,h1,h2⟩:=h;exact⟨v,.inl ⟨V,h1⟩,h2⟩
   .simp only[V]at h;exact⟨undef,.inr ⟨by simpa using V,rfl⟩,h⟩
  obtain⟨v,hy,hK⟩:=hy;have e:(k::u).length+(I.length+B.length)=(u.length+(I.length+B.length))+1:=by simp;omega
  rw[e];refine Pi (F:=ops.size) R (Region.noSelect_spec z) (λc J w' hq=>by rw[K]at hq;exact hQ c J d _ w' hq) (λj oj U hT=>hn j (by simpa using hT) k (hsub k (by simp))) _ q a w hcl (Region.free_spec R hf) E hy hC
   (Qd3 z hn hQ u _ _ w (λj U=>hsub j (by simp[U])) (hcl.set E) hC Z hK)
theorem Qa3{I V J:List Nat}(z:Region.noSelect ops=true)(hn:∀t∈J,∀h∈I,Xs ops ops.size t h=true)
  (hQ:∀c(a:Act)(d:Tmp)v w,Q (.panic c) (a.put (some d) v) w->Q (.panic c) a w):
  ∀(E:List Nat)(q:Array Bool)(a:Act)(w),Xj ops q->C w->
   Nb ops I (V++J) E q=true->Yt P ops C (λB=>Yt P ops C (λB=>∀w',C w'->Jd P ops Q C (pick ops J) (pick ops V) B w') (pick ops I) B) (pick ops E) a->
   wpAny P .any ops Q (E.length+(I.length+(V.length+J.length))) q a w
 |[],q,a,w,hcl,hC,hB,h=>by simp only[List.length_nil,Nat.zero_add];refine Pj (C:=C) (late:=λj=>decide (j∈J)) _ _ _ _ ?_;exact Qd3 z hn hQ I q a w (λ_ h=>h) hcl hC (by simpa[Nb]using hB) h
 |k::E,q,a,w,hcl,hC,hB,h=>by
  simp only[Nb,Zw]at hB;obtain⟨⟨⟨hr,hf⟩,R⟩,ae⟩:=hB;have U:k∈Region.ready .any ops q:=by simpa using hr
  obtain⟨_,o,h0,_⟩:=mem_ready.1 U;rw[h0]at R;rw[Df h0]at h;simp only[Zn,Option.getD_some]at R;obtain⟨ah,op,K,ab,u,ac⟩:=o;obtain⟨d,x,e1,e2,e3⟩:=Fz R;dsimp only at e1 e2 e3;subst e1 e2 e3;have aa:Yields P ops ⟨some d,.move x,K,ab,u,none⟩ (a.eval x) a:=.inl ⟨rfl,λw'=>rfl⟩;have Z:(k::E).length+(I.length+(V.length+J.length))=(E.length+(I.length+(V.length+J.length)))+1:=by simp;omega
  rw[Z];refine wpAny_first (md:=.any) h0 (Region.noSelect_spec z) (λc B w' hq=>hQ c B d _ w' hq) _ q a w (Region.free_spec h0 hf) U aa ?_;refine Qa3 z hn hQ E _ _ w (hcl.set U) hC ae ?_;have h':Qp P ⟨some d,.move x,K,ab,u,none⟩ a C (Yt P ops C (λB=>Yt P ops C (λB=>∀w',C w'->Jd P ops Q C (pick ops J) (pick ops V) B w') (pick ops I) B) (pick ops E)):=h;obtain⟨v,hv,hK⟩:=h';have af:=hv w hC;have ag:a.eval x=v:=by injection af with h1 _;injection h1
  rw[ag];exact hK
theorem Qu{id:Nat}{a:Act}{w}{l:List Oper}(cs I U J:List Nat)(G:World->World)(hm:P.follows .mixedOrders=true)(K:Qvm l.toArray cs I U J=true)
  (Z:∀c(a:Act)(d:Tmp)v w,Q (.panic c) (a.put (some d) v) w->Q (.panic c) a w)(V:∃x,w.drew=G x)
  (h:Yt P l.toArray (λw'=>∃x,w'=G x) (λu=>Yt P l.toArray (λw'=>∃x,w'=G x) (λu=>∀w',(∃x,w'=G x)->Jd P l.toArray Q (λw'=>∃x,w'=G x) (pick l.toArray J) (pick l.toArray U) u w') (pick l.toArray I) u) (pick l.toArray cs) a):
  (Code.region id l.toArray true).wp P Q a w:=by
 simp only[Qvm,Zw,decide_eq_true_eq]at K;obtain⟨⟨⟨q,k⟩,E⟩,B⟩:=K;refine wp_region_any hm ?_;have z:Xj l.toArray (Array.replicate l.toArray.size false):=λj oj _ R=>by rw[getD_replicate_false]at R;cases R
 have hn:∀t∈J,∀h∈I,Xs l.toArray l.toArray.size t h=true:=λt ht h hh=>List.all_eq_true.1 (List.all_eq_true.1 E t ht) h hh;have:=Qa3 (P:=P) (ops:=l.toArray) (C:=λw'=>∃x,w'=G x) (Q:=Q) q hn Z cs _ a _ z V B h;rw[k]at this;exact this
end
section
variable{T:Type}{P:Program}{cells:T->List Value}{sz:Nat}{t e:TypeId}{bytes:Nat}{z0:T}{w:World}
theorem Qz0(u:Qce P cells sz t e bytes z0)(ty:TypeId)(v:Value)(l:List T)(q:Own cells sz e w v l)
  (Z:Option Addr)(c:Nat)(B:List T)(aa:Z=none->c=0)(E:Kb cells sz w Z B)
  (J:l.length+B.length<=maxLen)(d:(l.length+B.length)*bytes<=140737488355328):
  ∃I w',(Builtin.append_ #[t,t] ty #[v,.slice Z B.length c]).run P w=.ok I w'/\Own cells sz e w' I (l++B)/\Qc (λk=>v.ownBlock=some k) w w'/\(I.ownBlock=v.ownBlock\/I.ownBlock=some w.heap.size):=by
 obtain⟨i,z,hi,hz,U,K,ab⟩:=u.hi;have V:z.cells.size=sz:=by rw[ab];simp[u.hc]
 by_cases R:B=[]
 .subst R;cases Z with
  |none=> obtain rfl:=aa rfl;exact⟨v,w,run_append_owned_none (P:=P) (w:=w) 0 t ty e i sz u.ht hi v l.length (Jm cells l) q,by simpa using q,Zg _ _,.inl rfl⟩
  |some ad=> obtain⟨I,w',hr,h1,h2,_,h3⟩:=run_append_own_at (P:=P) w 0 t ty e i z sz bytes u.ht hi hz U K V u.pos v l.length (Jm cells l) q ad 0 c [] (by simp) (by simp) (by simp) (by simpa using J) (by simpa using d) (Nat.zero_le _);exact⟨I,w',hr,by simpa[Own]using h1,(Zg _ _).grown h2 λk hk=>.inl hk,h3⟩
 .obtain⟨g,ac,rfl,_⟩:=E 0 (List.length_pos_iff.2 R);obtain⟨I,w',hr,h1,h2,_,h3⟩:=run_append_own_at (P:=P) w 0 t ty e i z sz bytes u.ht hi hz U K V u.pos v l.length (Jm cells l) q ⟨g,ac,none⟩ B.length c (Jm cells B)
   (Yh u.hc B) (Qix u.hc E u.pos) (Qc5 u B) J d (Nat.zero_le _)
  refine⟨I,w',hr,?_,(Zg _ _).grown h2 λk hk=>.inl hk,h3⟩;unfold Own;rw[Ge,List.length_append];exact h1
end
noncomputable def Qz(S:Nat->Prop)(w x:World):World:=by
 classical
 exact{heap:=((Array.range (max w.heap.size x.heap.size)).map λk=>if k<w.heap.size/\¬S k then w.heap.getD k (.cells #[] 0)else x.heap.getD k (w.heap.getD k (.cells #[] 0))),tape:=w.tape,drawn:=x.drawn,os:=w.os,output:=w.output}
theorem Qd{S:Nat->Prop}{w w'}(h:Qc S w w'):∃x,w'=Qz S w x:=by
 classical
 refine⟨w',?_⟩;have d:=h.size;cases w' with
 |mk c E z I u=>
  simp only at d;have e:c=((Array.range (max w.heap.size c.size)).map λk=>if k<w.heap.size/\¬S k then w.heap.getD k (.cells #[] 0)else c.getD k (w.heap.getD k (.cells #[] 0))):=by
   rw[Nat.max_eq_right d];apply Array.ext_getElem?;intro k;by_cases B:k<c.size
   .simp only[Array.getElem?_map,Array.getElem?_range,B,if_true,Zn];split;·rename_i q;have:=h.block k q.1 q.2;simp only at this;rw[this,Array.getElem?_eq_getElem q.1];simp[Array.getD,q.1]
    .rw[Array.getElem?_eq_getElem B];simp
   .rw[Array.getElem?_eq_none (by omega),Array.getElem?_eq_none (by simp;omega)]
  unfold Qz;simp only[World.mk.injEq];exact⟨e,h.tape,trivial,h.os,h.output⟩
theorem Qv(S:Nat->Prop)(w x):Qc S w (Qz S w x):=by
 classical
 refine⟨rfl,rfl,rfl,by unfold Qz;simp;omega,λk c d=>?_⟩;unfold Qz;simp only[Array.getElem?_map,Array.getElem?_range];rw[if_pos (by omega)];simp only[Zn,c,d,not_false_eq_true,and_self,if_true];rw[Array.getElem?_eq_getElem c];simp[Array.getD,c]
theorem ZE{Q:Exit->Act->World->Prop}{id:Nat}{a:Act}{w:World}{l:List Oper}(cs ls ms ts:List Nat)(S:Nat->Prop)(v:World)(h:Yt prog l.toArray (λw'=>∃x,w'=Qz S v x) (λa'=>Yt prog l.toArray (λw'=>∃x,w'=Qz S v x) (λa'=>∀w',(∃x,w'=Qz S v x)->Jd prog l.toArray Q (λw'=>∃x,w'=Qz S v x) (pick l.toArray ts) (pick l.toArray ms) a' w') (pick l.toArray ls) a') (pick l.toArray cs) a)(hB:Qvm l.toArray cs ls ms ts=true:=by kernel_rfl)(hQ:∀c (a:Act)(d:Tmp) v w,Q (.panic c) (a.put (some d) v) w->Q (.panic c) a w:=by exact λ_ _ _ _ _ h=>h)(hC:Qc S v w.drew:=by exact Z0):(Code.region id l.toArray true).wp prog Q a w:=Qu cs ls ms ts (Qz S v) Zq hB hQ (Qd hC) h
section
attribute [local go_sem] Qp
theorem Qk{S:Nat->Prop}{w}{b:Nat}{cs:Array Value}{t:TypeId}(h:Qh w b cs t)(c:¬S b)(x):Qh (Qz S w x) b cs t:=(Qv S w x).blk h c
theorem Qgl(s h n:Nat)(Z:s<18446744073709551616)(hh:h<=Xw)(V:n<18446744073709551616)(w):ZW 338 #[.agg #[ZU s,ZU h],ZU n] w (ZU (Hb h s n:Nat)) λw'=>Qc Qb w w':=by
 have hc:=Yz;have u:=O (λw=>Rs s n Z V w);have d:=O (λw=>Mm h (min Xw (s*n)) (by omega) (by omega) w);rw[show Qa6 h (min Xw (s*n))=Hb h s n from Nat.min_comm _ _]at d;generalize Hb h s n=r at d|-;generalize min Xw (s*n)=m at u d;clear hc Z hh V;have B:=O (Qh.new w #[ZU s,ZU h] 338);have C:=O ((Zg Qb w).alloc (.cells #[ZU s,ZU h] 338));have E:=λx=>Q4 (Qk (S:=Qb) B.o (λh=>h) x);apply WH func338;go_wp2;refine Qu [] [0,1,2,3,4] [5,6,7] [] (Qz (Qb) (w.alloc (.cells #[ZU s,ZU h] 338))) Zq (by kernel_rfl) (λ_ _ _ _ _ h=>h) (Qd Z0) ?_;simp only[pick,Zf,Ze,Zd];refine Qg ?_;iterate 5 (refine Ql (λK U=>?_);go_simp;refine U _ ?_;clear U K)
 refine Qg ?_;intro _ q;obtain⟨xo,c⟩:=q;subst c;simp only[Jd];have z:=O (Qv Qb (w.alloc (.cells #[ZU s,ZU h] 338)) xo);generalize Qz Qb (w.alloc (.cells #[ZU s,ZU h] 338)) xo=w3 at z|-;clear E;go_wp2_with fail;apply Z9 (u.o _) (λ_ J=>z.o.aA J);intro w4 I;go_wp2;refine⟨Qd I.o,?_⟩;go_wp2_with fail;apply Z9 (d.o _) (λ_ R=>I.o.aA R);intro w5 k;go_wp2;refine⟨Qd k.o,?_⟩;go_wp2;refine⟨Qd k.o,?_⟩;go_wp2;go_ret;exact⟨rfl,C.o.aA k.o⟩
theorem As(s h y:Nat)(hs:s<18446744073709551616)(V:h<=Xw)(hy:y<18446744073709551616)(w):ZW 335 #[.agg #[ZU s,ZU h],ZU y] w (ZU (Y5 h s y:Nat)) λw'=>Qc Qb w w':=by
 have K:=Yz;have I:=Yf;unfold Y5;have B:=O (Qh.new w #[ZU s,ZU h] 338);have C:=O ((Zg Qb w).alloc (.cells #[ZU s,ZU h] 338));by_cases E:y<=h;·rw[if_pos E];have R:=Q4 B.o;clear K I;apply WH func335;exact WD C
 .rw[if_neg E];have c:IntKind.u64.wrap ((y:Int)-(h:Int))=((y-h:Nat):Int):=by rw[IntWalk.u64_in _ (by omega)];omega
  have hd:decide (y<=h)=false:=by simpa using E
  by_cases q:s=0;·subst q;rw[if_pos (.inl rfl),I];have k:=O (λw=>Qpx (y-h) (by omega) w);generalize y-h=d at c k;clear K I E hs V;have R:=Q4 B.o;apply WH func335;go_wp2_with fail;apply Zz (k.o _);intro w1 J;go_wp2;go_ret;exact⟨rfl,C.o.aA J⟩
  .have k:=O (λw=>Qir (y-h) s (by omega) hs (by omega) w);by_cases z:Xw<y
   .rw[if_pos (.inr z),I];have Z:(4611686018427387904:Int)<(y:Int):=by omega
    generalize upN (y-h) s=u at k;generalize y-h=d at c k;clear K I E V z q;have R:=Q4 B.o;apply WH func335;go_wp2_with fail;apply Zz (k.o _);intro w1 J;go_wp2;go_ret;exact⟨rfl,C.o.aA J⟩
   .rw[if_neg (by omega)];rw[Qmr (by omega) (by omega)]at k;have Z:¬(4611686018427387904:Int)<(y:Int):=by omega
    generalize Tw (y-h) s=u at k|-;generalize y-h=d at c k;clear K I E V z q;have R:=Q4 B.o;apply WH func335;go_wp2_with fail;apply Zz (k.o _);intro w1 J;go_wp2;go_ret;exact⟨rfl,C.o.aA J⟩
def Xh.h1(r:Xh):Nat:=if r.l=[]then 0 else Vk r.c.f 0 r.l
def Xh.h2(r:Xh):Nat:=if r.l=[]then 0 else Vk r.c.r ((r.c.f-r.c.r)*r.c.l) r.l
def Pk(r:Xh)(x:Nat)(c d:Nat)(n:Int):Array Value:=#[ZU r.c.f,ZU r.c.l,ZU r.c.r,ZI n,ZU x,ZU r.c.f,ZU c,ZU r.c.r,ZU d]
structure Ve(w:World)(F:Fp)(b:Nat)(r:Xh):Prop where
 bd:Bd F w
 own:F b
 may:r.c.May
 bent:r.c.r<r.c.f
 ok:Uj r.l
 rise:Ew r.l
 blk:Qh w b (Pk r (Ji r.l) r.h1 r.h2 r.l.length) 340
theorem bentP:Hf Ve where
 bd h:=h.bd
 own h:=h.own
 aB h hc hd:=⟨h.bd.later hc,h.own,h.may,h.bent,h.ok,h.rise,hc.blk h.blk (hd _ h.own)⟩
 more h hs hb:=⟨hb,hs _ h.own,h.may,h.bent,h.ok,h.rise,h.blk⟩
theorem Qdl(s o:Nat)(l:Uw):Vk s o l<=Xw:=Nat.min_le_left _ _
theorem Xh.h1_cap(r:Xh):r.h1<=Xw:=by unfold Xh.h1;split;exact Nat.zero_le _;exact Qdl _ _ _
theorem Xh.h2_cap(r:Xh):r.h2<=Xw:=by unfold Xh.h2;split;exact Nat.zero_le _;exact Qdl _ _ _
theorem Qcv{w}{F:Fp}{b:Nat}{r:Xh}(h:Ve w F b r):ZW 334 #[ptr b] w (.bool (r.l.length==0)) λw'=>w=w':=by
 unfold ptr;have c:=Av h.blk;have e:((r.l.length:Int)==0)=(r.l.length==0):=by
  cases r.l with
  |nil=>rfl
  |cons k l=>simp;omega
 rw[<-e];clear h e;generalize(r.l.length:Int)=n at*;apply WH func334;exact WE
theorem Qn5(c:Jy)(E:c.May)(z:c.r<c.f)(w):Cl 252 #[cV c] w λe w'=>∃b,e=.returned (.tuple #[ptr b,ZI 0])/\Ve w' (Qn Qb w w') b ⟨c,[]⟩/\Qc Qb w w':=by
 have K:=O (K8 c);have J:=O (L7 c);rw[decide_eq_true E]at K;rw[decide_eq_true z]at J;have d:∀(W w'),Qc Qb w W->w'=W.alloc (.cells (Pk ⟨c,[]⟩ 0 0 0 0) 340)->Ve w' (Qn Qb w w') W.heap.size ⟨c,[]⟩/\Qc Qb w w':=by rintro W w' Z rfl;have h1:=Z.size;exact⟨⟨λk hk=>hk.elim (λh=>h.elim) (λh=>h.2),.inr ⟨h1,by simp⟩,E,z,Uj.nil,.nil,Qh.new _ _ _⟩,Z.alloc _⟩
 have HF:=O d;obtain⟨f,l,r⟩:=c;unfold cV at*;dsimp only[Pk]at*;have B:=O (Qh.new w #[ZU f,ZU l,ZU r] 27);have C:=O ((Zg Qb w).alloc (.cells #[ZU f,ZU l,ZU r] 27));clear E z d;apply WH func252;go_wp2_with fail;apply Zz (K.o _);intro w1 q;have C1:=O (C.o.aA q);have I:=O (q.blk B.o (λh=>h));clear q;have R:=L6 I.o;go_wp2_with fail;apply Zz (J.o _);intro w2 u;have C2:=O (C1.o.aA u);have B2:=O (u.blk I.o (λh=>h));clear u R;have R:=L6 B2.o;go_wp2;go_ret2;exact⟨_,rfl,HF.o _ _ C2.o rfl⟩
theorem Qn4{w}{F:Fp}{b:Nat}{r:Xh}(h:Ve w F b r):Cl 350 #[ptr b] w λe w'=>∃b',e=.returned (ptr b')/\Ve w' (Qn Qb w w') b' r/\Qc Qb w w':=by
 have c:∀(w'),w'=w.alloc (.cells (Pk r (Ji r.l) r.h1 r.h2 r.l.length) 340)->Ve w' (Qn Qb w w') w.heap.size r/\Qc Qb w w':=by rintro w' rfl;exact⟨⟨λk q=>q.elim (λh=>h.elim) (λh=>h.2),.inr ⟨Zv _,by simp⟩,h.may,h.bent,h.ok,h.rise,Qh.new _ _ _⟩,(Zg _ _).alloc _⟩
 have d:=O c;have u:=Av h.blk;unfold ptr;dsimp only[Pk]at*;clear c;apply WH func350;go_wp2;go_ret;exact⟨_,rfl,d.o _ rfl⟩
theorem Qgm{w}{F:Fp}{b:Nat}{r:Xh}(h:Ve w F b r)(k:r.l=[])(y:Nat):ZW 331 #[ptr b,ZU y] w (ZU (r.reach y:Nat)) λw'=>Qc Qb w w':=by
 have c:=O (Qcv h);rw[k]at c;have e:r.reach y=if y=0 then 0 else 9223372036854775808:=by unfold Xh.reach Kn;rw[if_pos k]
 dsimp only[List.length_nil]at c;rw[e];by_cases d:y=0;·subst d;apply WH func331;go_wp2_with fail;apply Zy c;rintro w1 rfl;go_wp2;go_ret;exact⟨rfl,Zg _ _⟩
 .rw[if_neg d];have q:((y:Int)==0)=false:=by simp;omega
  clear d e;apply WH func331;go_wp2_with fail;apply Zy c;rintro w1 rfl;go_wp2;go_ret;exact⟨rfl,Zg _ _⟩
theorem Qgn{w}{F:Fp}{b:Nat}{r:Xh}(h:Ve w F b r)(U:r.l≠[])(y:Nat)(hy:y<18446744073709551616):ZW 331 #[ptr b,ZU y] w (ZU (r.reach y:Nat)) λw'=>Qc Qb w w':=by
 have HN:=O (Qcv h);have k:(r.l.length==0)=false:=by simpa using U
 rw[k]at HN;have hm:=h.may;have hx:Ji r.l<=Qq:=h.ok.last;have e:r.reach y=O6 (Ji r.l) (max (Y5 r.h1 r.c.f y) (Y5 r.h2 r.c.r y)):=by unfold Xh.h1 Xh.h2;rw[if_neg U,if_neg U];exact(Qj0 h.bent h.ok U).symm
 have H1:=O (λw=>As r.c.f r.h1 y (by have:=hm.hf;omega) r.h1_cap hy w);have H2:=O (λw=>As r.c.r r.h2 y (by have:=hm.hr;omega) r.h2_cap hy w);have E:=λx=>Av (Qk (S:=Qb) h.blk (λh=>h) x);have B:=O h.blk;have u:∀h s,Y5 h s y<=9223372036854775808:=λh s=>by
  unfold Y5;have e1:=Yz;have e2:=Yf;split;·omega
  .split;·omega
   .rename_i h1;have:=(D9 (a:=y-h) (b:=s) (n:=y) (by omega)).2 (by have:=Nat.le_mul_of_pos_left y (show 0<s by omega);omega);omega
 have k1:=u r.h1 r.c.f;have k2:=u r.h2 r.c.r;rw[e];clear e u hm h;unfold O6;generalize Y5 r.h1 r.c.f y=n1 at*;generalize Y5 r.h2 r.c.r y=n2 at*;rw[Yf]at*;have k3:max n1 n2<=9223372036854775808:=by omega
 clear k1 k2;dsimp only[Pk]at*;generalize Ji r.l=x at*;have ab:IntKind.u64.wrap ((9223372036854775808:Int)-(x:Int))=((9223372036854775808-x:Nat):Int):=by rw[IntWalk.u64_in _ (by omega)];omega
 have V:∀n,n<9223372036854775808-x->IntKind.u64.wrap ((x:Int)+(n:Int))=((x+n:Nat):Int):=λn h=>by rw[IntWalk.u64_in _ (by omega)];omega
 clear k U;have q:∀(W),Qc Qb w W->Qh W b (Pk r x r.h1 r.h2 r.l.length) 340:=λW c=>c.blk B.o (λh=>h);have TL:=O q;dsimp only[Pk]at TL;clear q;obtain⟨n,hn⟩:=Zx (max n1 n2);rw[<-hn]at k3|-;have I:=V n;obtain⟨d,Eu⟩:=Zx (9223372036854775808-x);rw[<-Eu]at ab I|-;clear V Eu;obtain⟨z,J⟩:=Zx (if d<=n then 9223372036854775808 else x+n);rw[<-J];have hq:(n1<n2/\n=n2)\/(¬n1<n2/\n=n1):=by omega
 have hr:(decide (d<=n)=true/\z=9223372036854775808)\/(decide (d<=n)=false/\IntKind.u64.wrap ((x:Int)+(n:Int))=(z:Int)):=by
  by_cases hc:d<=n;·exact .inl ⟨by simpa using hc,by rw[J,if_pos hc]⟩
  .exact .inr ⟨by simpa using hc,by rw[J,if_neg hc];exact I (by omega)⟩
 clear I hx k3 hn J;rcases hq with⟨aa,rfl⟩|⟨aa,rfl⟩<;>rcases hr with⟨hd,J⟩|⟨hd,J⟩;all_goals(try subst J)
 all_goals
  apply WH func331;go_wp2_with fail;apply Zy HN;rintro w1 rfl;go_wp2;refine ZE [] [0,1,2,3,4,6,7,8,9,10] [5,11,12,13] [] (Qb) w ?_;simp only[pick,Zf,Ze,Zd];refine Qg ?_;iterate 10 (refine Ql (λK hK=>?_);go_simp;refine hK _ ?_;clear hK K)
  refine Qg ?_;intro _ ac;obtain⟨xo,Z⟩:=ac;subst Z;simp only[Jd];have c3:=O (Qv Qb w xo);generalize Qz Qb w xo=w3 at c3|-;clear E;go_wp2_with fail;apply Z9 (H1.o _) (λ_ d4=>c3.o.aA d4);intro w4 c4;go_wp2;refine⟨Qd c4.o,?_⟩;go_wp2_with fail;apply Z9 (H2.o _) (λ_ d5=>c4.o.aA d5);intro w5 R;go_wp2;refine⟨Qd R.o,?_⟩;go_wp2;refine⟨Qd R.o,?_⟩;go_wp2;refine⟨Qd R.o,?_⟩;have a0:=Av (TL.o _ R.o);exact WD R
theorem Xh.start_h1{r:Xh}(d:Uj r.l)(x y:Nat):(r.start x y).h1=if r.l=[]then min y Xw else min (Hb r.h1 r.c.f (max (min x Qq) (Ji r.l)-Ji r.l)) (min y Xw):=by
 unfold Xh.h1 Xh.start Dg;rw[if_neg (by simp)];by_cases c:r.l=[];·rw[if_pos c,c,List.nil_append,Qdm];omega
 .rw[if_neg c,if_neg c,F9 d c (by omega)];dsimp only;omega
theorem Xh.start_h2{r:Xh}(d:Uj r.l)(x y:Nat):(r.start x y).h2=if r.l=[]then min Xw (min y Xw+(r.c.f-r.c.r)*r.c.l)else min (Hb r.h2 r.c.r (max (min x Qq) (Ji r.l)-Ji r.l)) (min Xw (min y Xw+(r.c.f-r.c.r)*r.c.l)):=by
 unfold Xh.h2 Xh.start Dg;rw[if_neg (by simp)];by_cases c:r.l=[];·rw[if_pos c,c,List.nil_append,Qdm]
 .rw[if_neg c,if_neg c,F9 d c (by omega)]
theorem Ew.start{l:Uw}(q:Uj l)(h:Ew l)(x y:Nat):Ew (Dg l x y):=by
 refine List.pairwise_append.2 ⟨h,by simp,λj c k d=>?_⟩;obtain rfl:k=_:=by simpa using d
 exact Zp (q.rise j c) (Nat.le_max_right _ _)
end
section
variable{n:Nat}{P:Program}{ops:Array Oper}{Q:Exit->Act->World->Prop}{C:World->Prop}
theorem Nx{n m:Nat}{l:Nat}{f:FuncId}{q:Array Value}{d k:Code}{w}{R:Ending->World->Prop}(h:RoundIn Fence.wide n P l f q d k w R):RoundIn Fence.wide m P l f q d k w R:=
 ⟨h.1,λc cs _=>h.2 c cs (room_wide _)⟩
theorem Qf6{n m:Nat}{l:Nat}{d:Array Value}{W}{R:Ending->World->Prop}(h:YieldAt Fence.wide n P l d W R):YieldAt Fence.wide m P l d W R:=by obtain⟨u,q,c,k,z,B⟩:=h;exact⟨u,q,c,k,z,Nx B⟩
theorem Sd{i:Nat}{o:Oper}{v:Value}{a:Act}(k:ops[i]? =some o)(u:YieldsIf P ops C o v a)
  {K:Act->World->Prop}{w}(d:C w)(h:K (a.put o.dst v) w):wpOpIn Fence.wide n P ops Q i K a w:=by
 unfold Go.wpOpIn;simp only[k];rcases u with⟨c,q⟩|⟨c,rfl⟩;·simp only[c,if_true,Oper.wpIn];refine⟨λf _=>trivial,?_⟩;rw[show Fence.wide.round=none from rfl,Oper.semAt_none,q w d];exact h
 .simp only[c,Bool.false_eq_true,if_false];exact⟨λf _=>trivial,h⟩
theorem Qjo{j:Nat}{k B:Oper}{v:Value}(hj:ops[j]? =some B)(U:k.apart ops B=true)
  (V:∀cs b,k.op≠ .select cs b)(Z:∀cs b,B.op≠ .select cs b)
  (R:∀c a w,Q (.panic c) (a.put k.dst v) w->Q (.panic c) a w){K:Act->World->Prop}{a:Act}{w}
  (z:YieldsIf P ops C k v a) (h:wpOpIn Fence.wide n P ops Q j K (a.put k.dst v) w):
  wpOpIn Fence.wide n P ops Q j (λa' w'=>YieldsIf P ops C k v a'/\K (a'.put k.dst v) w') a w:=by
 obtain⟨h1,E,h3⟩:=Oper.apart_spec U;have aB:∀(a:Act),YieldsIf P ops C k v a->∀u,YieldsIf P ops C k v (a.put B.dst u):=λa z u=>
  z.of_same (execOp_put k V a B.dst u h3) (wanted_put k a B.dst u h3)
 have I:∀d,YieldsIf P ops C k v {a with defers:=d::a.defers}:=λd=>z.of_same rfl rfl;unfold wpOpIn at*;simp only[hj]at*;rw[wanted_put B a k.dst v h1]at h;split
 .rename_i hw;simp only[hw,if_true]at h;unfold Oper.wpIn at*;refine⟨λf _=>trivial,?_⟩;have h:=h.2;rw[show Fence.wide.round=none from rfl,Oper.semAt_none,execOp_put B Z a k.dst v h1]at h;rw[show Fence.wide.round=none from rfl,Oper.semAt_none];generalize(execOp a.eval B).run P w=r at*;cases r with
  |ok x w'=>
   cases x<;>simp only[Oper.uponIn]at h|-;case value u=>exact⟨aB a z u,by rw[<-Act.put_comm a v u E];exact h⟩
   case skip=>exact⟨aB a z _,by rw[<-Act.put_comm a v undef E];exact h⟩
   case defer d=> refine⟨aB _ (I d) _,?_⟩;rw[<-Act.put_comm _ v undef E,<-Act.put_defers];exact h
   case enter f args=>
    refine⟨h.1,CallsIn.mono h.2 λe J q=>?_⟩;cases e with
    |returned u=>exact⟨aB a z u,by rw[<-Act.put_comm a v u E];exact q⟩
    |panicked c=>exact R _ _ _ q
    |outgrown=>exact q
   case row row args=>exact⟨h.1,RowsIn.mono h.2 λu J q=>⟨aB a z u,by rw[<-Act.put_comm a v u E];exact q⟩⟩
   case round l f tmps assign body=>
    refine⟨h.1,RoundIn.mono h.2 λe J q=>?_⟩;cases e with
    |returned u=>exact⟨aB a z u,by rw[<-Act.put_comm a v u E];exact q⟩
    |panicked c=>exact R _ _ _ q
    |outgrown=>exact q
  |halt x w'=> cases x<;>simp only[Oper.uponIn]at h|-;case panic u=>exact R _ _ _ h
 .rename_i hw;simp only[hw]at h;exact⟨λf _=>trivial,aB a z _,by rw[<-Act.put_comm a v undef E];exact h.2⟩
theorem Qca{i:Nat}{o:Oper}{K:Act->World->Prop}{a:Act}{w}(d:ops[i]? =some o)(h:wpListIn Fence.wide n P ops (Exit.then K Q) [o] a w):wpOpIn Fence.wide n P ops Q i K a w:=by
 unfold wpOpIn;simp only[d];simp only[wpListIn]at h;split
 .rename_i c;simp only[c,if_true]at h;unfold Oper.wpIn at*;refine⟨h.1,?_⟩;have h:=h.2;generalize(o.semAt Fence.wide.round a.eval).run P w=r at*;cases r with
  |ok x w'=>cases x<;>simp only[Oper.uponIn]at h|-<;>exact h
  |halt x w'=>cases x<;>simp only[Oper.uponIn]at h|-<;>exact h
 .rename_i c;simp only[c]at h;exact h
variable{r:List (Bool×Oper)}{a:Act}{o:Oper}{w:World}
end
section
variable{P:Program}{ops:Array Oper}{Q:Exit->Act->World->Prop}
def Qb7(P:Program)(ops:Array Oper)(Q:Exit->Act->World->Prop)(c:Nat->Bool):Nat->Array Bool->Act->World->Prop
 |0,listed,a,w=>Region.ready .any ops listed=[]/\Q .normal a w
 |f+1,listed,a,w=>(Region.ready .any ops listed=[]->Q .normal a w)/\
  ∀i∈Region.ready .any ops listed,wpOp P ops Q i (λd w'=>(c i=false->w'=w)/\Qb7 P ops Q c f (listed.setIfInBounds i true) d w') a w
theorem Qb9{d:Nat->Bool}:∀(f:Nat)(c:Array Bool)(a:Act)(w),Qb7 P ops Q d f c a w->wpAny P .any ops Q f c a w
 |0,_,_,_,h=>h
 |f+1,_,_,_,h=>⟨h.1,λi q=>wpOp_mono (λk w' h'=>Qb9 f _ k w' h'.2) (h.2 i q)⟩
theorem Bk{z:Nat->Bool}{D:World->Prop}{i F:Nat}{oi:Oper}{v:Value}(hi:ops[i]? =some oi)(U:∀(j:Nat)(o:Oper)cs b,ops[j]? =some o->o.op≠ .select cs b)
  (hQ:∀c a w,Q (.panic c) (a.put oi.dst v) w->Q (.panic c) a w):
  ∀(f:Nat)(d:Array Bool)(a:Act)(w),Xj ops d->
   ((∀w',D w')\/∀j J,ops[j]? =some J->z j=true->d.getD j true=false->Xs ops F j i=true)->
   (∀j J,ops[j]? =some J->j≠i->d.getD j true=false->(∀e∈J.after,Region.binds .any e=true->e.on≠i)->oi.apart ops J=true)->
   i∈Region.ready .any ops d->YieldsIf P ops D oi v a->D w->
   Qb7 P ops Q z f (d.setIfInBounds i true) (a.put oi.dst v) w->Qb7 P ops Q z (f+1) d a w:=by
 intro f;induction f with
 |zero=>
  intro d a w Z _ _ hr hy hD H;refine⟨λh=>(by rw[h]at hr;cases hr),λj hj=>?_⟩;by_cases u:j=i;·subst u;exact hy.wpOp hi hD ⟨λ_=>rfl,H⟩
  .have:=ready_mono hj u;rw[H.1]at this;cases this
 |succ f ih=>
  intro d a w Z q B hr hy hD H;have ac:=(mem_ready.1 hr).1;refine⟨λh=>(by rw[h]at hr;cases hr),λj hj=>?_⟩;by_cases u:j=i;·subst u;exact hy.wpOp hi hD ⟨λ_=>rfl,H⟩
  .have V:=H.2 j (ready_mono hj u);obtain⟨E,J,I,R⟩:=mem_ready.1 hj;have ag:(∀w',D w')\/z j=false:=by
    rcases q with hD|q;·exact .inl hD
    .refine .inr ?_;cases hl:z j with
     |false=>rfl
     |true=>
      have V:=Yw Z F j i (λo ho e he hb=>by
       have:o=J:=Zs (ho.symm.trans I);subst this;exact R e he hb) (q j J I hl E)
      rw[getD_both ac]at V;cases V
   have ab:∀e∈J.after,Region.binds .any e=true->e.on≠i:=λe he hb ae=>by have V:=R e he hb;rw[ae,getD_both ac]at V;cases V
   have h2:=wpOp_putIf (S:=D) I (B j J I u E ab) (λcs b=>U i oi cs b hi) (λcs b=>U j J cs b I) hQ hy V;have K:∀k,(d.setIfInBounds j true).getD k true=false->d.getD k true=false:=λk h=>by
    by_cases aa:j=k;·subst aa;exact E
    .rwa[getD_set_ne true aa]at h
   refine wpOp_mono (λa' w' h3=>⟨h3.2.1,ih (d.setIfInBounds j true) a' w' (Z.set hj) ?_ ?_ (ready_mono hr (Ne.symm u)) h3.1 ?_ ?_⟩) h2;·exact q.imp id λh k ok hk hl hu=>h k ok hk hl (K k hu)
   .exact λk ok hk af hu ah=>B k ok hk af (K k hu) ah
   .rcases ag with h|h;·exact h w'
    .rw[h3.2.1 h];exact hD
   .rw[Array.setIfInBounds_comm _ _ u];exact h3.2.2
def Kl(P:Program)(ops:Array Oper)(Q:Exit->Act->World->Prop):List (Nat×Oper)->Act->World->Prop
 |[],a,w=>Q .normal a w
 |(0,o)::r,a,w=>if Region.wanted o (yielded ops a.tmps)then∃v,(execOp a.eval o).run P w=.ok (.value v) w/\Kl P ops Q r (a.put o.dst v) w else Kl P ops Q r (a.put o.dst undef) w
 |(1,o)::r,a,w=>if Region.wanted o (yielded ops a.tmps)then∃v,(∀w',(execOp a.eval o).run P w'=.ok (.value v) w')/\Kl P ops Q r (a.put o.dst v) w else Kl P ops Q r (a.put o.dst undef) w
 |(_+2,o)::r,a,w=>wpList P ops (Exit.then (λc w'=>Kl P ops Q r c w') Q) [o] a w
def Jk(ops:Array Oper):List (Nat×Nat)->List (Nat×Oper)
 |[]=>[]
 |(b,k)::r=>match ops[k]? with
  |some o=>(b,o)::Jk ops r
  |none=>Jk ops r
theorem Kq{b k:Nat}{r:List (Nat×Nat)}{o:Oper}(h:ops[k]? =some o):Jk ops ((b,k)::r)=(b,o)::Jk ops r:=by simp[Jk,h]
def Rb:List (Nat×Nat)->List Nat
 |[]=>[]
 |(0,_)::r=>Rb r
 |(1,_)::r=>Rb r
 |(_+2,k)::r=>k::Rb r
def xB(ops:Array Oper)(c:List Nat):List (Nat×Nat)->Array Bool->Bool
 |[],listed=>(Region.ready .any ops listed).isEmpty
 |(0,k)::r,listed=>(Region.ready .any ops listed).contains k&&Region.free .any ops listed k&&((ops[k]?).map (·.dst.isSome)).getD false&&(c.all λj=>listed.getD j true||Xs ops ops.size j k)&&xB ops c r (listed.setIfInBounds k true)
 |(1,k)::r,listed=>(Region.ready .any ops listed).contains k&&Region.free .any ops listed k&&((ops[k]?).map (·.dst.isSome)).getD false&&xB ops c r (listed.setIfInBounds k true)
 |(_+2,k)::r,listed=>decide (Region.ready .any ops listed=[k])&&c.contains k&&xB ops c r (listed.setIfInBounds k true)
theorem Qnw{J:List Nat}(z:Region.noSelect ops=true)(hQ:∀c(a:Act)(d:Tmp)v w,Q (.panic c) (a.put (some d) v) w->Q (.panic c) a w):
  ∀(r:List (Nat×Nat))(q:Array Bool)(a:Act)(w),Xj ops q->xB ops J r q=true->Kl P ops Q (Jk ops r) a w->Qb7 P ops Q (λj=>J.contains j) r.length q a w
 |[],q,a,w,hcl,hB,h=>⟨by simpa[xB]using hB,h⟩
 |(0,k)::r,q,a,w,hcl,hB,h=>by
  simp only[xB,Zw]at hB;obtain⟨⟨⟨⟨hr,hf⟩,I⟩,ab⟩,E⟩:=hB;have u:k∈Region.ready .any ops q:=by simpa using hr
  obtain⟨_,o,B,_⟩:=mem_ready.1 u;rw[B]at I;simp only[Zn,Option.getD_some]at I;obtain⟨d,I⟩:=Option.isSome_iff_exists.1 I;rw[Kq B]at h;simp only[Kl]at h;have U:∃v,YieldsIf P ops (λw'=>w'=w) o v a/\Kl P ops Q (Jk ops r) (a.put o.dst v) w:=by
   by_cases K:Region.wanted o (yielded ops a.tmps)=true;·simp only[K,if_true]at h;obtain⟨v,R,V⟩:=h;exact⟨v,.inl ⟨K,λw' e=>by rw[e];exact R⟩,V⟩
   .simp only[K]at h;exact⟨undef,.inr ⟨by simpa using K,rfl⟩,h⟩
  obtain⟨v,U,hK⟩:=U;exact Bk (F:=ops.size) B (Region.noSelect_spec z) (λc Z w' hq=>by rw[I]at hq;exact hQ c Z d _ w' hq) _ q a w hcl
   (.inr λj oj hj hl hu=>by
    have:=List.all_eq_true.1 ab j (by simpa using hl);rw[hu]at this;simpa using this) (Region.free_spec B hf) u U rfl
   (Qnw z hQ r _ _ w (hcl.set u) E hK)
 |(1,k)::r,q,a,w,hcl,hB,h=>by
  simp only[xB,Zw]at hB;obtain⟨⟨⟨hr,hf⟩,I⟩,E⟩:=hB;have u:k∈Region.ready .any ops q:=by simpa using hr
  obtain⟨_,o,B,_⟩:=mem_ready.1 u;rw[B]at I;simp only[Zn,Option.getD_some]at I;obtain⟨d,I⟩:=Option.isSome_iff_exists.1 I;rw[Kq B]at h;simp only[Kl]at h;have U:∃v,YieldsIf P ops (λ_=>True) o v a/\Kl P ops Q (Jk ops r) (a.put o.dst v) w:=by
   by_cases K:Region.wanted o (yielded ops a.tmps)=true;·simp only[K,if_true]at h;obtain⟨v,R,V⟩:=h;exact⟨v,.inl ⟨K,λw' _=>R w'⟩,V⟩
   .simp only[K]at h;exact⟨undef,.inr ⟨by simpa using K,rfl⟩,h⟩
  obtain⟨v,U,hK⟩:=U;exact Bk (F:=ops.size) B (Region.noSelect_spec z) (λc Z w' hq=>by rw[I]at hq;exact hQ c Z d _ w' hq) _ q a w hcl
   (.inl λ_=>trivial) (Region.free_spec B hf) u U trivial
   (Qnw z hQ r _ _ w (hcl.set u) E hK)
 |(n+2,k)::r,q,a,w,hcl,hB,h=>by
  simp only[xB,Zw,decide_eq_true_eq]at hB;obtain⟨⟨R,hl⟩,E⟩:=hB;have u:k∈Region.ready .any ops q:=by rw[R];simp
  obtain⟨_,o,B,_⟩:=mem_ready.1 u;rw[Kq B]at h;simp only[Kl]at h;refine⟨λV=>(by rw[R]at V;cases V),λi hi=>?_⟩;rw[R]at hi;have aa:i=k:=by simpa using hi
  subst aa;refine wpOp_mono (λZ w' h'=>⟨λh=>?_,?_⟩) (Ko B h);·exact absurd (show J.contains i=false from h) (by rw[hl];decide)
  .exact Qnw z hQ r _ Z w' (hcl.set u) E h'
theorem Qj{id:Nat}{a:Act}{w}{l:List Oper}(k:List (Nat×Nat))(J:P.follows .mixedOrders=true)
  (z:(Region.noSelect l.toArray&&(decide (k.length=l.toArray.size)&&xB l.toArray (Rb k) k (Array.replicate l.toArray.size false)))=true)
  (I:∀c(a:Act)(d:Tmp)v w,Q (.panic c) (a.put (some d) v) w->Q (.panic c) a w) (h:Kl P l.toArray Q (Jk l.toArray k) a w.drew):
  (Code.region id l.toArray true).wp P Q a w:=by
 simp only[Zw,decide_eq_true_eq]at z;obtain⟨u,q,z⟩:=z;refine wp_region_any J ?_;have B:Xj l.toArray (Array.replicate l.toArray.size false):=λj K _ E=>by rw[getD_replicate_false]at E;cases E
 have:=Qnw (P:=P) u I k _ a _ B z h;rw[q]at this;exact Qb9 _ _ _ _ this
variable{r:List (Nat×Oper)}{a:Act}{o:Oper}{w:World}
theorem Jo(h:Q .normal a w):Kl P ops Q [] a w:=h
theorem Qs8(c:Region.wanted o (yielded ops a.tmps)=false:=by as_aux_lemma=>kernel_rfl)(h:Kl P ops Q r (a.put o.dst undef) w):Kl P ops Q ((0,o)::r) a w:=by simp only[Kl,c,Bool.false_eq_true,if_false];exact h
theorem Qmz(c:Region.wanted o (yielded ops a.tmps)=false:=by as_aux_lemma=>kernel_rfl)(h:Kl P ops Q r (a.put o.dst undef) w):Kl P ops Q ((1,o)::r) a w:=by simp only[Kl,c,Bool.false_eq_true,if_false];exact h
theorem Jq{v:Value}(d:Region.wanted o (yielded ops a.tmps)=true:=by as_aux_lemma=>kernel_rfl)(c:(execOp a.eval o).run P w=.ok (.value v) w:=by go_simp;try rfl)(h:Kl P ops Q r (a.put o.dst v) w):Kl P ops Q ((0,o)::r) a w:=by simp only[Kl,d,if_true];exact⟨v,c,h⟩
theorem Q8{v:Value}(d:Region.wanted o (yielded ops a.tmps)=true:=by as_aux_lemma=>kernel_rfl)(c:∀w',(execOp a.eval o).run P w'=.ok (.value v) w':=by intros;go_simp;try rfl)(h:Kl P ops Q r (a.put o.dst v) w):Kl P ops Q ((1,o)::r) a w:=by simp only[Kl,d,if_true];exact⟨v,c,h⟩
theorem J7{n:Nat}(h:wpList P ops (Exit.then (λc w'=>Kl P ops Q r c w') Q) [o] a w):Kl P ops Q ((n+2,o)::r) a w:=h
theorem Qs7{n:Nat}(c:Region.wanted o (yielded ops a.tmps)=false)(h:Kl P ops Q r (a.put o.dst undef) w):Kl P ops Q ((n+2,o)::r) a w:=by show wpList P ops _ [o] a w;simp only[wpList,c,Bool.false_eq_true,if_false];exact h
end
section
variable{n:Nat}{P:Program}{ops:Array Oper}{Q:Exit->Act->World->Prop}
def Bh(n:Nat)(P:Program)(ops:Array Oper)(Q:Exit->Act->World->Prop)(c:Nat->Bool):Nat->Array Bool->Act->World->Prop
 |0,listed,a,w=>Region.ready .any ops listed=[]/\Q .normal a w
 |f+1,listed,a,w=>(Region.ready .any ops listed=[]->Q .normal a w)/\
  ∀i∈Region.ready .any ops listed,wpOpIn Fence.wide n P ops Q i (λd w'=>(c i=false->w'=w)/\Bh n P ops Q c f (listed.setIfInBounds i true) d w') a w
theorem Tm{d:Nat->Bool}:∀(f:Nat)(c:Array Bool)(a:Act)(w),Bh n P ops Q d f c a w->wpAnyIn Fence.wide n P .any ops Q f c a w
 |0,_,_,_,h=>h
 |f+1,_,_,_,h=>⟨h.1,λi q=>wpOpIn_mono (λk w' h'=>Tm f _ k w' h'.2) (h.2 i q)⟩
theorem To{z:Nat->Bool}{D:World->Prop}{i F:Nat}{oi:Oper}{v:Value}(hi:ops[i]? =some oi)(U:∀(j:Nat)(o:Oper)cs b,ops[j]? =some o->o.op≠ .select cs b)
  (hQ:∀c a w,Q (.panic c) (a.put oi.dst v) w->Q (.panic c) a w):
  ∀(f:Nat)(d:Array Bool)(a:Act)(w),Xj ops d->
   ((∀w',D w')\/∀j J,ops[j]? =some J->z j=true->d.getD j true=false->Xs ops F j i=true)->
   (∀j J,ops[j]? =some J->j≠i->d.getD j true=false->(∀e∈J.after,Region.binds .any e=true->e.on≠i)->oi.apart ops J=true)->
   i∈Region.ready .any ops d->YieldsIf P ops D oi v a->D w->
   Bh n P ops Q z f (d.setIfInBounds i true) (a.put oi.dst v) w->Bh n P ops Q z (f+1) d a w:=by
 intro f;induction f with
 |zero=>
  intro d a w Z _ _ hr hy hD H;refine⟨λh=>(by rw[h]at hr;cases hr),λj hj=>?_⟩;by_cases u:j=i;·subst u;exact Sd hi hy hD ⟨λ_=>rfl,H⟩
  .have:=ready_mono hj u;rw[H.1]at this;cases this
 |succ f ih=>
  intro d a w Z q B hr hy hD H;have ac:=(mem_ready.1 hr).1;refine⟨λh=>(by rw[h]at hr;cases hr),λj hj=>?_⟩;by_cases u:j=i;·subst u;exact Sd hi hy hD ⟨λ_=>rfl,H⟩
  .have V:=H.2 j (ready_mono hj u);obtain⟨E,J,I,R⟩:=mem_ready.1 hj;have ag:(∀w',D w')\/z j=false:=by
    rcases q with hD|q;·exact .inl hD
    .refine .inr ?_;cases hl:z j with
     |false=>rfl
     |true=>
      have V:=Yw Z F j i (λo ho e he hb=>by
       have:o=J:=Zs (ho.symm.trans I);subst this;exact R e he hb) (q j J I hl E)
      rw[getD_both ac]at V;cases V
   have ab:∀e∈J.after,Region.binds .any e=true->e.on≠i:=λe he hb ae=>by have V:=R e he hb;rw[ae,getD_both ac]at V;cases V
   have h2:=Qjo (C:=D) I (B j J I u E ab) (λcs b=>U i oi cs b hi) (λcs b=>U j J cs b I) hQ hy V;have K:∀k,(d.setIfInBounds j true).getD k true=false->d.getD k true=false:=λk h=>by
    by_cases aa:j=k;·subst aa;exact E
    .rwa[getD_set_ne true aa]at h
   refine wpOpIn_mono (λa' w' h3=>⟨h3.2.1,ih (d.setIfInBounds j true) a' w' (Z.set hj) ?_ ?_ (ready_mono hr (Ne.symm u)) h3.1 ?_ ?_⟩) h2;·exact q.imp id λh k ok hk hl hu=>h k ok hk hl (K k hu)
   .exact λk ok hk af hu ah=>B k ok hk af (K k hu) ah
   .rcases ag with h|h;·exact h w'
    .rw[h3.2.1 h];exact hD
   .rw[Array.setIfInBounds_comm _ _ u];exact h3.2.2
def Uo(n:Nat)(P:Program)(ops:Array Oper)(Q:Exit->Act->World->Prop):List (Nat×Oper)->Act->World->Prop
 |[],a,w=>Q .normal a w
 |(0,o)::r,a,w=>if Region.wanted o (yielded ops a.tmps)then∃v,(execOp a.eval o).run P w=.ok (.value v) w/\Uo n P ops Q r (a.put o.dst v) w else Uo n P ops Q r (a.put o.dst undef) w
 |(1,o)::r,a,w=>if Region.wanted o (yielded ops a.tmps)then∃v,(∀w',(execOp a.eval o).run P w'=.ok (.value v) w')/\Uo n P ops Q r (a.put o.dst v) w else Uo n P ops Q r (a.put o.dst undef) w
 |(_+2,o)::r,a,w=>wpListIn Fence.wide n P ops (Exit.then (λc w'=>Uo n P ops Q r c w') Q) [o] a w
theorem Qf1{J:List Nat}(z:Region.noSelect ops=true)(hQ:∀c(a:Act)(d:Tmp)v w,Q (.panic c) (a.put (some d) v) w->Q (.panic c) a w):
  ∀(r:List (Nat×Nat))(q:Array Bool)(a:Act)(w),Xj ops q->xB ops J r q=true->Uo n P ops Q (Jk ops r) a w->Bh n P ops Q (λj=>J.contains j) r.length q a w
 |[],q,a,w,hcl,hB,h=>⟨by simpa[xB]using hB,h⟩
 |(0,k)::r,q,a,w,hcl,hB,h=>by
  simp only[xB,Zw]at hB;obtain⟨⟨⟨⟨hr,hf⟩,I⟩,ab⟩,E⟩:=hB;have u:k∈Region.ready .any ops q:=by simpa using hr
  obtain⟨_,o,B,_⟩:=mem_ready.1 u;rw[B]at I;simp only[Zn,Option.getD_some]at I;obtain⟨d,I⟩:=Option.isSome_iff_exists.1 I;rw[Kq B]at h;simp only[Uo]at h;have U:∃v,YieldsIf P ops (λw'=>w'=w) o v a/\Uo n P ops Q (Jk ops r) (a.put o.dst v) w:=by
   by_cases K:Region.wanted o (yielded ops a.tmps)=true;·simp only[K,if_true]at h;obtain⟨v,R,V⟩:=h;exact⟨v,.inl ⟨K,λw' e=>by rw[e];exact R⟩,V⟩
   .simp only[K]at h;exact⟨undef,.inr ⟨by simpa using K,rfl⟩,h⟩
  obtain⟨v,U,hK⟩:=U;exact To (F:=ops.size) B (Region.noSelect_spec z) (λc Z w' hq=>by rw[I]at hq;exact hQ c Z d _ w' hq) _ q a w hcl
   (.inr λj oj hj hl hu=>by
    have:=List.all_eq_true.1 ab j (by simpa using hl);rw[hu]at this;simpa using this) (Region.free_spec B hf) u U rfl
   (Qf1 z hQ r _ _ w (hcl.set u) E hK)
 |(1,k)::r,q,a,w,hcl,hB,h=>by
  simp only[xB,Zw]at hB;obtain⟨⟨⟨hr,hf⟩,I⟩,E⟩:=hB;have u:k∈Region.ready .any ops q:=by simpa using hr
  obtain⟨_,o,B,_⟩:=mem_ready.1 u;rw[B]at I;simp only[Zn,Option.getD_some]at I;obtain⟨d,I⟩:=Option.isSome_iff_exists.1 I;rw[Kq B]at h;simp only[Uo]at h;have U:∃v,YieldsIf P ops (λ_=>True) o v a/\Uo n P ops Q (Jk ops r) (a.put o.dst v) w:=by
   by_cases K:Region.wanted o (yielded ops a.tmps)=true;·simp only[K,if_true]at h;obtain⟨v,R,V⟩:=h;exact⟨v,.inl ⟨K,λw' _=>R w'⟩,V⟩
   .simp only[K]at h;exact⟨undef,.inr ⟨by simpa using K,rfl⟩,h⟩
  obtain⟨v,U,hK⟩:=U;exact To (F:=ops.size) B (Region.noSelect_spec z) (λc Z w' hq=>by rw[I]at hq;exact hQ c Z d _ w' hq) _ q a w hcl
   (.inl λ_=>trivial) (Region.free_spec B hf) u U trivial
   (Qf1 z hQ r _ _ w (hcl.set u) E hK)
 |(m+2,k)::r,q,a,w,hcl,hB,h=>by
  simp only[xB,Zw,decide_eq_true_eq]at hB;obtain⟨⟨R,hl⟩,E⟩:=hB;have u:k∈Region.ready .any ops q:=by rw[R];simp
  obtain⟨_,o,B,_⟩:=mem_ready.1 u;rw[Kq B]at h;simp only[Uo]at h;refine⟨λV=>(by rw[R]at V;cases V),λi hi=>?_⟩;rw[R]at hi;have aa:i=k:=by simpa using hi
  subst aa;refine wpOpIn_mono (λZ w' h'=>⟨λh=>?_,?_⟩) (Qca B h);·exact absurd (show J.contains i=false from h) (by rw[hl];decide)
  .exact Qf1 z hQ r _ Z w' (hcl.set u) E h'
theorem Lx{id:Nat}{a:Act}{w}{l:List Oper}(k:List (Nat×Nat))(J:P.follows .mixedOrders=true)
  (z:(Region.noSelect l.toArray&&(decide (k.length=l.toArray.size)&&xB l.toArray (Rb k) k (Array.replicate l.toArray.size false)))=true)
  (I:∀c(a:Act)(d:Tmp)v w,Q (.panic c) (a.put (some d) v) w->Q (.panic c) a w) (h:Uo n P l.toArray Q (Jk l.toArray k) a w.drew):
  (Code.region id l.toArray true).wpIn Fence.wide n P Q a w:=by
 simp only[Zw,decide_eq_true_eq]at z;obtain⟨u,q,z⟩:=z;refine wpIn_region_any J ?_;have B:Xj l.toArray (Array.replicate l.toArray.size false):=λj K _ E=>by rw[getD_replicate_false]at E;cases E
 have:=Qf1 (n:=n) (P:=P) (Q:=Q) u I k _ a _ B z h;rw[q]at this;exact Tm _ _ _ _ this
variable{r:List (Nat×Oper)}{a:Act}{o:Oper}{w:World}
theorem Qf2(h:Q .normal a w):Uo n P ops Q [] a w:=h
theorem Qf4(c:Region.wanted o (yielded ops a.tmps)=false:=by as_aux_lemma=>kernel_rfl)(h:Uo n P ops Q r (a.put o.dst undef) w):Uo n P ops Q ((0,o)::r) a w:=by simp only[Uo,c,Bool.false_eq_true,if_false];exact h
theorem Ae(c:Region.wanted o (yielded ops a.tmps)=false:=by as_aux_lemma=>kernel_rfl)(h:Uo n P ops Q r (a.put o.dst undef) w):Uo n P ops Q ((1,o)::r) a w:=by simp only[Uo,c,Bool.false_eq_true,if_false];exact h
theorem Et{v:Value}(d:Region.wanted o (yielded ops a.tmps)=true:=by as_aux_lemma=>kernel_rfl)(c:(execOp a.eval o).run P w=.ok (.value v) w:=by go_simp;try rfl)(h:Uo n P ops Q r (a.put o.dst v) w):Uo n P ops Q ((0,o)::r) a w:=by simp only[Uo,d,if_true];exact⟨v,c,h⟩
theorem Dl{v:Value}(d:Region.wanted o (yielded ops a.tmps)=true:=by as_aux_lemma=>kernel_rfl)(c:∀w',(execOp a.eval o).run P w'=.ok (.value v) w':=by intros;go_simp;try rfl)(h:Uo n P ops Q r (a.put o.dst v) w):Uo n P ops Q ((1,o)::r) a w:=by simp only[Uo,d,if_true];exact⟨v,c,h⟩
theorem Bl{m:Nat}(h:wpListIn Fence.wide n P ops (Exit.then (λc w'=>Uo n P ops Q r c w') Q) [o] a w):Uo n P ops Q ((m+2,o)::r) a w:=h
theorem Qf3{m:Nat}(c:Region.wanted o (yielded ops a.tmps)=false)(h:Uo n P ops Q r (a.put o.dst undef) w):Uo n P ops Q ((m+2,o)::r) a w:=by show wpListIn Fence.wide n P ops _ [o] a w;simp only[wpListIn,c,Bool.false_eq_true,if_false];exact⟨λf _=>trivial,h⟩
end
def Z7(p:List Nat):List (Nat×Nat):=p.map λn=>(n/100,n%100)
def Z8(ops:Array Oper):List Nat->List (Nat×Oper)
 |[]=>[]
 |n::r=>match ops[n%100]? with|some o=>(n/100,o)::Z8 ops r|none=>Z8 ops r
theorem ZA(ops:Array Oper)(p:List Nat):Z8 ops p=Jk ops (Z7 p):=by
 induction p with
 |nil=>rfl
 |cons n r ih=>show _=Jk ops ((n/100,n%100)::Z7 r);rw[Z8,Jk,ih]
theorem ZB{Q:Exit->Act->World->Prop}{id:Nat}{a:Act}{w:World}{l:List Oper}(p:List Nat)(h:Kl prog l.toArray Q (Z8 l.toArray p) a w.drew)(hB:(Region.noSelect l.toArray&&(decide ((Z7 p).length=l.toArray.size)&&xB l.toArray (Rb (Z7 p)) (Z7 p) (Array.replicate l.toArray.size false)))=true:=by kernel_rfl)(hQ:∀c (a:Act)(d:Tmp) v w,Q (.panic c) (a.put (some d) v) w->Q (.panic c) a w:=by exact λ_ _ _ _ _ h=>h):(Code.region id l.toArray true).wp prog Q a w:=Qj _ Zq hB hQ (by rw[<-ZA];exact h)
def dg:Nat->Nat->Nat->List Nat
 |0,_,_=>[]
 |f+1,n,i=>(n%10*100+i)::dg f (n/10) (i+1)
theorem XB{Q:Exit->Act->World->Prop}{id:Nat}{a:Act}{w:World}{l:List Oper}{K:Prop}(p:Nat)(k:K)(h:K->Kl prog l.toArray Q (Z8 l.toArray (dg l.length p 0)) a w.drew:=by intro k;simp only[dg,List.length_cons,List.length_nil,Z8,Zf,Ze,Zd];exact k)(hB:(Region.noSelect l.toArray&&(decide ((Z7 (dg l.length p 0)).length=l.toArray.size)&&xB l.toArray (Rb (Z7 (dg l.length p 0))) (Z7 (dg l.length p 0)) (Array.replicate l.toArray.size false)))=true:=by kernel_rfl)(hQ:∀c (a:Act)(d:Tmp) v w,Q (.panic c) (a.put (some d) v) w->Q (.panic c) a w:=by exact λ_ _ _ _ _ h=>h):(Code.region id l.toArray true).wp prog Q a w:=ZB (dg l.length p 0) (h k) hB hQ
theorem YB{Q:Exit->Act->World->Prop}{id:Nat}{a:Act}{w:World}{l:List Oper}{K:Prop}(p:List Nat)(k:K)(h:K->Kl prog l.toArray Q (Z8 l.toArray p) a w.drew:=by intro k;simp only[Z8,Zf,Ze,Zd];exact k)(hB:(Region.noSelect l.toArray&&(decide ((Z7 p).length=l.toArray.size)&&xB l.toArray (Rb (Z7 p)) (Z7 p) (Array.replicate l.toArray.size false)))=true:=by kernel_rfl)(hQ:∀c (a:Act)(d:Tmp) v w,Q (.panic c) (a.put (some d) v) w->Q (.panic c) a w:=by exact λ_ _ _ _ _ h=>h):(Code.region id l.toArray true).wp prog Q a w:=ZB p (h k) hB hQ
section
variable{P:Program}{ops:Array Oper}{Q:Exit->Act->World->Prop}{D:World->Prop}
def Fi(P:Program)(ops:Array Oper)(Q:Exit->Act->World->Prop)(D:World->Prop)(c d:Nat->Bool):Nat->Array Bool->Act->World->Prop
 |0,listed,a,w=>Region.ready .any ops listed=[]/\Q .normal a w
 |f+1,listed,a,w=>(Region.ready .any ops listed=[]->Q .normal a w)/\
  ∀i∈Region.ready .any ops listed,wpOp P ops Q i (λk w'=>((c i=false->w'=w)/\(c i=true->d i=false->D w'))/\Fi P ops Q D c d f (listed.setIfInBounds i true) k w') a w
theorem Mu{d k:Nat->Bool}:∀(f:Nat)(c:Array Bool)(a:Act)(w),Fi P ops Q D d k f c a w->wpAny P .any ops Q f c a w
 |0,_,_,_,h=>h
 |f+1,_,_,_,h=>⟨h.1,λi u=>wpOp_mono (λq w' h'=>Mu f _ q w' h'.2) (h.2 i u)⟩
theorem Gm{u Z:Nat->Bool}{E:World->Prop}{i F:Nat}{oi:Oper}{v:Value}(hi:ops[i]? =some oi)(af:u i=false)(ab:∀(j:Nat)(o:Oper)cs b,ops[j]? =some o->o.op≠ .select cs b)
  (hQ:∀c a w,Q (.panic c) (a.put oi.dst v) w->Q (.panic c) a w):
  ∀(f:Nat)(d:Array Bool)(a:Act)(w),Xj ops d->
   (((∀w',D w'->E w')/\∀j B,ops[j]? =some B->Z j=true->d.getD j true=false->Xs ops F j i=true)\/∀j B,ops[j]? =some B->u j=true->d.getD j true=false->Xs ops F j i=true)->
   (∀j B,ops[j]? =some B->j≠i->d.getD j true=false->(∀e∈B.after,Region.binds .any e=true->e.on≠i)->oi.apart ops B=true)->
   i∈Region.ready .any ops d->YieldsIf P ops E oi v a->E w->
   Fi P ops Q D u Z f (d.setIfInBounds i true) (a.put oi.dst v) w->Fi P ops Q D u Z (f+1) d a w:=by
 intro f;induction f with
 |zero=>
  intro d a w ac _ _ hr hy hE H;refine⟨λh=>(by rw[h]at hr;cases hr),λj hj=>?_⟩;by_cases q:j=i;·subst q;exact hy.wpOp hi hE ⟨⟨λ_=>rfl,λI _=>(by rw[af]at I;cases I)⟩,H⟩
  .have:=ready_mono hj q;rw[H.1]at this;cases this
 |succ f ih=>
  intro d a w ac U R hr hy hE H;have ah:=(mem_ready.1 hr).1;refine⟨λh=>(by rw[h]at hr;cases hr),λj hj=>?_⟩;by_cases q:j=i;·subst q;exact hy.wpOp hi hE ⟨⟨λ_=>rfl,λI _=>(by rw[af]at I;cases I)⟩,H⟩
  .have I:=H.2 j (ready_mono hj q);obtain⟨z,B,J,aa⟩:=mem_ready.1 hj;have V:Xs ops F j i=true->False:=λhw=>by
    have I:=Yw ac F j i (λo ho e he hb=>by
     have:o=B:=Zs (ho.symm.trans J);subst this;exact aa e he hb) hw
    rw[getD_both ah]at I;cases I
   have ag:∀e∈B.after,Region.binds .any e=true->e.on≠i:=λe he hb ai=>by have I:=aa e he hb;rw[ai,getD_both ah]at I;cases I
   have h2:=wpOp_putIf (S:=E) J (R j B J q z ag) (λcs b=>ab i oi cs b hi) (λcs b=>ab j B cs b J) hQ hy I;have K:∀k,(d.setIfInBounds j true).getD k true=false->d.getD k true=false:=λk h=>by
    by_cases ae:j=k;·subst ae;exact z
    .rwa[getD_set_ne true ae]at h
   refine wpOp_mono (λa' w' h3=>⟨h3.2.1,ih (d.setIfInBounds j true) a' w' (ac.set hj) ?_ ?_ (ready_mono hr (Ne.symm q)) h3.1 ?_ ?_⟩) h2;·exact U.imp (λh=>⟨h.1,λk ok hk hl hu=>h.2 k ok hk hl (K k hu)⟩) λh k ok hk hl hu=>h k ok hk hl (K k hu)
   .exact λk ok hk aj hu V=>R k ok hk aj (K k hu) V
   .cases hl:u j with
    |false=>rw[h3.2.1.1 hl];exact hE
    |true=>
     rcases U with h|h
     .cases hn:Z j with
      |false=>exact h.1 w' (h3.2.1.2 hl hn)
      |true=>exact(V (h.2 j B J hn z)).elim
     .exact(V (h j B J hl z)).elim
   .rw[Array.setIfInBounds_comm _ _ q];exact h3.2.2
def J9(P:Program)(ops:Array Oper)(Q:Exit->Act->World->Prop)(D:World->Prop):List (Nat×Oper)->Act->World->Prop
 |[],a,w=>Q .normal a w
 |(0,o)::r,a,w=>if Region.wanted o (yielded ops a.tmps)then∃v,(execOp a.eval o).run P w=.ok (.value v) w/\J9 P ops Q D r (a.put o.dst v) w else J9 P ops Q D r (a.put o.dst undef) w
 |(1,o)::r,a,w=>if Region.wanted o (yielded ops a.tmps)then∃v,(∀w',D w'->(execOp a.eval o).run P w'=.ok (.value v) w')/\J9 P ops Q D r (a.put o.dst v) w else J9 P ops Q D r (a.put o.dst undef) w
 |(2,o)::r,a,w=>wpList P ops (Exit.then (λc w'=>D w'/\J9 P ops Q D r c w') Q) [o] a w
 |(_+3,o)::r,a,w=>wpList P ops (Exit.then (λc w'=>J9 P ops Q D r c w') Q) [o] a w
def Qh8:List (Nat×Nat)->List Nat
 |[]=>[]
 |(0,_)::r=>Qh8 r
 |(1,_)::r=>Qh8 r
 |(2,_)::r=>Qh8 r
 |(_+3,k)::r=>k::Qh8 r
def Qdn(ops:Array Oper)(d:List Nat)(k:Nat)(c:Array Bool):Bool:=(Region.ready .any ops c).contains k&&Region.free .any ops c k&&((ops[k]?).map (·.dst.isSome)).getD false&&!d.contains k
def xdB(ops:Array Oper)(c d:List Nat):List (Nat×Nat)->Array Bool->Bool
 |[],listed=>(Region.ready .any ops listed).isEmpty
 |(0,k)::r,listed=>Qdn ops c k listed&&(c.all λj=>listed.getD j true||Xs ops ops.size j k)&&xdB ops c d r (listed.setIfInBounds k true)
 |(1,k)::r,listed=>Qdn ops c k listed&&(d.all λj=>listed.getD j true||Xs ops ops.size j k)&&xdB ops c d r (listed.setIfInBounds k true)
 |(2,k)::r,listed=>decide (Region.ready .any ops listed=[k])&&c.contains k&&xdB ops c d r (listed.setIfInBounds k true)
 |(_+3,k)::r,listed=>decide (Region.ready .any ops listed=[k])&&c.contains k&&d.contains k&&(r.all λx=>x.1 != 1)&&xdB ops c d r (listed.setIfInBounds k true)
theorem E7{q:List Nat}{k:Nat}{c:Array Bool}(h:Qdn ops q k c=true):k∈Region.ready .any ops c/\Region.free .any ops c k=true/\q.contains k=false/\∃o d,ops[k]? =some o/\o.dst=some d:=by
 simp only[Qdn,Zw,Bool.not_eq_true']at h;obtain⟨⟨⟨J,E⟩,u⟩,I⟩:=h;have z:k∈Region.ready .any ops c:=by simpa using J
 obtain⟨_,o,B,_⟩:=mem_ready.1 z;rw[B]at u;simp only[Zn,Option.getD_some]at u;obtain⟨d,u⟩:=Option.isSome_iff_exists.1 u;exact⟨z,E,I,o,d,B,u⟩
theorem Qcd{E af:List Nat}(z:Region.noSelect ops=true)(hQ:∀c(a:Act)(d:Tmp)v w,Q (.panic c) (a.put (some d) v) w->Q (.panic c) a w):
  ∀(r:List (Nat×Nat))(q:Array Bool)(a:Act)(w),Xj ops q->(D w\/(r.all λx=>x.1 != 1)=true)->xdB ops E af r q=true->J9 P ops Q D (Jk ops r) a w->
   Fi P ops Q D (λj=>E.contains j) (λj=>af.contains j) r.length q a w
 |[],q,a,w,hcl,U,hB,h=>⟨by simpa[xdB]using hB,h⟩
 |(0,k)::r,q,a,w,hcl,U,hB,h=>by
  simp only[xdB,Zw]at hB;obtain⟨⟨ab,ae⟩,B⟩:=hB;obtain⟨u,hf,K,o,d,I,hd⟩:=E7 ab;rw[Kq I]at h;simp only[J9]at h;have hy:∃v,YieldsIf P ops (λw'=>w'=w) o v a/\J9 P ops Q D (Jk ops r) (a.put o.dst v) w:=by
   by_cases V:Region.wanted o (yielded ops a.tmps)=true;·simp only[V,if_true]at h;obtain⟨v,J,R⟩:=h;exact⟨v,.inl ⟨V,λw' e=>by rw[e];exact J⟩,R⟩
   .simp only[V]at h;exact⟨undef,.inr ⟨by simpa using V,rfl⟩,h⟩
  obtain⟨v,hy,hK⟩:=hy;exact Gm (F:=ops.size) I K (Region.noSelect_spec z) (λc Z w' hq=>by rw[hd]at hq;exact hQ c Z d _ w' hq) _ q a w hcl
   (.inr λj oj hj K hu=>by
    have:=List.all_eq_true.1 ae j (by simpa using K);rw[hu]at this;simpa using this) (Region.free_spec I hf) u hy rfl
   (Qcd z hQ r _ _ w (hcl.set u) (U.imp id λh=>by simpa using h) B hK)
 |(1,k)::r,q,a,w,hcl,U,hB,h=>by
  simp only[xdB,Zw]at hB;obtain⟨⟨ab,ae⟩,B⟩:=hB;have U:D w:=U.elim id λh=>by simp at h
  obtain⟨u,hf,K,o,d,I,hd⟩:=E7 ab;rw[Kq I]at h;simp only[J9]at h;have hy:∃v,YieldsIf P ops D o v a/\J9 P ops Q D (Jk ops r) (a.put o.dst v) w:=by
   by_cases V:Region.wanted o (yielded ops a.tmps)=true;·simp only[V,if_true]at h;obtain⟨v,J,R⟩:=h;exact⟨v,.inl ⟨V,J⟩,R⟩
   .simp only[V]at h;exact⟨undef,.inr ⟨by simpa using V,rfl⟩,h⟩
  obtain⟨v,hy,hK⟩:=hy;exact Gm (F:=ops.size) I K (Region.noSelect_spec z) (λc Z w' hq=>by rw[hd]at hq;exact hQ c Z d _ w' hq) _ q a w hcl
   (.inl ⟨λ_ h=>h,λj oj hj K hu=>by
    have:=List.all_eq_true.1 ae j (by simpa using K);rw[hu]at this;simpa using this⟩) (Region.free_spec I hf) u hy U
   (Qcd z hQ r _ _ w (hcl.set u) (.inl U) B hK)
 |(2,k)::r,q,a,w,hcl,U,hB,h=>by
  simp only[xdB,Zw,decide_eq_true_eq]at hB;obtain⟨⟨J,K⟩,B⟩:=hB;have u:k∈Region.ready .any ops q:=by rw[J];simp
  obtain⟨_,o,I,_⟩:=mem_ready.1 u;rw[Kq I]at h;simp only[J9]at h;refine⟨λR=>(by rw[J]at R;cases R),λi hi=>?_⟩;rw[J]at hi;have aa:i=k:=by simpa using hi
  subst aa;refine wpOp_mono (λZ w' h'=>⟨⟨λh=>absurd (show E.contains i=false from h) (by rw[K];decide),λ_ _=>h'.1⟩,?_⟩) (Ko I h);exact Qcd z hQ r _ Z w' (hcl.set u) (.inl h'.1) B h'.2
 |(n+3,k)::r,q,a,w,hcl,U,hB,h=>by
  simp only[xdB,Zw,decide_eq_true_eq]at hB;obtain⟨⟨⟨⟨J,K⟩,hn⟩,ac⟩,B⟩:=hB;have u:k∈Region.ready .any ops q:=by rw[J];simp
  obtain⟨_,o,I,_⟩:=mem_ready.1 u;rw[Kq I]at h;simp only[J9]at h;refine⟨λR=>(by rw[J]at R;cases R),λi hi=>?_⟩;rw[J]at hi;have aa:i=k:=by simpa using hi
  subst aa;refine wpOp_mono (λZ w' h'=>⟨⟨λh=>absurd (show E.contains i=false from h) (by rw[K];decide),λ_ h=>absurd (show af.contains i=false from h) (by rw[hn];decide)⟩,?_⟩) (Ko I h);exact Qcd z hQ r _ Z w' (hcl.set u) (.inr ac) B h'
theorem Jp{id:Nat}{a:Act}{w}{l:List Oper}(k:List (Nat×Nat))(D:World->Prop)(K:P.follows .mixedOrders=true)
  (z:(Region.noSelect l.toArray&&(decide (k.length=l.toArray.size)&&xdB l.toArray (Rb k) (Qh8 k) k (Array.replicate l.toArray.size false)))=true)
  (J:∀c(a:Act)(d:Tmp)v w,Q (.panic c) (a.put (some d) v) w->Q (.panic c) a w) (I:D w.drew) (h:J9 P l.toArray Q D (Jk l.toArray k) a w.drew):
  (Code.region id l.toArray true).wp P Q a w:=by
 simp only[Zw,decide_eq_true_eq]at z;obtain⟨u,q,z⟩:=z;refine wp_region_any K ?_;have B:Xj l.toArray (Array.replicate l.toArray.size false):=λj R _ E=>by rw[getD_replicate_false]at E;cases E
 have:=Qcd (P:=P) (D:=D) u J k _ a _ B (.inl I) z h;rw[q]at this;exact Mu _ _ _ _ this
variable{r:List (Nat×Oper)}{a:Act}{o:Oper}{w:World}
theorem Ky(h:Q .normal a w):J9 P ops Q D [] a w:=h
theorem Xe{v:Value}(d:Region.wanted o (yielded ops a.tmps)=true:=by as_aux_lemma=>kernel_rfl)(c:(execOp a.eval o).run P w=.ok (.value v) w:=by go_simp;try rfl)(h:J9 P ops Q D r (a.put o.dst v) w):J9 P ops Q D ((0,o)::r) a w:=by simp only[J9,d,if_true];exact⟨v,c,h⟩
theorem Qy{v:Value}(d:Region.wanted o (yielded ops a.tmps)=true:=by as_aux_lemma=>kernel_rfl)(c:∀w',D w'->(execOp a.eval o).run P w'=.ok (.value v) w':=by intros;go_simp;try rfl)(h:J9 P ops Q D r (a.put o.dst v) w):J9 P ops Q D ((1,o)::r) a w:=by simp only[J9,d,if_true];exact⟨v,c,h⟩
theorem Yb(h:wpList P ops (Exit.then (λc w'=>D w'/\J9 P ops Q D r c w') Q) [o] a w):J9 P ops Q D ((2,o)::r) a w:=h
theorem Km(h:wpList P ops (Exit.then (λc w'=>J9 P ops Q D r c w') Q) [o] a w):J9 P ops Q D ((3,o)::r) a w:=h
end
theorem ZC{Q:Exit->Act->World->Prop}{id:Nat}{a:Act}{w:World}{l:List Oper}(p:List Nat)(D:World->Prop)(h:J9 prog l.toArray Q D (Z8 l.toArray p) a w.drew)(hB:(Region.noSelect l.toArray&&(decide ((Z7 p).length=l.toArray.size)&&xdB l.toArray (Rb (Z7 p)) (Qh8 (Z7 p)) (Z7 p) (Array.replicate l.toArray.size false)))=true:=by kernel_rfl)(hQ:∀c (a:Act)(d:Tmp) v w,Q (.panic c) (a.put (some d) v) w->Q (.panic c) a w:=by exact λ_ _ _ _ _ h=>h)(hC:D w.drew:=by exact Z0):(Code.region id l.toArray true).wp prog Q a w:=Jp _ D Zq hB hQ hC (by rw[<-ZA];exact h)
theorem XC{Q:Exit->Act->World->Prop}{id:Nat}{a:Act}{w:World}{l:List Oper}{K:Prop}(p:Nat)(S:Nat->Prop)(u:World)(k:K)(h:K->J9 prog l.toArray Q (λv=>Qc S u v) (Z8 l.toArray (dg l.length p 0)) a w.drew:=by intro k;simp only[dg,List.length_cons,List.length_nil,Z8,Zf,Ze,Zd];exact k)(hB:(Region.noSelect l.toArray&&(decide ((Z7 (dg l.length p 0)).length=l.toArray.size)&&xdB l.toArray (Rb (Z7 (dg l.length p 0))) (Qh8 (Z7 (dg l.length p 0))) (Z7 (dg l.length p 0)) (Array.replicate l.toArray.size false)))=true:=by kernel_rfl)(hQ:∀c (a:Act)(d:Tmp) v w,Q (.panic c) (a.put (some d) v) w->Q (.panic c) a w:=by exact λ_ _ _ _ _ h=>h)(hC:Qc S u w.drew:=by exact Z0):(Code.region id l.toArray true).wp prog Q a w:=ZC (dg l.length p 0) (λv=>Qc S u v) (h k) hB hQ hC
theorem YC{Q:Exit->Act->World->Prop}{id:Nat}{a:Act}{w:World}{l:List Oper}{K:Prop}(p:List Nat)(S:Nat->Prop)(u:World)(k:K)(h:K->J9 prog l.toArray Q (λv=>Qc S u v) (Z8 l.toArray p) a w.drew:=by intro k;simp only[Z8,Zf,Ze,Zd];exact k)(hB:(Region.noSelect l.toArray&&(decide ((Z7 p).length=l.toArray.size)&&xdB l.toArray (Rb (Z7 p)) (Qh8 (Z7 p)) (Z7 p) (Array.replicate l.toArray.size false)))=true:=by kernel_rfl)(hQ:∀c (a:Act)(d:Tmp) v w,Q (.panic c) (a.put (some d) v) w->Q (.panic c) a w:=by exact λ_ _ _ _ _ h=>h)(hC:Qc S u w.drew:=by exact Z0):(Code.region id l.toArray true).wp prog Q a w:=ZC p (λv=>Qc S u v) (h k) hB hQ hC
theorem YA(_:Nat){G K:Prop}(k:K)(q:K->G:=by intro k;(repeat (first|refine Jq (h:=?_)|refine Xe (h:=?_)|(refine Qy (h:=?_);try simp only[Act.put,Za,Zc,Zb])|refine Q8 (h:=?_)));(try simp only[Act.put,Za,Zc,Zb]);(first|refine J7 ?_|refine Yb ?_|refine Km ?_);exact k):G:=q k
theorem YI(_:Nat){G K:Prop}(k:K)(q:K->G:=by intro k;(repeat (first|refine Jq (h:=?_)|refine Xe (h:=?_)|(refine Qy (h:=?_);try simp only[Act.put,Za,Zc,Zb])|refine Q8 (h:=?_)));(try simp only[Act.put,Za,Zc,Zb]);(first|refine J7 ?_|refine Yb ?_|refine Km ?_);go_wp2_with fail;(first|refine Jo ?_|refine Ky ?_);exact k):G:=q k
theorem YK{P:Program}{ops:Array Oper}{Q:Exit->Act->World->Prop}{D F:World->Prop}{o:Oper}{r:List (Nat×Oper)}{a:Act}{w:World}{v:Value}{K:Prop}(f:∀w',D w'->F w')(k:K)(c:∀w',F w'->(execOp a.eval o).run P w'=.ok (.value v) w':=by intros;go_simp;try rfl)(d:Region.wanted o (yielded ops a.tmps)=true:=by as_aux_lemma=>kernel_rfl)(h:K->J9 P ops Q D r (a.put o.dst v) w:=by intro k;(try simp only[Act.put,Za,Zc,Zb]);exact k):J9 P ops Q D ((1,o)::r) a w:=Qy d (λw' k=>c w' (f w' k)) (h k)
section
attribute [local go_sem] Qp
def Dd:Value:=.func (.func 180) #[] #[]
def Vv:Value:=.func (.func 181) #[] #[]
def Yo(n:Nat)(i:Int):Value:=.agg #[ZU n,ZI i]
def Tr.aH:Tr->Value
 | .nil=>.pointer none
 | .aD x _ _ _=>ZP x.a
def It(x:Nd)(c:Bool)(p q:Value):Array Value:=#[ZU x.n,ZI x.i,ZU x.v,ZU x.sv,ZI x.si,.bool c,p,q]
def Qgc(w:World)(b:Nat):Prop:=∃(p:Value)(n:Int),Qh w b #[Dd,Vv,p,ZI n] 269
def Jw(w:World):Tr->Prop
 | .nil=>True
 | .aD x c l r=>Qh w x.a (It x c l.aH r.aH) 267/\Jw w l/\Jw w r
structure Kc(w:World)(b:Nat)(t:Tr):Prop where
 top:Qgc w b
 nd:(b::t.aC).Nodup
 at':Jw w t
theorem Jw.aB{w w'}{S:Fp}(d:Qc S w w'):∀(t:Tr),Jw w t->(∀a∈t.aC,¬S a)->Jw w' t
 | .nil,_,_=>trivial
 | .aD x c l r,⟨h1,h2,h3⟩,hS=>⟨d.blk h1 (hS x.a (by simp[Tr.aC])),Jw.aB d l h2 (λa ha=>hS a (by simp[Tr.aC,ha])),Jw.aB d r h3 (λa ha=>hS a (by simp[Tr.aC,ha]))⟩
theorem Jw.lt{w}:∀(t:Tr),Jw w t->∀a∈t.aC,a<w.heap.size
 | .nil,_,a,h=>by simp[Tr.aC]at h
 | .aD x c l r,⟨h1,h2,h3⟩,a,h=>by
  simp only[Tr.aC,Zl,Zu]at h;rcases h with h|rfl|h;·exact Jw.lt l h2 a h
  .exact h1.lt
  .exact Jw.lt r h3 a h
theorem Qgc.aB{w w'}{S:Fp}{b:Nat}(h:Qgc w b)(d:Qc S w w')(c:¬S b):Qgc w' b:=by obtain⟨p,n,h⟩:=h;exact⟨p,n,d.blk h c⟩
theorem Kc.aB{w w'}{S:Fp}{b:Nat}{t:Tr}(h:Kc w b t)(d:Qc S w w')(c:∀a∈b::t.aC,¬S a):Kc w' b t:=
 ⟨h.top.aB d (c b (List.mem_cons_self)),h.nd,Jw.aB d t h.at' λa ha=>c a (Zr _ ha)⟩
theorem Su(n:Nat)(i:Int)(v:Nat)(w):ZW 180 #[Yo n i,ZU v] w (.agg #[ZU v,ZI i]) λw'=>Qc Qb w w':=by
 unfold Yo;apply WH func180;go_wp2;refine bodyPost_ret (v:=.agg #[ZU v,ZI i]) ?_ rfl ⟨rfl,?_⟩;·simp[*,results,Tryz.results180,go_sem]
 ·(exact Z0)
theorem Qey:prog.eqGuardType prog.depth 205=false:=by kernel_rfl
theorem Qml:prog.stoodInHeld 205=false:=by kernel_rfl
section
attribute [local go_sem] Qey Qml
theorem Qfm(a b c d:Int)(w):(binOp .eql 205 (.agg #[ZU a,ZI b]) (.agg #[ZU c,ZI d])).run prog w=.ok (.bool ((a==c)&&(b==d))) w:=by
 by_cases h:a=c
 .by_cases k:b=d;·subst h k;go_simp
  .subst h;have e:(a==a&&b==d)=false:=by simpa using k
   rw[e];go_simp;try simp[k]
 .have e:(a==c&&b==d)=false:=by simp[h]
  rw[e];go_simp;try simp[h]
end
attribute [local go_sem ↓] Qfm
theorem Qkt(a b:Nat×Int):(a=b/\Xn a b=a)\/(a≠b/\a.1<b.1/\Xn a b=a)\/(a≠b/\a.1=b.1/\a.2<b.2/\Xn a b=a)\/(a.1=b.1/\b.2<a.2/\Xn a b=b)\/(b.1<a.1/\Xn a b=b):=by
 obtain⟨k,q⟩:=a;obtain⟨u,z⟩:=b;unfold Xn;by_cases h:(k,q)=(u,z);·exact .inl ⟨h,if_pos (.inl h)⟩
 .by_cases d:k<u;·exact .inr (.inl ⟨h,d,if_pos (.inr (.inl d))⟩)
  .by_cases c:k=u
   .by_cases B:q<z;·exact .inr (.inr (.inl ⟨h,c,B,if_pos (.inr (.inr ⟨c,B⟩))⟩))
    .refine .inr (.inr (.inr (.inl ⟨c,?_,if_neg (by simp only[not_or];exact⟨h,d,λh=>B h.2⟩)⟩)));have:q≠z:=λe=>h (by rw[c,e]);dsimp only;omega
   .exact .inr (.inr (.inr (.inr ⟨by dsimp only;omega,if_neg (by simp only[not_or];exact⟨h,d,λh=>c h.1⟩)⟩)))
theorem Qag(a b:Nat×Int)(w):ZW 181 #[.agg #[ZU a.1,ZI a.2],.agg #[ZU b.1,ZI b.2]] w (.agg #[ZU ((Xn a b).1:Int),ZI (Xn a b).2]) λw'=>Qc Qb w w':=by
 rcases Qkt a b with⟨h,e⟩|⟨h,u,e⟩|⟨h,u,B,e⟩|⟨u,B,e⟩|⟨u,e⟩;all_goals
  rw[e];clear e;obtain⟨c,d⟩:=a;obtain⟨k,q⟩:=b;dsimp only at*
 .obtain⟨rfl,rfl⟩:c=k/\d=q:=by simpa using h
  have z:((c:Int)==(c:Int))=true:=by simp
  have I:(d==d)=true:=by simp
  clear h;generalize(c:Int)=x at*;go_enter func181,ntmps181;go_wp2;refine bodyPost_ret (v:=.agg #[ZU x,ZI d]) ?_ rfl ⟨rfl,?_⟩;·simp[*,results,Tryz.results181,go_sem]
  ·(exact Z0)
 .have z:((c:Int)==(k:Int))=false:=by simp;omega
  have E:decide ((c:Int)<(k:Int))=true:=by simp;omega
  clear h u;generalize(c:Int)=x at*;generalize(k:Int)=y at*;go_enter func181,ntmps181;go_wp2;refine bodyPost_ret (v:=.agg #[ZU x,ZI d]) ?_ rfl ⟨rfl,?_⟩;·simp[*,results,Tryz.results181,go_sem]
  ·(exact Z0)
 .subst u;have z:((c:Int)==(c:Int))=true:=by simp
  have I:(d==q)=false:=by simp;omega
  have E:decide ((c:Int)<(c:Int))=false:=by simp
  have J:decide (d<q)=true:=by simpa using B
  clear h B;generalize(c:Int)=x at*;go_enter func181,ntmps181;go_wp2;refine bodyPost_ret (v:=.agg #[ZU x,ZI d]) ?_ rfl ⟨rfl,?_⟩;·simp[*,results,Tryz.results181,go_sem]
  ·(exact Z0)
 .subst u;have z:((c:Int)==(c:Int))=true:=by simp
  have I:(d==q)=false:=by simp;omega
  have E:decide ((c:Int)<(c:Int))=false:=by simp
  have J:decide (d<q)=false:=by simp;omega
  clear B;generalize(c:Int)=x at*;go_enter func181,ntmps181;go_wp2;refine bodyPost_ret (v:=.agg #[ZU x,ZI q]) ?_ rfl ⟨rfl,?_⟩;·simp[*,results,Tryz.results181,go_sem]
  ·(exact Z0)
 .have z:((c:Int)==(k:Int))=false:=by simp;omega
  have E:decide ((c:Int)<(k:Int))=false:=by simp;omega
  clear u;generalize(c:Int)=x at*;generalize(k:Int)=y at*;go_enter func181,ntmps181;go_wp2;refine bodyPost_ret (v:=.agg #[ZU y,ZI q]) ?_ rfl ⟨rfl,?_⟩;·simp[*,results,Tryz.results181,go_sem]
  ·(exact Z0)
theorem Cx{P:Program}(w)(d:Nat)(t:TypeId)(ps q:Array TypeId)(u:Bool)(h:P.underlying t=some (.func ps q u))(k:Fn)(c e:Array Value):(Op.equalIn (d+1) t (.func k c e) .nilFunc).run P w=.ok false w:=by simp[Op.equalIn,run_underlying h]
theorem Pf{P:Program}(w)(t:TypeId)(ps q:Array TypeId)(u:Bool)(h:P.underlying t=some (.func ps q u))(k:Fn)(c d:Array Value):(binOp .eql t (.func k c d) .nilFunc).run P w=.ok (.bool false) w:=by simp only[binOp];simp[Op.equal,Op.maxDepth,Cx w 9999 t ps q u h k c d]
theorem Ds(k:Fn)(c d:Array Value)(w):(binOp .eql 241 (.func k c d) .nilFunc).run prog w=.ok (.bool false) w:=Pf w _ _ _ _ underlying241 k c d
theorem Oy(k:Fn)(c d:Array Value)(w):(binOp .eql 242 (.func k c d) .nilFunc).run prog w=.ok (.bool false) w:=Pf w _ _ _ _ underlying242 k c d
attribute [local go_sem] Ds Oy
theorem Od{w}{b:Nat}(h:Qgc w b):ZW 190 #[ptr b] w (.bool false) λw'=>w=w':=by obtain⟨p,n,h⟩:=h;have c:=X9 h;unfold ptr Dd Vv at*;clear h;apply WH func190;exact WE
theorem Kf{w}(t:Tr)(h:Jw w t):ZW 257 #[t.aH] w (.bool t.red) λw'=>w=w':=by
 cases t with
 |nil=> unfold Tr.aH;apply WH func257;exact WE
 |aD x c l r=> have d:=Ja h.1;unfold Tr.aH Tr.red;dsimp only;clear h;apply WH func257;exact WE
theorem Qu2(n:Nat)(i:Int)(x:Nd):(n<x.n/\lt n i x=true)\/(n=x.n/\i<x.i/\lt n i x=true)\/(n=x.n/\¬i<x.i/\lt n i x=false)\/(x.n<n/\lt n i x=false):=by
 unfold lt;by_cases k:n<x.n;·exact .inl ⟨k,by simp[k]⟩
 .by_cases c:n=x.n
  .by_cases d:i<x.i;·exact .inr (.inl ⟨c,d,by simp[c,d]⟩)
   .exact .inr (.inr (.inl ⟨c,d,by simp[c,d]⟩))
  .exact .inr (.inr (.inr ⟨by omega,by simp[k,c]⟩))
theorem Gu(n:Nat)(i:Int)(x:Nd)(w):ZW 235 #[Yo n i,Yo x.n x.i] w (.bool (lt n i x)) λw'=>Qc Qb w w':=by
 have H:=Qu2 n i x;generalize lt n i x=q at*;generalize x.n=m at*;generalize x.i=j at*;unfold Yo;rcases H with⟨h,rfl⟩|⟨h,c,rfl⟩|⟨h,c,rfl⟩|⟨h,rfl⟩
 .have d:decide ((n:Int)<(m:Int))=true:=by simp;omega
  clear h;generalize(n:Int)=n at*;generalize(m:Int)=m at*;apply WH func235;go_wp2;go_ret;refine⟨rfl,?_⟩;(exact Z0)
 .subst h;have d:decide ((n:Int)<(n:Int))=false:=by simp
  have k:((n:Int)==(n:Int))=true:=by simp
  have u:decide (i<j)=true:=by simpa using c
  clear c;generalize(n:Int)=n at*;apply WH func235;go_wp2;go_ret;refine⟨rfl,?_⟩;(exact Z0)
 .subst h;have d:decide ((n:Int)<(n:Int))=false:=by simp
  have k:((n:Int)==(n:Int))=true:=by simp
  have u:decide (i<j)=false:=by simpa using c
  clear c;generalize(n:Int)=n at*;apply WH func235;go_wp2;go_ret;refine⟨rfl,?_⟩;(exact Z0)
 .have d:decide ((n:Int)<(m:Int))=false:=by simp;omega
  have k:((n:Int)==(m:Int))=false:=by simp;omega
  clear h;generalize(n:Int)=n at*;generalize(m:Int)=m at*;apply WH func235;go_wp2;go_ret;refine⟨rfl,?_⟩;(exact Z0)
end
section
attribute [local go_sem] Qp
def Y4(s:Nat×Int):Array Value:=#[ZU s.1,ZI s.2]
theorem Qoz(a b:Nat×Int)(w):ZW 181 #[.agg (Y4 a),.agg (Y4 b)] w (.agg (Y4 (Xn a b))) λw'=>Qc Qb w w':=Qag a b w
theorem El{w}{b:Nat}{x:Nd}{c:Bool}{p q:Value}{n:Int}{pp:Value}(hT:Qh w b #[Dd,Vv,pp,ZI n] 269)(hX:Qh w x.a (It x c p q) 267)(l r:Tr)(hp:p=l.aH)(hq:q=r.aH)(hl:Jw w l)(hr:Jw w r):
  ZW 280 #[ptr b,ptr x.a] w (.agg (Y4 (Pr x l r))) λw'=>Qc Qb w w':=by
 have HO:=O (λw=>Su x.n x.i x.v w);have HL:=O (λw y z=>Qoz y z w);obtain⟨s,ae⟩:=Zx (w.heap.size);have S0:=O (Qh.new w #[ZU 0,ZI 0] 205);have C0:=O ((Zg Qb w).alloc (.cells #[ZU 0,ZI 0] 205));have T0:=O (hT.alloc (.cells #[ZU 0,ZI 0] 205));have X0:=O (hX.alloc (.cells #[ZU 0,ZI 0] 205));have TL:=O (λw'(h:Qc Qb w w')=>Jw.aB h l hl (λ_ _ h=>h));have TR:=O (λw'(h:Qc Qb w w')=>Jw.aB h r hr (λ_ _ h=>h));simp only[<-ae]at S0;have aq:=hT.lt;have ar:=hX.lt;have ao:=O (Jw.lt r hr);unfold ptr Yo at*;clear hl hr hT hX;apply WH func280;go_wp2;rw[<-ae];obtain⟨W,hW⟩:=Zx (w.alloc (.cells #[ZU 0,ZI 0] 205));rw[<-hW]at S0 C0 T0 X0|-;have HS:=O ae;clear hW ae;dsimp only[It,Dd,Vv]at T0 X0;have ai:=O (λ(w')(h:Qc Qb W w')=>(⟨(X9 (h.blk T0.o (λh=>h))).1,(Ja (h.blk X0.o (λh=>h))).1,(Ja (h.blk X0.o (λh=>h))).2.1,(Ja (h.blk X0.o (λh=>h))).2.2.1⟩:w'.cell? ⟨b,0,none⟩=some (.func (.func 180) #[] #[])/\w'.cell? ⟨x.a,0,none⟩=some (ZU x.n)/\w'.cell? ⟨x.a,1,none⟩=some (ZI x.i)/\w'.cell? ⟨x.a,2,none⟩=some (ZU x.v)));go_wp2;go_cut [5] (λs5 wz=>∃q,s5=ZP q/\W.heap.size<=q/\Qh wz q (Y4 (x.v,x.i)) 205/\Qc Qb W wz)
 case first=>
  go_region_held3 (λw':World=>w'.cell? ⟨b,0,none⟩=some (.func (.func 180) #[] #[])/\w'.cell? ⟨x.a,0,none⟩=some (ZU x.n)/\w'.cell? ⟨x.a,1,none⟩=some (ZI x.i)/\w'.cell? ⟨x.a,2,none⟩=some (ZU x.v)) (exact ai.o _ Z0) (first|(go_at_call 180;with_reducible refine(HO.o _).mono ?_;rintro e w2⟨rfl,d2⟩;have c2:Qc Qb W w2:=Qc.aA Z0 d2;have z2:=c2.size;(try(first|have g2:=d2.blk (Qh.new _ #[ZU 0,ZI 0] 205) (λh=>h)|have g2:=d2.blk (Qh.new _ #[ZU 0,ZI 0] 205).drew (λh=>h));have u2:=Q4 g2;have f2:=g2.frozen);clear d2));all_goals go_wp2_with fail
  all_goals go_meet
  all_goals refine⟨_,rfl,?_,?_,?_⟩
  all_goals first|exact(g2.set' 0 _ rfl).set' 1 _ rfl|exact Qh.new _ _ _|skip
  all_goals first|omega|skip
  all_goals(exact Z0)
 case rest=>
  obtain⟨B,rfl,al,af,J⟩:=hcut;obtain⟨W1,aj⟩:=Zx wc;rw[<-aj]at af J|-;clear aj;have T1:=O (J.blk T0.o (λh=>h));have X1:=O (J.blk X0.o (λh=>h));have S1:=O (J.blk S0.o (λh=>h));have C1:=O (C0.o.aA J);have Q1:=O af;have ag:s<B:=Nat.lt_of_lt_of_le S0.o.lt al;have d:=O ag;have ab:Hi (w.heap.size<B):=O (HS.o▸ag);have an:=O (show¬b=B by have:=aq;have:=ab.o;omega);have aa:=O (show¬x.a=B by have:=ar;have:=ab.o;omega);have ac:Hi (s=w.heap.size):=O (HS.o);clear af J ag al;subst hp hq;cases l with
  |nil=>
   cases r with
   |nil=>
    unfold Tr.aH at*;have R:=Ja X1.o;have y0:=Q4 Q1.o;have y2:=Q4 S1.o;have y4:=S1.o.frozen;have n1:¬s=B:=by have:=d.o;omega
    have n2:¬B=s:=by have:=d.o;omega
    go_wp2;refine bodyPost_ret (v:=.agg (Y4 ((x.v,x.i)))) ?_ rfl ⟨rfl,?_⟩;·simp[*,results,Tryz.results280,go_sem,Y4]
    .have cw:=C1.o;have ah:=ac.o;clear y0 y2 y4 n1 n2;(exact Z0)
   |aD z zc zl zr=>
    have R1:=O ((TR.o _ C1.o).1);unfold Tr.aH at*;dsimp only[Y4,It]at*;have R:=Ja X1.o;have E1:=λx=>X9 (Qk (S:=Qb) T1.o (λh=>h) x);have E2:=λx=>Ja (Qk (S:=Qb) X1.o (λh=>h) x);have E3:=λx=>Ja (Qk (S:=Qb) R1.o (λh=>h) x);have E4:=λx=>Q4 (Qk (S:=Qb) Q1.o (λh=>h) x);go_wp2;refine ZE [] [0,1,2,3,4,5,6,7,8,9,10,11] [12] [13] (Qb) W1 ?_;simp only[pick,Zf,Ze,Zd];refine Qg ?_;iterate 12 (refine Ql (λK hK=>?_);go_simp;refine hK _ ?_;clear hK K)
    refine Qg ?_;intro _ I;obtain⟨xo,E⟩:=I;subst E;simp only[Jd];have c3:=O (Qv Qb W1 xo);generalize Qz Qb W1 xo=U1 at c3|-;clear E1 E2 E3 E4 R;go_wp2_with fail;with_reducible apply Zz (HL.o _ (x.v,x.i) (z.sv,z.si))
    intro Y1 d3;have u:=O (c3.o.aA d3);have q4:=O (u.o.blk Q1.o (λh=>h));have y1:=Q4 q4.o;have y3:=q4.o.frozen;clear d3;dsimp only[Y4];go_wp2;refine⟨Qd u.o,?_⟩;have s4:=O (u.o.blk S1.o (λh=>h));have y5:=Q4 s4.o;have y7:=s4.o.frozen;have n1:¬s=B:=by have:=d.o;omega
    have n2:¬B=s:=by have:=d.o;omega
    go_wp2;refine bodyPost_ret (v:=.agg (Y4 (Xn (x.v,x.i) (z.sv,z.si)))) ?_ rfl ⟨rfl,?_⟩;·simp[*,results,Tryz.results280,go_sem,Y4]
    .have cw:=C1.o.aA u.o;have ah:=ac.o;have am:=d.o;clear y1 y3 y5 y7 n1 n2;(exact Z0)
  |aD y yc yl yr=>
   have L1:=O ((TL.o _ C1.o).1);cases r with
   |nil=>
    unfold Tr.aH at*;dsimp only[Y4,It]at*;have R:=Ja X1.o;have E1:=λx=>X9 (Qk (S:=Qb) T1.o (λh=>h) x);have E2:=λx=>Ja (Qk (S:=Qb) X1.o (λh=>h) x);have E3:=λx=>Ja (Qk (S:=Qb) L1.o (λh=>h) x);have E4:=λx=>Q4 (Qk (S:=Qb) Q1.o (λh=>h) x);go_wp2;refine ZE [] [0,1,2,3,4,5,6,7,8,9,10,11] [12] [13] (Qb) W1 ?_;simp only[pick,Zf,Ze,Zd];refine Qg ?_;iterate 12 (refine Ql (λK hK=>?_);go_simp;refine hK _ ?_;clear hK K)
    refine Qg ?_;intro _ I;obtain⟨xo,E⟩:=I;subst E;simp only[Jd];have c3:=O (Qv Qb W1 xo);generalize Qz Qb W1 xo=U1 at c3|-;clear E1 E2 E3 E4 R;go_wp2_with fail;with_reducible apply Zz (HL.o _ (y.sv,y.si) (x.v,x.i))
    intro Y1 d3;have u:=O (c3.o.aA d3);have q4:=O (u.o.blk Q1.o (λh=>h));have y1:=Q4 q4.o;have y3:=q4.o.frozen;clear d3;dsimp only[Y4];go_wp2;refine⟨Qd u.o,?_⟩;have s4:=O (u.o.blk S1.o (λh=>h));have y5:=Q4 s4.o;have y7:=s4.o.frozen;have n1:¬s=B:=by have:=d.o;omega
    have n2:¬B=s:=by have:=d.o;omega
    have R:=Ja (u.o.blk X1.o (λh=>h));have n3:¬x.a=B:=aa.o;have n4:¬B=x.a:=λh=>aa.o h.symm;go_wp2;refine bodyPost_ret (v:=.agg (Y4 (Xn (y.sv,y.si) (x.v,x.i)))) ?_ rfl ⟨rfl,?_⟩;·simp[*,results,Tryz.results280,go_sem,Y4]
    .have cw:=C1.o.aA u.o;have ah:=ac.o;have am:=d.o;clear n3 n4 R y1 y3 y5 y7 n1 n2;(exact Z0)
   |aD z zc zl zr=>
    have R1:=O ((TR.o _ C1.o).1);have ap:Hi (¬z.a=B):=O (λh=>by have:=ab.o;have:=ao.o z.a (by simp[Tr.aC]);omega);unfold Tr.aH at*;dsimp only[Y4,It]at*;have R:=Ja X1.o;have E1:=λx=>X9 (Qk (S:=Qb) T1.o (λh=>h) x);have E2:=λx=>Ja (Qk (S:=Qb) X1.o (λh=>h) x);have E3:=λx=>Ja (Qk (S:=Qb) L1.o (λh=>h) x);have E4:=λx=>Q4 (Qk (S:=Qb) Q1.o (λh=>h) x);go_wp2;refine ZE [] [0,1,2,3,4,5,6,7,8,9,10,11] [12] [13] (Qb) W1 ?_;simp only[pick,Zf,Ze,Zd];refine Qg ?_;iterate 12 (refine Ql (λK hK=>?_);go_simp;refine hK _ ?_;clear hK K)
    refine Qg ?_;intro _ I;obtain⟨xo,E⟩:=I;subst E;simp only[Jd];have c3:=O (Qv Qb W1 xo);generalize Qz Qb W1 xo=U1 at c3|-;clear E1 E2 E3 E4 R;go_wp2_with fail;with_reducible apply Zz (HL.o _ (y.sv,y.si) (x.v,x.i))
    intro Y1 d3;have u:=O (c3.o.aA d3);have q4:=O (u.o.blk Q1.o (λh=>h));have y1:=Q4 q4.o;have y3:=q4.o.frozen;clear d3;dsimp only[Y4];go_wp2;refine⟨Qd u.o,?_⟩;have s4:=O (u.o.blk S1.o (λh=>h));have y5:=Q4 s4.o;have y7:=s4.o.frozen;have n1:¬s=B:=by have:=d.o;omega
    have n2:¬B=s:=by have:=d.o;omega
    have R:=Ja (u.o.blk X1.o (λh=>h));have n3:¬x.a=B:=aa.o;have n4:¬B=x.a:=λh=>aa.o h.symm;go_wp2;clear y1 y3 y5 y7 n1 n2 n3 n4 R;have Q2:=O ((q4.o.set' 0 (ZU ((Xn (y.sv,y.si) (x.v,x.i)).1:Int)) rfl).set' 1 (ZI (Xn (y.sv,y.si) (x.v,x.i)).2) rfl);have D5:=O ((((Zg (λk=>k=B) Y1).setCell (a:=⟨B,0,none⟩) (ZU ((Xn (y.sv,y.si) (x.v,x.i)).1:Int)) (.inl rfl)).setCell (a:=⟨B,1,none⟩) (ZI (Xn (y.sv,y.si) (x.v,x.i)).2) (.inl rfl)));obtain⟨W2,ak⟩:=Zx ((Y1.setCell ⟨B,0,none⟩ (ZU ((Xn (y.sv,y.si) (x.v,x.i)).1:Int))).setCell ⟨B,1,none⟩ (ZI (Xn (y.sv,y.si) (x.v,x.i)).2));rw[<-ak]at Q2 D5|-;clear ak;have T2:=O (D5.o.blk (u.o.blk T1.o (λh=>h)) an.o);have X2:=O (D5.o.blk (u.o.blk X1.o (λh=>h)) aa.o);have R2:=O (D5.o.blk (u.o.blk R1.o (λh=>h)) ap.o);have S2:=O (D5.o.blk s4.o (by have:=d.o;omega));have C2:Hi (Qc Qb w W2):=O ((C1.o.aA u.o).trans D5.o (λk hk=>.inr (by have:=ab.o;omega)));have R:=Ja X2.o;have E1:=λx=>X9 (Qk (S:=Qb) T2.o (λh=>h) x);have E2:=λx=>Ja (Qk (S:=Qb) X2.o (λh=>h) x);have E3:=λx=>Ja (Qk (S:=Qb) R2.o (λh=>h) x);have E4:=λx=>Q4 (Qk (S:=Qb) Q2.o (λh=>h) x);go_wp2;refine ZE [] [0,1,2,3,4,5,6,7,8,9,10,11] [12] [13] (Qb) W2 ?_;simp only[pick,Zf,Ze,Zd];refine Qg ?_;iterate 12 (refine Ql (λK hK=>?_);go_simp;refine hK _ ?_;clear hK K)
    refine Qg ?_;intro _ I;obtain⟨xo,E⟩:=I;subst E;simp only[Jd];have c3:=O (Qv Qb W2 xo);generalize Qz Qb W2 xo=U2 at c3|-;clear E1 E2 E3 E4 R;go_wp2_with fail;with_reducible apply Zz (HL.o _ (Xn (y.sv,y.si) (x.v,x.i)) (z.sv,z.si))
    intro Y2 d3;have u:=O (c3.o.aA d3);have q4:=O (u.o.blk Q2.o (λh=>h));have y1:=Q4 q4.o;have y3:=q4.o.frozen;clear d3;dsimp only[Y4];go_wp2;refine⟨Qd u.o,?_⟩;have s4:=O (u.o.blk S2.o (λh=>h));have y5:=Q4 s4.o;have y7:=s4.o.frozen;have n1:¬s=B:=by have:=d.o;omega
    have n2:¬B=s:=by have:=d.o;omega
    go_wp2;refine bodyPost_ret (v:=.agg (Y4 (Xn (Xn (y.sv,y.si) (x.v,x.i)) (z.sv,z.si)))) ?_ rfl ⟨rfl,?_⟩;·simp[*,results,Tryz.results280,go_sem,Y4]
    .have cw:=C2.o.aA u.o;have ah:=ac.o;have am:=d.o;clear y1 y3 y5 y7 n1 n2;(exact Z0)
theorem Me{w}{b:Nat}{h x:Nd}{c xc:Bool}{u d r:Tr}(hs:Kc w b (.aD h c (.aD x xc u d) r)):
  ZW 269 #[ptr b,ptr h.a] w (ptr x.a) λw'=>Kc w' b (Mp (.aD h c (.aD x xc u d) r))/\Qc (λk=>k=h.a\/k=x.a) w w':=by
 have hN:(b::(Mp (.aD h c (.aD x xc u d) r)).aC).Nodup:=by rw[Ey];exact hs.nd
 have E:=hs.top;obtain⟨⟨pp,nn,hT⟩,af,hH,hA,hB⟩:=hs;obtain⟨hX,ag,ah⟩:=hA;simp only[Tr.aC,List.nodup_cons,Zl,Zu,not_or,List.nodup_append]at af;have z:h.a≠x.a:=by grind
 have an:b≠h.a:=by grind
 have ao:b≠x.a:=by grind
 have sl:∀a∈u.aC,¬(a=h.a\/a=x.a):=by grind
 have sr:∀a∈d.aC,¬(a=h.a\/a=x.a):=by grind
 have so:∀a∈r.aC,¬(a=h.a\/a=x.a):=by grind
 clear af;have KL:=O (λw'(B:Qc (λk=>k=h.a\/k=x.a) w w')=>Jw.aB B u ag sl);have KR:=O (λw'(B:Qc (λk=>k=h.a\/k=x.a) w w')=>Jw.aB B d ah sr);have KO:=O (λw'(B:Qc (λk=>k=h.a\/k=x.a) w w')=>Jw.aB B r hB so);have KT:=O (λw'(B:Qc (λk=>k=h.a\/k=x.a) w w')=>B.blk hT (λe=>e.elim an ao));have ab:=O (λw'(B:Qc (λk=>k=h.a\/k=x.a) w w')=>E.aB B (λe=>e.elim an ao));have HN:=O hN;have J:x.a≠h.a:=Ne.symm z;have F1:∀R,R=(((w.setCell ⟨h.a,6,none⟩ d.aH).setCell ⟨x.a,7,none⟩ (ZP h.a)).setCell ⟨x.a,5,none⟩ (.bool c)).setCell ⟨h.a,5,none⟩ (.bool true)->Qh R h.a (It h true d.aH r.aH) 267/\Qh R x.a (It x c u.aH (ZP h.a)) 267/\Qc (λk=>k=h.a\/k=x.a) w R:=by
  rintro R rfl;refine⟨?_,?_,?_⟩;·exact(((hH.set' 6 _ rfl).other _ J).other _ J).set' 5 _ rfl
  .exact(((hX.other _ z).set' 7 _ rfl).set' 5 _ rfl).other _ z
  .exact((((Zg _ w).setCell _ (.inl (.inl rfl))).setCell _ (.inl (.inr rfl))).setCell _ (.inl (.inr rfl))).setCell _ (.inl (.inl rfl))
 have aa:=O F1;obtain⟨a0,a1,a2,a3,a4,a5,a6,a7⟩:=Ja hH;obtain⟨b0,b1,b2,b3,b4,b5,b6,b7⟩:=Ja hX;have z1:=hH.frozen;have z2:=hX.frozen;have N1:=O z;obtain⟨pm,I⟩:∃pm,d.aH=.pointer pm:=by cases d<;>exact⟨_,rfl⟩
 have ar:=O I;dsimp only[Tr.aH]at a0 a1 a2 a3 a4 a5 a6 a7;rw[I]at aa b7;clear I;clear ag ah hB hT hH hX E hN sl sr so F1;apply WH func269;go_wp2_with fail;generalize ac:(((w.setCell ⟨h.a,6,none⟩ (.pointer pm)).setCell ⟨x.a,7,none⟩ (ZP h.a)).setCell ⟨x.a,5,none⟩ (.bool c)).setCell ⟨h.a,5,none⟩ (.bool true)=R;obtain⟨H1,X1,V⟩:=aa.o _ ac.symm;rw[<-ar.o]at H1;have T1:=KT.o _ V;clear ac a0 a1 a2 a3 a4 a5 a6 a7 b0 b1 b2 b3 b4 b5 b6 b7 z1 z2;have ai:=KR.o _ V;have al:=KO.o _ V;apply Zz (El (p:=d.aH) (q:=r.aH) T1 H1 d r rfl rfl ai al);intro w2 c2;have H2:=O (c2.blk H1 (λh=>h));have X2:=O (c2.blk X1 (λh=>h));have C2:=O (V.trans c2 (λk h=>h.elim));clear T1 H1 X1 V ai al c2;dsimp only[Y4];have FX:∀U,U=(w2.setCell ⟨h.a,3,none⟩ (ZU ((Pr h d r).1:Int))).setCell ⟨h.a,4,none⟩ (ZI (Pr h d r).2)->Qh U h.a (It (h.re d r) true d.aH r.aH) 267/\Qh U x.a (It x c u.aH (ZP h.a)) 267/\Qc (λk=>k=h.a\/k=x.a) w U:=by rintro U rfl;exact⟨(H2.o.set' 3 _ rfl).set' 4 _ rfl,(X2.o.other _ N1.o).other _ N1.o,(C2.o.setCell _ (.inl (.inl rfl))).setCell _ (.inl (.inl rfl))⟩
 have ap:=O FX;have y1:=H2.o.frozen;have a0:=Ja H2.o;clear FX z J;go_wp2_with fail;generalize ae:(w2.setCell ⟨h.a,3,none⟩ (ZU ((Pr h d r).1:Int))).setCell ⟨h.a,4,none⟩ (ZI (Pr h d r).2)=U;obtain⟨H3,X3,K⟩:=ap.o _ ae.symm;have T3:=KT.o _ K;clear ae a0 y1;have aj:=KL.o _ K;have am:=KR.o _ K;have ak:=KO.o _ K;apply Zz (El T3 X3 u (mk h true d r) rfl rfl aj ⟨H3,am,ak⟩);intro w4 c4;have H4:=O (c4.blk H3 (λh=>h));have X4:=O (c4.blk X3 (λh=>h));have C4:=O (K.trans c4 (λk h=>h.elim));clear T3 H3 X3 K aj am ak c4;dsimp only[Y4];have FY:∀W5,W5=(w4.setCell ⟨x.a,3,none⟩ (ZU ((Pr x u (mk h true d r)).1:Int))).setCell ⟨x.a,4,none⟩ (ZI (Pr x u (mk h true d r)).2)->Kc W5 b (Mp (.aD h c (.aD x xc u d) r))/\Qc (λk=>k=h.a\/k=x.a) w W5:=by rintro W5 rfl;have Z:=(C4.o.setCell (a:=⟨x.a,3,none⟩) (ZU ((Pr x u (mk h true d r)).1:Int)) (.inl (.inr rfl))).setCell (a:=⟨x.a,4,none⟩) (ZI (Pr x u (mk h true d r)).2) (.inl (.inr rfl));have X5:=(X4.o.set' 3 (ZU ((Pr x u (mk h true d r)).1:Int)) rfl).set' 4 (ZI (Pr x u (mk h true d r)).2) rfl;have H5:=(H4.o.other (a:=⟨x.a,3,none⟩) (ZU ((Pr x u (mk h true d r)).1:Int)) (Ne.symm N1.o)).other (a:=⟨x.a,4,none⟩) (ZI (Pr x u (mk h true d r)).2) (Ne.symm N1.o);have au:=KL.o _ Z;have aw:=KR.o _ Z;have av:=KO.o _ Z;exact⟨⟨ab.o _ Z,HN.o,X5,au,H5,aw,av⟩,Z⟩
 have aq:=O FY;have y1:=X4.o.frozen;have a0:=Ja X4.o;clear FY;go_wp2;go_ret;exact⟨rfl,aq.o _ rfl⟩
theorem Qdr{w}{b:Nat}{h x:Nd}{c xc:Bool}{l d u:Tr}(hs:Kc w b (.aD h c l (.aD x xc d u))):
  ZW 279 #[ptr b,ptr h.a] w (ptr x.a) λw'=>Kc w' b (Nw (.aD h c l (.aD x xc d u)))/\Qc (λk=>k=h.a\/k=x.a) w w':=by
 have hN:(b::(Nw (.aD h c l (.aD x xc d u))).aC).Nodup:=by rw[Ts];exact hs.nd
 have E:=hs.top;obtain⟨⟨pp,nn,hT⟩,af,hH,hA,hB⟩:=hs;obtain⟨hX,ag,ah⟩:=hB;simp only[Tr.aC,List.nodup_cons,Zl,Zu,not_or,List.nodup_append]at af;have z:h.a≠x.a:=by grind
 have an:b≠h.a:=by grind
 have ao:b≠x.a:=by grind
 have sl:∀a∈d.aC,¬(a=h.a\/a=x.a):=by grind
 have sr:∀a∈u.aC,¬(a=h.a\/a=x.a):=by grind
 have so:∀a∈l.aC,¬(a=h.a\/a=x.a):=by grind
 clear af;have KL:=O (λw'(B:Qc (λk=>k=h.a\/k=x.a) w w')=>Jw.aB B d ag sl);have KR:=O (λw'(B:Qc (λk=>k=h.a\/k=x.a) w w')=>Jw.aB B u ah sr);have KO:=O (λw'(B:Qc (λk=>k=h.a\/k=x.a) w w')=>Jw.aB B l hA so);have KT:=O (λw'(B:Qc (λk=>k=h.a\/k=x.a) w w')=>B.blk hT (λe=>e.elim an ao));have ab:=O (λw'(B:Qc (λk=>k=h.a\/k=x.a) w w')=>E.aB B (λe=>e.elim an ao));have HN:=O hN;have J:x.a≠h.a:=Ne.symm z;have F1:∀R,R=(((w.setCell ⟨h.a,7,none⟩ d.aH).setCell ⟨x.a,6,none⟩ (ZP h.a)).setCell ⟨x.a,5,none⟩ (.bool c)).setCell ⟨h.a,5,none⟩ (.bool true)->Qh R h.a (It h true l.aH d.aH) 267/\Qh R x.a (It x c (ZP h.a) u.aH) 267/\Qc (λk=>k=h.a\/k=x.a) w R:=by
  rintro R rfl;refine⟨?_,?_,?_⟩;·exact(((hH.set' 7 _ rfl).other _ J).other _ J).set' 5 _ rfl
  .exact(((hX.other _ z).set' 6 _ rfl).set' 5 _ rfl).other _ z
  .exact((((Zg _ w).setCell _ (.inl (.inl rfl))).setCell _ (.inl (.inr rfl))).setCell _ (.inl (.inr rfl))).setCell _ (.inl (.inl rfl))
 have aa:=O F1;obtain⟨a0,a1,a2,a3,a4,a5,a6,a7⟩:=Ja hH;obtain⟨b0,b1,b2,b3,b4,b5,b6,b7⟩:=Ja hX;have z1:=hH.frozen;have z2:=hX.frozen;have N1:=O z;obtain⟨pm,I⟩:∃pm,d.aH=.pointer pm:=by cases d<;>exact⟨_,rfl⟩
 have ar:=O I;dsimp only[Tr.aH]at a0 a1 a2 a3 a4 a5 a6 a7;rw[I]at aa b6;clear I;clear ag ah hA hT hH hX E hN sl sr so F1;apply WH func279;go_wp2_with fail;generalize ac:(((w.setCell ⟨h.a,7,none⟩ (.pointer pm)).setCell ⟨x.a,6,none⟩ (ZP h.a)).setCell ⟨x.a,5,none⟩ (.bool c)).setCell ⟨h.a,5,none⟩ (.bool true)=R;obtain⟨H1,X1,V⟩:=aa.o _ ac.symm;rw[<-ar.o]at H1;have T1:=KT.o _ V;clear ac a0 a1 a2 a3 a4 a5 a6 a7 b0 b1 b2 b3 b4 b5 b6 b7 z1 z2;have ai:=KO.o _ V;have al:=KL.o _ V;apply Zz (El (p:=l.aH) (q:=d.aH) T1 H1 l d rfl rfl ai al);intro w2 c2;have H2:=O (c2.blk H1 (λh=>h));have X2:=O (c2.blk X1 (λh=>h));have C2:=O (V.trans c2 (λk h=>h.elim));clear T1 H1 X1 V ai al c2;dsimp only[Y4];have FX:∀U,U=(w2.setCell ⟨h.a,3,none⟩ (ZU ((Pr h l d).1:Int))).setCell ⟨h.a,4,none⟩ (ZI (Pr h l d).2)->Qh U h.a (It (h.re l d) true l.aH d.aH) 267/\Qh U x.a (It x c (ZP h.a) u.aH) 267/\Qc (λk=>k=h.a\/k=x.a) w U:=by rintro U rfl;exact⟨(H2.o.set' 3 _ rfl).set' 4 _ rfl,(X2.o.other _ N1.o).other _ N1.o,(C2.o.setCell _ (.inl (.inl rfl))).setCell _ (.inl (.inl rfl))⟩
 have ap:=O FX;have y1:=H2.o.frozen;have a0:=Ja H2.o;clear FX z J;go_wp2_with fail;generalize ae:(w2.setCell ⟨h.a,3,none⟩ (ZU ((Pr h l d).1:Int))).setCell ⟨h.a,4,none⟩ (ZI (Pr h l d).2)=U;obtain⟨H3,X3,K⟩:=ap.o _ ae.symm;have T3:=KT.o _ K;clear ae a0 y1;have aj:=KL.o _ K;have am:=KR.o _ K;have ak:=KO.o _ K;apply Zz (El T3 X3 (mk h true l d) u rfl rfl ⟨H3,ak,aj⟩ am);intro w4 c4;have H4:=O (c4.blk H3 (λh=>h));have X4:=O (c4.blk X3 (λh=>h));have C4:=O (K.trans c4 (λk h=>h.elim));clear T3 H3 X3 K aj am ak c4;dsimp only[Y4];have FY:∀W5,W5=(w4.setCell ⟨x.a,3,none⟩ (ZU ((Pr x (mk h true l d) u).1:Int))).setCell ⟨x.a,4,none⟩ (ZI (Pr x (mk h true l d) u).2)->Kc W5 b (Nw (.aD h c l (.aD x xc d u)))/\Qc (λk=>k=h.a\/k=x.a) w W5:=by rintro W5 rfl;have Z:=(C4.o.setCell (a:=⟨x.a,3,none⟩) (ZU ((Pr x (mk h true l d) u).1:Int)) (.inl (.inr rfl))).setCell (a:=⟨x.a,4,none⟩) (ZI (Pr x (mk h true l d) u).2) (.inl (.inr rfl));have X5:=(X4.o.set' 3 (ZU ((Pr x (mk h true l d) u).1:Int)) rfl).set' 4 (ZI (Pr x (mk h true l d) u).2) rfl;have H5:=(H4.o.other (a:=⟨x.a,3,none⟩) (ZU ((Pr x (mk h true l d) u).1:Int)) (Ne.symm N1.o)).other (a:=⟨x.a,4,none⟩) (ZI (Pr x (mk h true l d) u).2) (Ne.symm N1.o);have au:=KL.o _ Z;have aw:=KR.o _ Z;have av:=KO.o _ Z;exact⟨⟨ab.o _ Z,HN.o,X5,⟨H5,av,au⟩,aw⟩,Z⟩
 have aq:=O FY;have y1:=X4.o.frozen;have a0:=Ja X4.o;clear FY;go_wp2;go_ret;exact⟨rfl,aq.o _ rfl⟩
theorem Dc{w}{b:Nat}{h y z:Nd}{c J K:Bool}{yl yr zl zr:Tr}(hs:Kc w b (.aD h c (.aD y J yl yr) (.aD z K zl zr))):
  ZW 278 #[ptr h.a] w (.tuple #[]) λw'=>Kc w' b (.aD h (!c) (.aD y (!J) yl yr) (.aD z (!K) zl zr))/\Qc (λk=>k=h.a\/k=y.a\/k=z.a) w w':=by
 have hN:=hs.nd;have d:=hs.top;obtain⟨⟨pp,nn,hT⟩,Z,R,⟨U,aa,ab⟩,V,ac,ae⟩:=hs;simp only[Tr.aC,List.nodup_cons,Zl,Zu,not_or,List.nodup_append]at Z;have u:h.a≠y.a:=by grind
 have B:h.a≠z.a:=by grind
 have E:y.a≠z.a:=by grind
 have nb:¬(b=h.a\/b=y.a\/b=z.a):=by grind
 have s1:∀a∈yl.aC,¬(a=h.a\/a=y.a\/a=z.a):=by grind
 have s2:∀a∈yr.aC,¬(a=h.a\/a=y.a\/a=z.a):=by grind
 have s3:∀a∈zl.aC,¬(a=h.a\/a=y.a\/a=z.a):=by grind
 have s4:∀a∈zr.aC,¬(a=h.a\/a=y.a\/a=z.a):=by grind
 have m1:=Ne.symm u;have m2:=Ne.symm B;have m3:=Ne.symm E;clear Z;have I:∀W w',Qc Qb w W->w'=((W.setCell ⟨h.a,5,none⟩ (.bool (!c))).setCell ⟨y.a,5,none⟩ (.bool (!J))).setCell ⟨z.a,5,none⟩ (.bool (!K))->Kc w' b (.aD h (!c) (.aD y (!J) yl yr) (.aD z (!K) zl zr))/\Qc (λk=>k=h.a\/k=y.a\/k=z.a) w w':=by
  rintro W w' hc rfl;have q:Qc (λk=>k=h.a\/k=y.a\/k=z.a) w (((W.setCell ⟨h.a,5,none⟩ (.bool (!c))).setCell ⟨y.a,5,none⟩ (.bool (!J))).setCell ⟨z.a,5,none⟩ (.bool (!K))):=(((hc.sub (λk h=>h.elim)).setCell _ (.inl (.inl rfl))).setCell _ (.inl (.inr (.inl rfl)))).setCell _ (.inl (.inr (.inr rfl)));refine⟨⟨d.aB q nb,hN,?_,⟨?_,Jw.aB q yl aa s1,Jw.aB q yr ab s2⟩,?_,Jw.aB q zl ac s3,Jw.aB q zr ae s4⟩,q⟩;·exact(((hc.blk R (λh=>h)).set' 5 _ rfl).other _ m1).other _ m2
  .exact(((hc.blk U (λh=>h)).other _ u).set' 5 _ rfl).other _ m3
  .exact(((hc.blk V (λh=>h)).other _ B).other _ E).set' 5 _ rfl
 have HF:=O I;have B1:=O R;have B2:=O U;have B3:=O V;have E1:=Ja R.drew;have E2:=Ja U.drew;have E3:=Ja V.drew;have F3:=O (Zt R.frozen (Zt U.frozen V.frozen));dsimp only[Tr.aH]at E1;unfold ptr;have M:=O (Zt u (Zt B E));clear R U V hT aa ab ac ae d hN s1 s2 s3 s4 nb I u B E m1 m2 m3;apply WH func278;go_wp2;have a0:=E1;have b0:=E2;have d0:=E3;have f1:=F3.o;obtain⟨u,B,E⟩:=M.o;have m1:=Ne.symm u;have m2:=Ne.symm B;have m3:=Ne.symm E;apply XC 300200200100000001000000000000000000000 (λ_=>True) w;apply YA 0;clear a0 b0 d0;have a0:=Ja B1.o;have b0:=Ja B2.o;have d0:=Ja B3.o;go_wp2_with fail;refine⟨(Zg (λ_=>True) w).drew.setCell _ (.inl trivial),?_⟩;apply YA 0;go_wp2_with fail;refine⟨((Zg (λ_=>True) w).drew.setCell _ (.inl trivial)).setCell _ (.inl trivial),?_⟩;apply YI 0;go_wp2;refine WB rfl rfl ⟨rfl,HF.o _ _ (Zg Qb w).drew rfl⟩
theorem Kc.chg{w w'}{b:Nat}{t t':Tr}{S:Fp}(d:Qc S w w')(c:∀k,S k->k∈t.aC):Qc (λk=>k∈t.aC) w w':=d.sub c
theorem Kc.left{w}{b:Nat}{x:Nd}{c:Bool}{l r:Tr}(h:Kc w b (.aD x c l r)):Kc w b l:=⟨h.top,by
 have:=h.nd;simp only[Tr.aC,List.nodup_cons,Zl,Zu,not_or,List.nodup_append]at this|-;grind,h.at'.2.1⟩
theorem Kc.right{w}{b:Nat}{x:Nd}{c:Bool}{l r:Tr}(h:Kc w b (.aD x c l r)):Kc w b r:=⟨h.top,by
 have:=h.nd;simp only[Tr.aC,List.nodup_cons,Zl,Zu,not_or,List.nodup_append]at this|-;grind,h.at'.2.2⟩
theorem Qds{w}{b:Nat}{h:Nd}{c:Bool}{l r:Tr}(B:Kc w b (.aD h c l r))(z:l.red=true):
  Cl 269 #[ptr b,ptr h.a] w λe w'=>e=.returned (Mp (.aD h c l r)).aH/\Kc w' b (Mp (.aD h c l r))/\Qc (λk=>k∈(Tr.aD h c l r).aC) w w':=by
 obtain⟨x,E,I,rfl⟩:=Yg z;apply Zz (Me B);rintro w'⟨d,q⟩;exact⟨rfl,d,q.sub λk u=>by rcases u with rfl|rfl<;>simp[Tr.aC]⟩
theorem Qr3{w}{b:Nat}{h:Nd}{c:Bool}{l r:Tr}(B:Kc w b (.aD h c l r))(z:r.red=true):
  Cl 279 #[ptr b,ptr h.a] w λe w'=>e=.returned (Nw (.aD h c l r)).aH/\Kc w' b (Nw (.aD h c l r))/\Qc (λk=>k∈(Tr.aD h c l r).aC) w w':=by
 obtain⟨x,E,I,rfl⟩:=Yg z;apply Zz (Qdr B);rintro w'⟨d,q⟩;exact⟨rfl,d,q.sub λk u=>by rcases u with rfl|rfl<;>simp[Tr.aC]⟩
theorem Qr2{w}{b:Nat}{h:Nd}{c:Bool}{l r:Tr}(E:Kc w b (.aD h c l r))(z:l.red=true)(B:r.red=true):
  ZW 278 #[ptr h.a] w (.tuple #[]) λw'=>Kc w' b (Cd (.aD h c l r))/\Qc (λk=>k∈(Tr.aD h c l r).aC) w w':=by
 obtain⟨x,I,J,rfl⟩:=Yg z;obtain⟨y,K,R,rfl⟩:=Yg B;apply Zz (Dc E);rintro w'⟨d,q⟩;exact⟨rfl,d,q.sub λk u=>by rcases u with rfl|rfl|rfl<;>simp[Tr.aC]⟩
theorem Qnn(h:Nd)(c:Bool)(l r:Tr):∃h' d k q,s1 (.aD h c l r)=.aD h' d k q:=by
 unfold s1;split
 .unfold Nw;split;·exact⟨_,_,_,_,rfl⟩
  .exact⟨_,_,_,_,rfl⟩
 .exact⟨_,_,_,_,rfl⟩
theorem Qno(h:Nd)(c:Bool)(l r:Tr):∃h' d k q,s2 (.aD h c l r)=.aD h' d k q:=by
 unfold s2;split
 .unfold Mp;split;·exact⟨_,_,_,_,rfl⟩
  .exact⟨_,_,_,_,rfl⟩
 .exact⟨_,_,_,_,rfl⟩
theorem Qnp(h:Nd)(c:Bool)(l r:Tr):∃h' d k q,s3 (.aD h c l r)=.aD h' d k q:=by
 unfold s3;split
 .unfold Cd;split;·exact⟨_,_,_,_,rfl⟩
  .exact⟨_,_,_,_,rfl⟩
 .exact⟨_,_,_,_,rfl⟩
theorem Qqw(t:Tr):(s1 t).aC=t.aC:=by unfold s1;split;exact Ts t;rfl
theorem Qqx(t:Tr):(s2 t).aC=t.aC:=by unfold s2;split;exact Ey t;rfl
theorem Qqy(t:Tr):(s3 t).aC=t.aC:=by unfold s3;split;exact An t;rfl
theorem Kc.left'{w}{b:Nat}{t:Tr}(h:Kc w b t):Jw w t.left:=by
 cases t with
 |nil=>trivial
 |aD x c l r=>exact h.at'.2.1
theorem Ek{w}{b:Nat}{h:Nd}{c:Bool}{l r:Tr}(hs:Kc w b (.aD h c l r)):
  Cl 268 #[ptr b,ptr h.a] w λe w'=>e=.returned (Gs (.aD h c l r)).aH/\Kc w' b (Gs (.aD h c l r))/\Qc (λk=>k∈(Tr.aD h c l r).aC) w w':=by
 have HR:=O (Kf r hs.at'.2.2);have HL:=O (Kf l hs.at'.2.1);have hX:=hs.at'.1;obtain⟨a0,a1,a2,a3,a4,a5,a6,a7⟩:=Ja hX;have H0:=O hs;clear hs hX;go_enter func268,ntmps268;go_upto_region 1 with fail;go_cut [17] (λav R=>av=.bool (r.red&&!l.red)/\R=w)
 case first=>
  cases hr:r.red<;>cases U:l.red;all_goals rw[hr]at HR
  all_goals rw[U]at HL
  all_goals
   go_wp2_with fail;refine Zy HR ?_;rintro w1 rfl;go_wp2_with fail;try
    refine Zy HL ?_;rintro w1 rfl;go_wp2_with fail
   go_meet;exact⟨by rw[hr,U];rfl,rfl⟩
 case rest=>
  obtain⟨rfl,V⟩:=hcut;rw[V];clear V wc a0 a1 a2 a3 a4 a5 a6 a7;go_upto_if 17 with fail;go_cut [1] (λv1 R=>v1=(s1 (.aD h c l r)).aH/\Kc R b (s1 (.aD h c l r))/\Qc (λk=>k∈(Tr.aD h c l r).aC) w R)
  case first=>
   have e0:(Tr.aD h c l r).right.red=r.red:=rfl;have E:(Tr.aD h c l r).left.red=l.red:=rfl;cases z:(r.red&&!l.red)
   .have J:s1 (.aD h c l r)=.aD h c l r:=by unfold s1;rw[e0,E,z];rfl
    go_wp2_with fail;go_meet;rw[J];exact⟨rfl,H0.o,Zg _ _⟩
   .have J:s1 (.aD h c l r)=Nw (.aD h c l r):=by unfold s1;rw[e0,E,z];rfl
    have HC:=O (Qr3 H0.o (by simp at z;exact z.1));unfold ptr at HC;have ES:=O J;clear J e0 E;go_wp2_with fail;refine Zy HC ?_;rintro w1⟨B,c1⟩;have I1:=O (Zt B c1);clear B c1;go_wp2_with fail;go_meet;rw[ES.o];exact⟨rfl,I1.o⟩
  case rest=>
   obtain⟨rfl,B,c1⟩:=hcut;obtain⟨h1,k1,d,r1,E⟩:=Qnn h c l r;have A1:(Tr.aD h1 k1 d r1).aC=(Tr.aD h c l r).aC:=by rw[<-E];exact Qqw _
   have B1:Gs (.aD h c l r)=fin (s3 (s2 (.aD h1 k1 d r1))):=by unfold Gs;rw[E]
   rw[E]at B|-;have ae:=O A1;have am:=O B1;obtain⟨w1,ai⟩:=Zx wc;rw[<-ai]at B c1|-;have ap:=O c1;clear ai A1 B1 E c1;have H1:=O B;have HL:=O (Kf d B.at'.2.1);have ag:=O (Kf d.left B.left.left');obtain⟨a0,a1,a2,a3,a4,a5,a6,a7⟩:=Ja B.at'.1;have LB:d.red=true->∃y yl yr,d=.aD y true yl yr/\Qh w1 y.a (It y true yl.aH yr.aH) 267:=λU=>by obtain⟨y,yl,yr,rfl⟩:=Yg U;exact⟨y,yl,yr,rfl,B.left.at'.1⟩
   have LB:=O LB;clear B;dsimp only[Tr.aH];go_upto_region 3 with fail;go_cut [35] (λvq R=>vq=.bool (d.red&&d.left.red)/\R=w1)
   case first=>
    cases U:d.red;·rw[U]at HL;go_wp2_with fail;refine Zy HL ?_;rintro w2 rfl;go_wp2_with fail;go_meet;exact⟨by rw[U];rfl,rfl⟩
    .obtain⟨y,yl,yr,rfl,hy⟩:=LB.o U;obtain⟨b0,b1,b2,b3,b4,b5,b6,b7⟩:=Ja hy;rw[U]at HL;have ah:(Tr.aD y true yl yr).aH=ZP y.a:=rfl;rw[ah]at a6 HL;dsimp only[Tr.left]at ag;clear hy LB ah;go_wp2_with fail;refine Zy HL ?_;rintro w2 rfl;go_wp2_with fail;refine Zy ag ?_;rintro w2 rfl;go_wp2_with fail;go_meet;exact⟨by rw[U];rfl,rfl⟩
   case rest=>
    obtain⟨rfl,V⟩:=hcut;subst V;clear a0 a1 a2 a3 a4 a5 a6 a7 LB;go_upto_if 35 with fail;go_cut [1] (λv1 R=>v1=(s2 (.aD h1 k1 d r1)).aH/\Kc R b (s2 (.aD h1 k1 d r1))/\Qc (λk=>k∈(Tr.aD h1 k1 d r1).aC) wc R)
    case first=>
     have e0:(Tr.aD h1 k1 d r1).left.red=d.red:=rfl;have E:(Tr.aD h1 k1 d r1).left.left.red=d.left.red:=rfl;cases z:(d.red&&d.left.red)
     .have J:s2 (.aD h1 k1 d r1)=.aD h1 k1 d r1:=by unfold s2;rw[e0,E,z];rfl
      go_wp2_with fail;go_meet;rw[J];exact⟨rfl,H1.o,Zg _ _⟩
     .have J:s2 (.aD h1 k1 d r1)=Mp (.aD h1 k1 d r1):=by unfold s2;rw[e0,E,z];rfl
      have HC:=O (Qds H1.o (by simp at z;exact z.1));unfold ptr at HC;have ES:=O J;clear J e0 E;go_wp2_with fail;refine Zy HC ?_;rintro w2⟨B,c1⟩;have I1:=O (Zt B c1);clear B c1;go_wp2_with fail;go_meet;rw[ES.o];exact⟨rfl,I1.o⟩
    case rest=>
     obtain⟨rfl,i2,c2⟩:=hcut;rw[ae.o]at c2;obtain⟨K,Z,q,u,e2⟩:=Qno h1 k1 d r1;have A2:(Tr.aD K Z q u).aC=(Tr.aD h c l r).aC:=by rw[<-e2,Qqx];exact ae.o
     have B2:Gs (.aD h c l r)=fin (s3 (.aD K Z q u)):=by rw[am.o,e2]
     rw[e2]at i2|-;have af:=O A2;have an:=O B2;obtain⟨w2,aj⟩:=Zx wc;rw[<-aj]at i2 c2|-;have aq:=O (ap.o.aA c2);clear aj A2 B2 e2 c2;have H2:=O i2;have HL:=O (Kf q i2.at'.2.1);have HR:=O (Kf u i2.at'.2.2);obtain⟨a0,a1,a2,a3,a4,a5,a6,a7⟩:=Ja i2.at'.1;clear i2;dsimp only[Tr.aH];go_upto_region 5 with fail;go_cut [50] (λvq R=>vq=.bool (q.red&&u.red)/\R=w2)
     case first=>
      cases U:q.red<;>cases hr:u.red;all_goals rw[hr]at HR
      all_goals rw[U]at HL
      all_goals
       go_wp2_with fail;refine Zy HL ?_;rintro w3 rfl;go_wp2_with fail;try
        refine Zy HR ?_;rintro w3 rfl;go_wp2_with fail
       go_meet;exact⟨by rw[hr,U];rfl,rfl⟩
     case rest=>
      obtain⟨rfl,V⟩:=hcut;subst V;clear a0 a1 a2 a3 a4 a5 a6 a7;go_upto_if 50 with fail;go_cut [1] (λv1 R=>v1=(s3 (.aD K Z q u)).aH/\Kc R b (s3 (.aD K Z q u))/\Qc (λk=>k∈(Tr.aD K Z q u).aC) wc R)
      case first=>
       have e0:(Tr.aD K Z q u).left.red=q.red:=rfl;have E:(Tr.aD K Z q u).right.red=u.red:=rfl;cases z:(q.red&&u.red)
       .have J:s3 (.aD K Z q u)=.aD K Z q u:=by unfold s3;rw[e0,E,z];rfl
        go_wp2_with fail;go_meet;rw[J];exact⟨rfl,H2.o,Zg _ _⟩
       .have J:s3 (.aD K Z q u)=Cd (.aD K Z q u):=by unfold s3;rw[e0,E,z];rfl
        simp only[Zw]at z;have HC:=O (Qr2 H2.o z.1 z.2);have hp:(Cd (.aD K Z q u)).aH=ZP K.a:=by obtain⟨x,xl,xr,rfl⟩:=Yg z.1;obtain⟨y,yl,yr,rfl⟩:=Yg z.2;rfl
        have HP:=O hp;unfold ptr at HC;have ES:=O J;clear J e0 E hp;go_wp2_with fail;refine Zy HC ?_;rintro w3⟨B,c1⟩;have I1:=O (Zt B c1);clear B c1;go_wp2_with fail;go_meet;rw[ES.o,HP.o];exact⟨rfl,I1.o⟩
      case rest=>
       obtain⟨rfl,i3,c3⟩:=hcut;rw[af.o]at c3;obtain⟨I,k3,l3,r3,e3⟩:=Qnp K Z q u;have A3:(Tr.aD I k3 l3 r3).aC=(Tr.aD h c l r).aC:=by rw[<-e3,Qqy];exact af.o
       have B3:Gs (.aD h c l r)=mk I k3 l3 r3:=by rw[an.o,e3];rfl
       rw[e3]at i3|-;have ao:=O B3;have al:=O A3;obtain⟨w3,ak⟩:=Zx wc;rw[<-ak]at i3 c3|-;have ar:=O (aq.o.aA c3);clear ak A3 B3 e3 c3;have H3:=O i3;obtain⟨pp,nn,hT⟩:=i3.top;have HT:=O (El hT i3.at'.1 l3 r3 rfl rfl i3.at'.2.1 i3.at'.2.2);clear i3 hT;have ac:∀w4 w5,Qc Qb w3 w4->w5=(w4.setCell ⟨I.a,3,none⟩ (ZU ((Pr I l3 r3).1:Int))).setCell ⟨I.a,4,none⟩ (ZI (Pr I l3 r3).2)->Kc w5 b (mk I k3 l3 r3)/\Qc (λk=>k∈(Tr.aD h c l r).aC) w w5:=by rintro w4 w5 hc rfl;have aa:Qc (λk=>k=I.a) w3 ((w4.setCell ⟨I.a,3,none⟩ (ZU ((Pr I l3 r3).1:Int))).setCell ⟨I.a,4,none⟩ (ZI (Pr I l3 r3).2)):=((hc.sub (F:=λk=>k=I.a) (λk h=>h.elim)).setCell (a:=⟨I.a,3,none⟩) _ (.inl rfl)).setCell (a:=⟨I.a,4,none⟩) _ (.inl rfl);have hS:=H3.o;have au:=hS.nd;simp only[Tr.aC,List.nodup_cons,Zl,Zu,not_or,List.nodup_append]at au;refine⟨⟨hS.top.aB aa (by grind),hS.nd,((hc.blk hS.at'.1 (λh=>h)).set' 3 _ rfl).set' 4 _ rfl,Jw.aB aa l3 hS.at'.2.1 (by grind),Jw.aB aa r3 hS.at'.2.2 (by grind)⟩,ar.o.aA (aa.sub ?_)⟩;rintro k rfl;rw[<-al.o];simp[Tr.aC]
       have HF:=O ac;have HB:=O (H3.o.at'.1);unfold ptr Y4 at*;clear ac;dsimp only[Tr.aH];go_wp2_with fail;refine Zy HT ?_;intro w4 c4;have C4:=O c4;have ab:=c4.blk HB.o (λh=>h);obtain⟨a0,a1,a2,a3,a4,a5,a6,a7⟩:=Ja ab;have f4:=ab.frozen;clear ab c4;go_wp2;go_ret;rw[ao.o];exact⟨rfl,HF.o _ _ C4.o rfl⟩
theorem Kc.setL{w w1 w2}{b:Nat}{x:Nd}{c:Bool}{l r q:Tr}{S:Fp}(z:Kc w b (.aD x c l r))(R:Kc w1 b q)(I:Qc S w w1)(E:∀k,S k->k∈l.aC)(ha:∀k∈q.aC,k∈l.aC\/w.heap.size<=k)(V:w2=w1.setCell ⟨x.a,6,none⟩ q.aH):Kc w2 b (.aD x c q r)/\Qc (λk=>k∈(Tr.aD x c l r).aC) w w2:=by
 subst V;have U:=z.nd;have Xg:=Jw.lt _ z.at';simp only[Tr.aC,List.nodup_cons,Zl,Zu,not_or,List.nodup_append]at U;simp only[Tr.aC,Zl,Zu]at Xg;have aa:b<w.heap.size:=by obtain⟨p,n,h⟩:=z.top;exact h.lt
 have d:=R.nd;simp only[List.nodup_cons]at d;have hx:x.a∉q.aC:=λh=>by
  rcases ha _ h with h|h;·exact absurd h (by grind)
  .have:=Xg x.a (by simp);omega
 have B:Qc (λk=>k=x.a) w1 (w1.setCell ⟨x.a,6,none⟩ q.aH):=(Zg _ w1).setCell (a:=⟨x.a,6,none⟩) _ (.inl rfl);have hr:Jw w1 r:=Jw.aB I r z.at'.2.2 λa Z h=>by have:=E a h;grind
 refine⟨⟨R.top.aB B (by grind),?_,(I.blk z.at'.1 (λh=>by have:=E _ h;grind)).set' 6 _ rfl,Jw.aB B q R.at' (by grind),Jw.aB B r hr (by grind)⟩,(I.sub λk K=>?_).aA (B.sub λk K=>?_)⟩
 .simp only[Tr.aC,List.nodup_cons,Zl,Zu,not_or,List.nodup_append];refine⟨⟨d.1,by grind,by grind⟩,d.2,⟨by grind,by grind⟩,λa u c J e=>?_⟩;subst e;rcases J with rfl|h;·exact hx u
  .rcases ha _ u with h'|h';·grind
   .have:=Xg a (by simp[h]);omega
 .simp[Tr.aC,E k K]
 .subst K;simp[Tr.aC]
theorem Kc.setR{w w1 w2}{b:Nat}{x:Nd}{c:Bool}{l r q:Tr}{S:Fp}(u:Kc w b (.aD x c l r))(R:Kc w1 b q)(I:Qc S w w1)(B:∀k,S k->k∈r.aC)(ha:∀k∈q.aC,k∈r.aC\/w.heap.size<=k)(V:w2=w1.setCell ⟨x.a,7,none⟩ q.aH):Kc w2 b (.aD x c l q)/\Qc (λk=>k∈(Tr.aD x c l r).aC) w w2:=by
 subst V;have U:=u.nd;have Xg:=Jw.lt _ u.at';simp only[Tr.aC,List.nodup_cons,Zl,Zu,not_or,List.nodup_append]at U;simp only[Tr.aC,Zl,Zu]at Xg;have aa:b<w.heap.size:=by obtain⟨p,n,h⟩:=u.top;exact h.lt
 have d:=R.nd;simp only[List.nodup_cons]at d;have hx:x.a∉q.aC:=λh=>by
  rcases ha _ h with h|h;·exact absurd h (by grind)
  .have:=Xg x.a (by simp);omega
 have z:Qc (λk=>k=x.a) w1 (w1.setCell ⟨x.a,7,none⟩ q.aH):=(Zg _ w1).setCell (a:=⟨x.a,7,none⟩) _ (.inl rfl);have hr:Jw w1 l:=Jw.aB I l u.at'.2.1 λa Z h=>by have:=B a h;grind
 refine⟨⟨R.top.aB z (by grind),?_,(I.blk u.at'.1 (λh=>by have:=B _ h;grind)).set' 7 _ rfl,Jw.aB z l hr (by grind),Jw.aB z q R.at' (by grind)⟩,(I.sub λk K=>?_).aA (z.sub λk K=>?_)⟩
 .simp only[Tr.aC,List.nodup_cons,Zl,Zu,not_or,List.nodup_append];refine⟨⟨by grind,by grind,d.1⟩,by grind,⟨hx,d.2⟩,λa E c J e=>?_⟩;subst e;rcases J with rfl|h;·grind
  .rcases ha _ h with h'|h';·grind
   .have:=Xg a (by simp[E]);omega
 .simp[Tr.aC,B k K]
 .subst K;simp[Tr.aC]
theorem Rq(n:Nat)(i:Int)(v a:Nat)(t:Tr){k:Nat}(h:k∈(t.put n i v a).aC):k=a\/k∈t.aC:=by have:=(Cu n i v a t).mem_iff.1 h;simpa using this
theorem Tr.aS(t:Tr):∃p,t.aH=.pointer p:=by cases t<;>exact⟨_,rfl⟩
theorem Qr4{w}{b:Nat}(U:Kc w b .nil)(n:Nat)(i:Int)(v:Nat):
  Cl 259 #[ptr b,.pointer none,Yo n i,ZU v] w λe w'=>∃a,w.heap.size<=a/\e=.returned (Tr.nil.put n i v a).aH/\Kc w' b (Tr.nil.put n i v a)/\Qc Qb w w':=by
 obtain⟨pp,nn,E⟩:=U.top;have I:=E.lt;have HO:=O (λw=>Su n i v w);obtain⟨k,R⟩:=Zx (w.heap.size);have B:=O (Qh.new w #[ZU n,ZI i] 199);have T0:=O (E.alloc (.cells #[ZU n,ZI i] 199));have Z:=O ((Zg Qb w).alloc (.cells #[ZU n,ZI i] 199));have c:∀w1 w2,Qc Qb w w1->w2=w1.alloc (.cells (It ⟨w1.heap.size,n,i,v,v,i⟩ true (.pointer none) (.pointer none)) 267)->Kc w2 b (Tr.nil.put n i v w1.heap.size)/\Qc Qb w w2/\w.heap.size<=w1.heap.size:=by rintro w1 w2 J rfl;have h1:=J.size;refine⟨⟨U.top.aB (J.alloc _) (λh=>h),?_,Qh.new _ _ _,trivial,trivial⟩,J.alloc _,h1⟩;simp[Tr.put,Tr.aC];omega
 have HF:=O c;simp only[<-R]at B;unfold ptr Yo at*;clear U E I c;apply WH func259;go_wp2_with fail;rw[<-R];obtain⟨W,hW⟩:=Zx (w.alloc (.cells #[ZU n,ZI i] 199));rw[<-hW]at B T0 Z|-;clear hW R;have E1:=λx=>X9 (Qk (S:=Qb) T0.o (λh=>h) x);have E2:=λx=>Q4 (Qk (S:=Qb) B.o (λh=>h) x);unfold Dd at E1;try go_wp2
 refine ZE [] [0,1,2,3,4,5,6,7] [8,9,10,11] [] (Qb) W ?_;simp only[pick,Zf,Ze,Zd];refine Qg ?_;iterate 8 (refine Ql (λK hK=>?_);go_simp;refine hK _ ?_;clear hK K)
 refine Qg ?_;intro _ V;obtain⟨xo,d⟩:=V;subst d;simp only[Jd];have c3:=O (Qv Qb W xo);generalize Qz Qb W xo=w3 at c3|-;clear E1 E2;go_wp2_with fail;apply Zz (HO.o _);intro w4 d4;have u:=O (c3.o.aA d4);have q:=O (HF.o _ _ (Z.o.aA u.o) rfl);have z:=O (u.o.alloc (.cells (It ⟨w4.heap.size,n,i,v,v,i⟩ true (.pointer none) (.pointer none)) 267));clear d4;dsimp only[It]at z q;go_wp2;refine⟨Qd u.o,?_⟩;go_wp2;refine⟨Qd u.o,?_⟩;go_wp2;refine⟨Qd z.o,?_⟩;go_wp2;refine⟨Qd z.o,?_⟩;go_wp2;go_ret;exact⟨_,q.o.2.2,rfl,q.o.1,q.o.2.1⟩
theorem Qu3{w}{b:Nat}{h:Nd}{c:Bool}{l r:Tr}(hs:Kc w b (.aD h c l r))(n:Nat)(i:Int)(v:Nat)(Xg:lt n i h=true)
  (ih:∀w'(ag:Kc w' b l),Cl 259 #[ptr b,l.aH,Yo n i,ZU v] w' λe w2=>∃a,w'.heap.size<=a/\e=.returned (l.put n i v a).aH/\Kc w2 b (l.put n i v a)/\Qc (λk=>k∈l.aC) w' w2):
  Cl 259 #[ptr b,ZP h.a,Yo n i,ZU v] w λe w'=>∃a,w.heap.size<=a/\e=.returned (Tr.put n i v a (.aD h c l r)).aH/\Kc w' b (Tr.put n i v a (.aD h c l r))/\Qc (λk=>k∈(Tr.aD h c l r).aC) w w':=by
 obtain⟨k,d⟩:=Zx (w.heap.size);have hp:∀a,Tr.put n i v a (.aD h c l r)=Gs (.aD h c (l.put n i v a) r):=λa=>by simp[Tr.put,Xg]
 have HP:=O hp;have K0:=O (Qh.new w #[ZU n,ZI i] 199);have C0:=O ((Zg Qb w).alloc (.cells #[ZU n,ZI i] 199));have HS:=O (λw'(hc:Qc Qb w w')=>hs.aB hc (λ_ _ h=>h));have u:=O (λw=>Gu n i h w);rw[Xg]at u;have af:=O d;have IH:=O ih;have U:=Jw.lt _ hs.at';have ae:Hi (∀a∈(Tr.aD h c l r).aC,a≠k):=O (λa ha e=>by have:=U a ha;omega);simp only[<-d]at K0;have V:=hs.nd;simp only[Tr.aC,List.nodup_cons,Zl,Zu,not_or,List.nodup_append]at V;have ab:=O (show h.a∉l.aC by grind);obtain⟨pl,Z⟩:=l.aS;have J:=O Z;unfold ptr Yo at*;clear hs hp ih Xg U V;apply WH func259;go_wp2_with fail;rw[<-d];obtain⟨W,hW⟩:=Zx (w.alloc (.cells #[ZU n,ZI i] 199));rw[<-hW]at K0 C0|-;clear hW d;have S0:=HS.o _ C0.o;have E1:=λx=>Q4 (Qk (S:=Qb) K0.o (λh=>h) x);have E2:=λx=>Ja (Qk (S:=Qb) S0.at'.1 (λh=>h) x);clear S0 Z;refine ZE [] [0,1,2,3,4] [5,6] [] (Qb) W ?_;simp only[pick,Zf,Ze,Zd];refine Qg ?_;iterate 5 (refine Ql (λK hK=>?_);go_simp;refine hK _ ?_;clear hK K)
 refine Qg ?_;intro _ ac;obtain⟨xo,aa⟩:=ac;subst aa;simp only[Jd];have c3:=O (Qv Qb W xo);generalize Qz Qb W xo=w3 at c3|-;clear E1 E2;go_wp2_with fail;apply Z9 (u.o _) (λ_ d4=>c3.o.aA d4);intro w4 c4;go_wp2;refine⟨Qd c4.o,?_⟩;go_wp2;refine⟨Qd c4.o,?_⟩;go_wp2;have K4:=O (c4.o.blk K0.o (λh=>h));have C4:=O (C0.o.aA c4.o);have S4:=O (HS.o _ C4.o);have k0:=Q4 K4.o.drew;have E2:=Ja S4.o.at'.1.drew;rw[J.o]at E2;have y0:=E2;apply XC 300200000001 (λ_=>True) w4;(refine Qy (h:=?_);try simp only[Act.put,Za,Zc,Zb]);iterate 7 (refine Xe (h:=?_))
 clear k0 y0;have C5:=O (C4.o.aA (Zg Qb w4).drew);have S5:=O (HS.o _ C5.o);have E:=IH.o _ S5.o.left;rw[J.o]at E;refine Yb ?_;go_wp2_with fail;refine E.mono ?_;rintro e w6⟨a,ha,rfl,i6,c6⟩;have z6:=O ((Zg (λ_=>True) w4).drew.trans c6 λk _=>.inl trivial);have B6:=c6.blk S5.o.at'.1 ab.o;have a0:=Ja B6;have f6:=B6.frozen;have FX:=O (λw7(e:w7=w6.setCell ⟨h.a,6,none⟩ (l.put n i v a).aH)=>S5.o.setL i6 c6 (λ_ h=>h) (λk d=>(Rq n i v a l d).elim (λe=>.inr (e▸ha)) .inl) e);have HA:=O (Zp C5.o.size ha);obtain⟨q,hq⟩:=(l.put n i v a).aS;rw[hq]at FX|-;clear i6 c6 B6 ha hq E;go_wp2_with fail;refine⟨z6.o,?_⟩;apply YI 0;go_wp2_with fail;obtain⟨w7,B⟩:=Zx (w6.setCell ⟨h.a,6,none⟩ (.pointer q));rw[<-B];obtain⟨i7,c7⟩:=FX.o _ B;have hb:=Ek i7;unfold ptr at hb;clear B a0 f6;apply Zz hb;rintro w8⟨i8,c8⟩;have R:(Tr.aD h c (l.put n i v a) r).aC=(Tr.aD h c (l.put n i v a) r).aC:=rfl;have I:Qc (λk=>k∈(Tr.aD h c l r).aC) w w8:=by
  refine Qc.trans (C5.o.none.aA c7) c8 λk d=>?_;simp only[Tr.aC,Zl,Zu]at d|-;rcases d with d|rfl|d
  .rcases Rq n i v a l d with rfl|d;·exact .inr HA.o
   .exact .inl (.inl d)
  .exact .inl (.inr (.inl rfl))
  .exact .inl (.inr (.inr d))
 have HF:=O I;have HI:=O i8;have z:=HP.o a;rw[<-z]at HI;rw[<-z];clear i8 c8 I i7 c7 hb R z;go_wp2;go_ret;exact⟨a,HA.o,rfl,HI.o,HF.o⟩
theorem Qu4{w}{b:Nat}{h:Nd}{c:Bool}{l r:Tr}(hs:Kc w b (.aD h c l r))(n:Nat)(i:Int)(v:Nat)(Xg:lt n i h=false)
  (ih:∀w'(ag:Kc w' b r),Cl 259 #[ptr b,r.aH,Yo n i,ZU v] w' λe w2=>∃a,w'.heap.size<=a/\e=.returned (r.put n i v a).aH/\Kc w2 b (r.put n i v a)/\Qc (λk=>k∈r.aC) w' w2):
  Cl 259 #[ptr b,ZP h.a,Yo n i,ZU v] w λe w'=>∃a,w.heap.size<=a/\e=.returned (Tr.put n i v a (.aD h c l r)).aH/\Kc w' b (Tr.put n i v a (.aD h c l r))/\Qc (λk=>k∈(Tr.aD h c l r).aC) w w':=by
 obtain⟨k,d⟩:=Zx (w.heap.size);have hp:∀a,Tr.put n i v a (.aD h c l r)=Gs (.aD h c l (r.put n i v a)):=λa=>by simp[Tr.put,Xg]
 have HP:=O hp;have K0:=O (Qh.new w #[ZU n,ZI i] 199);have C0:=O ((Zg Qb w).alloc (.cells #[ZU n,ZI i] 199));have HS:=O (λw'(hc:Qc Qb w w')=>hs.aB hc (λ_ _ h=>h));have u:=O (λw=>Gu n i h w);rw[Xg]at u;have af:=O d;have IH:=O ih;have U:=Jw.lt _ hs.at';have ae:Hi (∀a∈(Tr.aD h c l r).aC,a≠k):=O (λa ha e=>by have:=U a ha;omega);simp only[<-d]at K0;have V:=hs.nd;simp only[Tr.aC,List.nodup_cons,Zl,Zu,not_or,List.nodup_append]at V;have ab:=O (show h.a∉r.aC by grind);obtain⟨pl,Z⟩:=r.aS;have J:=O Z;unfold ptr Yo at*;clear hs hp ih Xg U V;apply WH func259;go_wp2_with fail;rw[<-d];obtain⟨W,hW⟩:=Zx (w.alloc (.cells #[ZU n,ZI i] 199));rw[<-hW]at K0 C0|-;clear hW d;have S0:=HS.o _ C0.o;have E1:=λx=>Q4 (Qk (S:=Qb) K0.o (λh=>h) x);have E2:=λx=>Ja (Qk (S:=Qb) S0.at'.1 (λh=>h) x);clear S0 Z;refine ZE [] [0,1,2,3,4] [5,6] [] (Qb) W ?_;simp only[pick,Zf,Ze,Zd];refine Qg ?_;iterate 5 (refine Ql (λK hK=>?_);go_simp;refine hK _ ?_;clear hK K)
 refine Qg ?_;intro _ ac;obtain⟨xo,aa⟩:=ac;subst aa;simp only[Jd];have c3:=O (Qv Qb W xo);generalize Qz Qb W xo=w3 at c3|-;clear E1 E2;go_wp2_with fail;apply Z9 (u.o _) (λ_ d4=>c3.o.aA d4);intro w4 c4;go_wp2;refine⟨Qd c4.o,?_⟩;go_wp2;refine⟨Qd c4.o,?_⟩;go_wp2;have K4:=O (c4.o.blk K0.o (λh=>h));have C4:=O (C0.o.aA c4.o);have S4:=O (HS.o _ C4.o);have k0:=Q4 K4.o.drew;have E2:=Ja S4.o.at'.1.drew;rw[J.o]at E2;have y0:=E2;apply XC 300200000001 (λ_=>True) w4;(refine Qy (h:=?_);try simp only[Act.put,Za,Zc,Zb]);iterate 7 (refine Xe (h:=?_))
 clear k0 y0;have C5:=O (C4.o.aA (Zg Qb w4).drew);have S5:=O (HS.o _ C5.o);have E:=IH.o _ S5.o.right;rw[J.o]at E;refine Yb ?_;go_wp2_with fail;refine E.mono ?_;rintro e w6⟨a,ha,rfl,i6,c6⟩;have z6:=O ((Zg (λ_=>True) w4).drew.trans c6 λk _=>.inl trivial);have B6:=c6.blk S5.o.at'.1 ab.o;have a0:=Ja B6;have f6:=B6.frozen;have FX:=O (λw7(e:w7=w6.setCell ⟨h.a,7,none⟩ (r.put n i v a).aH)=>S5.o.setR i6 c6 (λ_ h=>h) (λk d=>(Rq n i v a r d).elim (λe=>.inr (e▸ha)) .inl) e);have HA:=O (Zp C5.o.size ha);obtain⟨q,hq⟩:=(r.put n i v a).aS;rw[hq]at FX|-;clear i6 c6 B6 ha hq E;go_wp2_with fail;refine⟨z6.o,?_⟩;apply YI 0;go_wp2_with fail;obtain⟨w7,B⟩:=Zx (w6.setCell ⟨h.a,7,none⟩ (.pointer q));rw[<-B];obtain⟨i7,c7⟩:=FX.o _ B;have hb:=Ek i7;unfold ptr at hb;clear B a0 f6;apply Zz hb;rintro w8⟨i8,c8⟩;have R:(Tr.aD h c l (r.put n i v a)).aC=(Tr.aD h c l (r.put n i v a)).aC:=rfl;have I:Qc (λk=>k∈(Tr.aD h c l r).aC) w w8:=by
  refine Qc.trans (C5.o.none.aA c7) c8 λk d=>?_;simp only[Tr.aC,Zl,Zu]at d|-;rcases d with d|rfl|d;·exact .inl (.inl d)
  .exact .inl (.inr (.inl rfl))
  .rcases Rq n i v a r d with rfl|d;·exact .inr HA.o
   .exact .inl (.inr (.inr d))
 have HF:=O I;have HI:=O i8;have z:=HP.o a;rw[<-z]at HI;rw[<-z];clear i8 c8 I i7 c7 hb R z;go_wp2;go_ret;exact⟨a,HA.o,rfl,HI.o,HF.o⟩
theorem Qas(n:Nat)(i:Int)(v b:Nat):∀(t:Tr)(w)(q:Kc w b t),Cl 259 #[ptr b,t.aH,Yo n i,ZU v] w λe w'=>∃a,w.heap.size<=a/\e=.returned (t.put n i v a).aH/\Kc w' b (t.put n i v a)/\Qc (λk=>k∈t.aC) w w'
 | .nil,w,q=>(Qr4 q n i v).mono λe w'⟨a,z,B,E,I⟩=>⟨a,z,B,E,I.none⟩
 | .aD h c l r,w,q=>by
  cases u:lt n i h with
  |true=>exact Qu3 q n i v u (λw' d=>Qas n i v b l w' d)
  |false=>exact Qu4 q n i v u (λw' d=>Qas n i v b r w' d)
theorem Qk9{w}{b:Nat}{x y z:Nd}{c I q:Bool}{J K d E:Tr}(V:Kc w b (.aD x c (.aD y I J K) (.aD z q d E)))(Z:d.red=false):
  ZW 267 #[ptr b,ptr x.a] w (ptr x.a) λw'=>Kc w' b (.aD x (!c) (.aD y (!I) J K) (.aD z (!q) d E))/\Qc (λk=>k∈(Tr.aD x c (.aD y I J K) (.aD z q d E)).aC) w w':=by
 have HC:=O (Dc V);clear V;apply WH func267;go_wp2_with fail;apply Zy HC;rintro w1⟨B,U⟩;have R:=Kf d B.at'.2.2.2.1;rw[Z]at R;obtain⟨a0,a1,a2,a3,a4,a5,a6,a7⟩:=Ja B.at'.1;have b0:=Ja B.at'.2.2.1;have u:(Tr.aD z (!q) d E).aH=ZP z.a:=rfl;rw[u]at a7;have I1:=O B;have C1:Hi (Qc (λk=>k∈(Tr.aD x c (.aD y I J K) (.aD z q d E)).aC) w w1):=O (U.sub λk hk=>by rcases hk with rfl|rfl|rfl<;>simp[Tr.aC]);clear B U u Z;go_wp2_with fail;apply Zz R;rintro w2 rfl;go_wp2;go_ret;exact⟨rfl,I1.o,C1.o⟩
theorem Qh4{w}{b:Nat}{x y z:Nd}{c q I:Bool}{d E J K:Tr}(V:Kc w b (.aD x c (.aD y q d E) (.aD z I J K)))(Z:d.red=false):
  ZW 270 #[ptr b,ptr x.a] w (ptr x.a) λw'=>Kc w' b (.aD x (!c) (.aD y (!q) d E) (.aD z (!I) J K))/\Qc (λk=>k∈(Tr.aD x c (.aD y q d E) (.aD z I J K)).aC) w w':=by
 have HC:=O (Dc V);clear V;apply WH func270;go_wp2_with fail;apply Zy HC;rintro w1⟨B,U⟩;have R:=Kf d B.at'.2.1.2.1;rw[Z]at R;obtain⟨a0,a1,a2,a3,a4,a5,a6,a7⟩:=Ja B.at'.1;have b0:=Ja B.at'.2.1.1;have u:(Tr.aD y (!q) d E).aH=ZP y.a:=rfl;rw[u]at a6;have I1:=O B;have C1:Hi (Qc (λk=>k∈(Tr.aD x c (.aD y q d E) (.aD z I J K)).aC) w w1):=O (U.sub λk hk=>by rcases hk with rfl|rfl|rfl<;>simp[Tr.aC]);clear B U u Z;go_wp2_with fail;apply Zz R;rintro w2 rfl;go_wp2;go_ret;exact⟨rfl,I1.o,C1.o⟩
theorem Qla{w}{b:Nat}{x y z u:Nd}{c V R:Bool}{yl yr q B U:Tr}(hs:Kc w b (.aD x c (.aD y V yl yr) (.aD z R (.aD u true q B) U))):
  ZW 267 #[ptr b,ptr x.a] w (ptr u.a) λw'=>Kc w' b (Cd (Nw (.aD x (!c) (.aD y (!V) yl yr) (Mp (.aD z (!R) (.aD u true q B) U)))))/\Qc (λk=>k∈(Tr.aD x c (.aD y V yl yr) (.aD z R (.aD u true q B) U)).aC) w w':=by
 have HC:=O (Dc hs);clear hs;apply WH func267;go_wp2_with fail;apply Zy HC;rintro w1⟨K,c1⟩;have HI:=Kf (.aD u true q B) K.at'.2.2.2.1;have I:(Tr.aD u true q B).aH=ZP u.a:=rfl;have ab:(Tr.aD u true q B).red=true:=rfl;rw[ab,I]at HI;obtain⟨a0,a1,a2,a3,a4,a5,a6,a7⟩:=Ja K.at'.1;obtain⟨b0,b1,b2,b3,b4,b5,b6,b7⟩:=Ja K.at'.2.2.1;have aa:(Tr.aD z (!R) (.aD u true q B) U).aH=ZP z.a:=rfl;rw[aa]at a7;rw[I]at b6;have I1:=O K;have HR:=O (Me K.right);have C1:Hi (Qc (λk=>k∈(Tr.aD x c (.aD y V yl yr) (.aD z R (.aD u true q B) U)).aC) w w1):=O (c1.sub λk d=>by rcases d with rfl|rfl|rfl<;>simp[Tr.aC]);have Z:¬(x.a=z.a\/x.a=u.a):=by have:=K.nd;simp only[Tr.aC,List.nodup_cons,Zl,Zu,not_or,List.nodup_append]at this;grind
 have ae:=O Z;clear K c1 aa ab I Z;go_wp2_with fail;apply Zz HI;rintro w2 rfl;go_wp2_with fail;apply Zy HR;rintro w2⟨i2,c2⟩;have B2:=c2.blk I1.o.at'.1 ae.o;have f2:=B2.frozen;have d0:=Ja B2;have FX:=O (λw3(e:w3=w2.setCell ⟨x.a,7,none⟩ (ZP u.a))=>I1.o.setR i2 c2 (λk d=>by rcases d with rfl|rfl<;>simp[Tr.aC]) (λk d=>.inl (by rw[Ey]at d;exact d)) e);clear i2 c2 B2 a0 a1 a2 a3 a4 a5 a6 a7 b0 b1 b2 b3 b4 b5 b6 b7;go_wp2_with fail;obtain⟨w3,J⟩:=Zx (w2.setCell ⟨x.a,7,none⟩ (ZP u.a));rw[<-J];obtain⟨i3,c3⟩:=FX.o _ J;have hb:=Qdr i3;unfold ptr at hb;clear J d0 f2;apply Zz hb;rintro w4⟨i4,c4⟩;have E:=Dc i4;unfold ptr at E;go_wp2_with fail;apply Zz E;rintro w5⟨i5,c5⟩;have ac:Hi (Qc (λk=>k∈(Tr.aD x c (.aD y V yl yr) (.aD z R (.aD u true q B) U)).aC) w w5):=O (((C1.o.aA (c3.sub λk d=>d)).aA (c4.sub λk d=>by rcases d with rfl|rfl<;>simp[Tr.aC,Nd.re])).aA (c5.sub λk d=>by rcases d with rfl|rfl|rfl<;>simp[Tr.aC,Nd.re]));have I5:=O i5;clear i3 c3 i4 c4 i5 c5 hb E;go_wp2;go_ret;exact⟨rfl,I5.o,ac.o⟩
theorem Qh5{w}{b:Nat}{x y z u:Nd}{c I K:Bool}{d q J zl zr:Tr}(hs:Kc w b (.aD x c (.aD y I (.aD u true d q) J) (.aD z K zl zr))):
  ZW 270 #[ptr b,ptr x.a] w (ptr y.a) λw'=>Kc w' b (Cd (Mp (.aD x (!c) (.aD y (!I) (.aD u true d q) J) (.aD z (!K) zl zr))))/\Qc (λk=>k∈(Tr.aD x c (.aD y I (.aD u true d q) J) (.aD z K zl zr)).aC) w w':=by
 have HC:=O (Dc hs);clear hs;apply WH func270;go_wp2_with fail;apply Zy HC;rintro w1⟨Z,c1⟩;have HI:=Kf (.aD u true d q) Z.at'.2.1.2.1;have E:(Tr.aD u true d q).aH=ZP u.a:=rfl;have V:(Tr.aD u true d q).red=true:=rfl;rw[V,E]at HI;obtain⟨a0,a1,a2,a3,a4,a5,a6,a7⟩:=Ja Z.at'.1;obtain⟨b0,b1,b2,b3,b4,b5,b6,b7⟩:=Ja Z.at'.2.1.1;have U:(Tr.aD y (!I) (.aD u true d q) J).aH=ZP y.a:=rfl;rw[U]at a6;rw[E]at b6;have HR:=O (Me Z);have C1:Hi (Qc (λk=>k∈(Tr.aD x c (.aD y I (.aD u true d q) J) (.aD z K zl zr)).aC) w w1):=O (c1.sub λk R=>by rcases R with rfl|rfl|rfl<;>simp[Tr.aC]);clear Z c1 U V E;go_wp2_with fail;apply Zz HI;rintro w2 rfl;go_wp2_with fail;apply Zy HR;rintro w4⟨i4,c4⟩;have B:=Dc i4;unfold ptr at B;clear a0 a1 a2 a3 a4 a5 a6 a7 b0 b1 b2 b3 b4 b5 b6 b7;go_wp2_with fail;apply Zz B;rintro w5⟨i5,c5⟩;have aa:Hi (Qc (λk=>k∈(Tr.aD x c (.aD y I (.aD u true d q) J) (.aD z K zl zr)).aC) w w5):=O ((C1.o.aA (c4.sub λk R=>by rcases R with rfl|rfl<;>simp[Tr.aC])).aA (c5.sub λk R=>by rcases R with rfl|rfl|rfl<;>simp[Tr.aC,Nd.re]));have I5:=O i5;clear i4 c4 i5 c5 B;go_wp2;go_ret;exact⟨rfl,I5.o,aa.o⟩
end
section
def Qnh(Q:Exit->Act->World->Prop):Exit->Act->World->Prop
 | .panic _,_,_=>False
 |e,a,w=>Q e a w
variable{n:Nat}{P:Program}{ops:Array Oper}{Q:Exit->Act->World->Prop}
theorem Sc{id:Nat}{a:Act}{w:World}{l:List Oper}(c:List (Nat×Nat))(k:P.follows .mixedOrders=true)
  (d:(Region.noSelect l.toArray&&(decide (c.length=l.toArray.size)&&xB l.toArray (Rb c) c (Array.replicate l.toArray.size false)))=true)
  (h:Uo n P l.toArray (Qnh Q) (Jk l.toArray c) a w.drew):(Code.region id l.toArray true).wpIn Fence.wide n P Q a w:=
 Code.wpIn_mono (λe a w h=>by cases e<;>first|exact h.elim|exact h) (Lx c k d (λ_ _ _ _ _ h=>h) h)
theorem Qnv{a:Act}{w}(h:Q .normal a w):Uo n P ops (Qnh Q) [] a w:=h
end
end Go.Proofs.YtigcnnkagkbflaaGreat
