/- A part of the proof: no condition. -/
import Derived.Test.YtnnhmpehkbihnaaGreatPs07
namespace Go.Proofs.YtnnhmpehkbihnaaGreat
set_option linter.unusedVariables false
set_option maxRecDepth 100000
set_option maxHeartbeats 4000000
open Go.RowKit
open Go.Proofs.Tryz
section
variable{P:Program}{ops:Array Oper}{Q:Exit→Act→World→Prop}{C:World→Prop}
def Mt(P:Program)(ops:Array Oper)(Q:Exit→Act→World→Prop)(C:World→Prop)(late:Nat→Bool):Nat→Array Bool→Act→World→Prop
 |0,listed,a,w=>Region.ready .any ops listed=[]∧Q .normal a w
 |f+1,listed,a,w=>(Region.ready .any ops listed=[]→Q .normal a w)∧
  ∀i∈Region.ready .any ops listed,wpOp P ops Q i (fun c w'=>(late i=false→C w→C w')∧Mt P ops Q C late f (listed.setIfInBounds i true) c w') a w
theorem Qb8{late:Nat→Bool}:∀(f:Nat)(c:Array Bool)(a:Act)(w),Mt P ops Q C late f c a w→wpAny P .any ops Q f c a w
 |0,_,_,_,h=>h
 |f+1,_,_,_,h=>⟨h.1,fun i hi=>wpOp_mono (fun d w' h'=>Qb8 f _ d w' h'.2) (h.2 i hi)⟩
theorem Qfz{late:Nat→Bool}{D:World→Prop}{i F:Nat}{oi:Oper}{v:Value}(hi:ops[i]? =some oi)(U:∀(j:Nat)(o:Oper)cs b,ops[j]? =some o→o.op≠ .select cs b)
  (hQ:∀c a w,Q (.panic c) (a.put oi.dst v) w→Q (.panic c) a w) (u:(∀w,D w)∨((∀j I,ops[j]? =some I→late j=true→Xs ops F j i=true)∧D=C)):
  ∀(f:Nat)(d:Array Bool)(a:Act)(w),Xj ops d→
   (∀j I,ops[j]? =some I→j≠i→d.getD j true=false→(∀e∈I.after,Region.binds .any e=true→e.on≠i)→oi.apart ops I=true)→
   i∈Region.ready .any ops d→YieldsIf P ops D oi v a→D w→
   Mt P ops Q C late f (d.setIfInBounds i true) (a.put oi.dst v) w→Mt P ops Q C late (f+1) d a w:=by
 intro f;induction f with
 |zero=>
  intro d a w V _ hr hy hC H;refine⟨fun h=>(by rw[h]at hr;cases hr),fun j hj=>?_⟩;by_cases q:j=i;·subst q;exact hy.wpOp hi hC ⟨fun _ h=>h,H⟩
  ·have:=ready_mono hj q;rw[H.1]at this;cases this
 |succ f ih=>
  intro d a w V z hr hy hC H;have E:=(mem_ready.1 hr).1;refine⟨fun h=>(by rw[h]at hr;cases hr),fun j hj=>?_⟩;by_cases q:j=i;·subst q;exact hy.wpOp hi hC ⟨fun _ h=>h,H⟩
  ·have h1:=H.2 j (ready_mono hj q);obtain⟨R,I,B,K⟩:=mem_ready.1 hj;have Z:(∀w,D w)∨(late j=false∧D=C):=by
    rcases u with hD|⟨u,ac⟩;·exact .inl hD
    ·refine .inr ⟨?_,ac⟩;cases hl:late j with
     |false=>rfl
     |true=>
      have h1:=Yw V F j i (fun o ho e he hb=>by
       have:o=I:=Zs (ho.symm.trans B);subst this;exact K e he hb) (u j I B hl)
      rw[getD_both E]at h1;cases h1
   have ab:∀e∈I.after,Region.binds .any e=true→e.on≠i:=fun e he hb ae=>by have h1:=K e he hb;rw[ae,getD_both E]at h1;cases h1
   have h2:=wpOp_putIf (S:=D) B (z j I B q R ab) (fun cs b=>U i oi cs b hi) (fun cs b=>U j I cs b B) hQ hy h1;have J:∀k ok,ops[k]? =some ok→k≠i→(d.setIfInBounds j true).getD k true=false→
     (∀e∈ok.after,Region.binds .any e=true→e.on≠i)→oi.apart ops ok=true:=fun k ok hk af E ag=>by
    refine z k ok hk af ?_ ag;by_cases aa:j=k;·subst aa;exact R
    ·rw[getD_set_ne true aa]at E;exact E
   refine wpOp_mono (fun a' w' h3=>⟨h3.2.1,ih (d.setIfInBounds j true) a' w' (V.set hj) J (ready_mono hr (Ne.symm q)) h3.1 ?_ ?_⟩) h2
   ·rcases Z with hD|⟨Z,rfl⟩;·exact hD _
    ·exact h3.2.1 Z hC
   ·rw[Array.setIfInBounds_comm _ _ q];exact h3.2.2
theorem Qeg{late:Nat→Bool}:∀(d:List Nat)(c:Array Bool)(a:Act)(w),(∀j∈d,late j=true)→Iv ops d c=true→
  wpList P ops Q (pick ops d) a w→Mt P ops Q C late d.length c a w
 |[],c,a,w,_,hB,h=>⟨by simpa[Iv]using hB,h⟩
 |k::d,c,a,w,hl,hB,h=>by
  obtain⟨h1,⟨o,h0⟩,q⟩:=Cz hB;refine⟨fun z=>(by rw[h1]at z;cases z),fun i hi=>?_⟩;rw[h1]at hi;have u:i=k:=by simpa using hi
  subst u;rw[Df h0]at h;have I:wpOp P ops Q i (wpList P ops Q (pick ops d)) a w:=by unfold wpOp;simp only[h0];exact h
  exact wpOp_mono (fun B w' h'=>⟨fun h=>(by rw[hl i (by simp)]at h;cases h),Qeg d _ B w' (fun j E=>hl j (by simp[E])) q h'⟩) I
def Cm(ops:Array Oper)(B:Array Bool→Bool):List Nat→Array Bool→Bool
 |[],listed=>B listed
 |k::ks,listed=>(Region.ready .any ops listed).contains k&&Region.free .any ops listed k&&((ops[k]?).map (·.dst.isSome)).getD false&&Cm ops B ks (listed.setIfInBounds k true)
theorem Mr{late:Nat→Bool}{D:World→Prop}{B:Array Bool→Bool}{R:Act→Prop}{n:Nat}{w}(z:Region.noSelect ops=true)
  (Z:∀c(a:Act)(d:Tmp)v w,Q (.panic c) (a.put (some d) v) w→Q (.panic c) a w)(V:D w):
  ∀(u:List Nat)(q:Array Bool)(a:Act),((∀w,D w)∨((∀k∈u,∀j,late j=true→Xs ops ops.size j k=true)∧D=C))→Xj ops q→
   Cm ops B u q=true→(∀q a,Xj ops q→B q=true→R a→Mt P ops Q C late n q a w)→Yt P ops D R (pick ops u) a→
   Mt P ops Q C late (u.length+n) q a w
 |[],q,a,_,hcl,hB,hR,h=>by simp only[List.length_nil,Nat.zero_add];exact hR q a hcl (by simpa[Cm]using hB) h
 |k::u,q,a,hn,hcl,hB,hR,h=>by
  simp only[Cm,Zw]at hB;obtain⟨⟨⟨hr,hf⟩,I⟩,K⟩:=hB;have E:k∈Region.ready .any ops q:=by simpa using hr
  obtain⟨_,o,h0,_⟩:=mem_ready.1 E;rw[h0]at I;simp only[Zn,Option.getD_some]at I;obtain⟨d,I⟩:=Option.isSome_iff_exists.1 I;rw[Df h0]at h;have U:∃v,YieldsIf P ops D o v a∧Yt P ops D R (pick ops u) (a.put o.dst v):=by
   simp only[Yt]at h;by_cases J:Region.wanted o (yielded ops a.tmps)=true;·simp only[J,if_true]at h;obtain⟨v,h1,h2⟩:=h;exact⟨v,.inl ⟨J,h1⟩,h2⟩
   ·simp only[J]at h;exact⟨undef,.inr ⟨by simpa using J,rfl⟩,h⟩
  obtain⟨v,U,hK⟩:=U;have e:(k::u).length+n=(u.length+n)+1:=by simp;omega
  rw[e];refine Qfz (D:=D) (F:=ops.size) h0 (Region.noSelect_spec z) (fun c a' w' hq=>by rw[I]at hq;exact Z c a' d _ w' hq) (hn.imp id fun h=>⟨fun j oj hj hT=>h.1 k (by simp) j hT,h.2⟩) _ q a w hcl (Region.free_spec h0 hf) E U V
   (Mr z Z V u _ _ (hn.imp id fun h=>⟨fun j hj=>h.1 j (by simp[hj]),h.2⟩) (hcl.set E) K hR hK)
def Qul(ops:Array Oper)(ls ps c:List Nat):Bool:=
 Region.noSelect ops&&decide (ls.length+(ps.length+c.length)=ops.size)&&(c.all fun t=>ls.all fun h=>Xs ops ops.size t h)&&Cm ops (Cm ops (Iv ops c) ps) ls (Array.replicate ops.size false)
theorem Ka{id:Nat}{a:Act}{w}{l:List Oper}(ls ps z:List Nat)(G:World→World)(hm:P.follows .mixedOrders=true)(hB:Qul l.toArray ls ps z=true)
  (hQ:∀c(a:Act)(d:Tmp)v w,Q (.panic c) (a.put (some d) v) w→Q (.panic c) a w)(hG:∃x,w.drew=G x)
  (h:Yt P l.toArray (fun w'=>∃x,w'=G x) (fun B=>Yt P l.toArray (fun _=>True) (fun B=>∀w',(∃x,w'=G x)→wpList P l.toArray Q (pick l.toArray z) B w') (pick l.toArray ps) B) (pick l.toArray ls) a):
  (Code.region id l.toArray true).wp P Q a w:=by
 simp only[Qul,Zw,decide_eq_true_eq]at hB;obtain⟨⟨⟨u,J⟩,aa⟩,Z⟩:=hB;refine wp_region_any hm ?_;have V:Xj l.toArray (Array.replicate l.toArray.size false):=fun j oj _ hl=>by rw[getD_replicate_false]at hl;cases hl
 have hn:∀k∈ls,∀j,decide (j∈z)=true→Xs l.toArray l.toArray.size j k=true:=fun k hk j hj=>List.all_eq_true.1 (List.all_eq_true.1 aa j (by simpa using hj)) k hk;have key:=Mr (P:=P) (Q:=Q) (C:=fun w'=>∃x,w'=G x) (D:=fun w'=>∃x,w'=G x) (late:=fun j=>decide (j∈z)) (n:=ps.length+z.length) u hQ hG ls _ a (.inr ⟨hn,rfl⟩) V Z
  (fun q B I U h'=>Mr (D:=fun _=>True) (n:=z.length) u hQ trivial ps q B (.inl fun _=>trivial) I U (fun q K _ E R=>Qeg z q K _ (fun j hj=>by simpa using hj) E (R _ hG)) h') h
 rw[J]at key;exact Qb8 _ _ _ _ key
end
section
attribute [local go_sem] Qp
theorem Dc{w}{b:Nat}{h y z:Nd}{c cy R:Bool}{yl yr zl zr:Tr}(hs:Kc w b (.aD h c (.aD y cy yl yr) (.aD z R zl zr))):
  Cl 258 #[ptr h.a] w fun e w'=>e=.returned (.tuple #[])∧Kc w' b (.aD h (!c) (.aD y (!cy) yl yr) (.aD z (!R) zl zr))∧Qc (fun k=>k=h.a∨k=y.a∨k=z.a) w w':=by
 have hN:=hs.nd;have q:=hs.top;obtain⟨⟨pp,nn,hT⟩,V,hH,⟨hY,aa,ab⟩,hZ,ac,ae⟩:=hs;simp only[Tr.aC,List.nodup_cons,Zl,Zu,not_or,List.nodup_append]at V;have B:h.a≠y.a:=by grind
 have E:h.a≠z.a:=by grind
 have I:y.a≠z.a:=by grind
 have nb:¬(b=h.a∨b=y.a∨b=z.a):=by grind
 have s1:∀a∈yl.aC,¬(a=h.a∨a=y.a∨a=z.a):=by grind
 have s2:∀a∈yr.aC,¬(a=h.a∨a=y.a∨a=z.a):=by grind
 have s3:∀a∈zl.aC,¬(a=h.a∨a=y.a∨a=z.a):=by grind
 have s4:∀a∈zr.aC,¬(a=h.a∨a=y.a∨a=z.a):=by grind
 have m1:=Ne.symm B;have m2:=Ne.symm E;have m3:=Ne.symm I;clear V;have J:∀W w',Qc Qb w W→w'=((W.setCell ⟨h.a,5,none⟩ (.bool (!c))).setCell ⟨y.a,5,none⟩ (.bool (!cy))).setCell ⟨z.a,5,none⟩ (.bool (!R))→Kc w' b (.aD h (!c) (.aD y (!cy) yl yr) (.aD z (!R) zl zr))∧Qc (fun k=>k=h.a∨k=y.a∨k=z.a) w w':=by
  rintro W w' hc rfl;have u:Qc (fun k=>k=h.a∨k=y.a∨k=z.a) w (((W.setCell ⟨h.a,5,none⟩ (.bool (!c))).setCell ⟨y.a,5,none⟩ (.bool (!cy))).setCell ⟨z.a,5,none⟩ (.bool (!R))):=(((hc.sub (fun k h=>h.elim)).setCell _ (.inl (.inl rfl))).setCell _ (.inl (.inr (.inl rfl)))).setCell _ (.inl (.inr (.inr rfl)));refine⟨⟨q.aB u nb,hN,?_,⟨?_,Jw.aB u yl aa s1,Jw.aB u yr ab s2⟩,?_,Jw.aB u zl ac s3,Jw.aB u zr ae s4⟩,u⟩;·exact(((hc.blk hH (fun h=>h)).set' 5 _ rfl).other _ m1).other _ m2
  ·exact(((hc.blk hY (fun h=>h)).other _ B).set' 5 _ rfl).other _ m3
  ·exact(((hc.blk hZ (fun h=>h)).other _ E).other _ I).set' 5 _ rfl
 have HF:=O J;have B1:=O hH;have B2:=O hY;have B3:=O hZ;have E1:=fun x=>Ja (Qk (S:=Qb) hH (fun h=>h) x);have E2:=fun x=>Ja (Qk (S:=Qb) hY (fun h=>h) x);have E3:=fun x=>Ja (Qk (S:=Qb) hZ (fun h=>h) x);dsimp only[Tr.aH]at E1;unfold ptr;have M:=O (Zt B (Zt E I));clear hH hY hZ hT aa ab ac ae q hN s1 s2 s3 s4 nb J B E I m1 m2 m3;go_enter func258,ntmps258;go_wp2;refine Ka [0,1,2,3,4,5,6,7,8,9,10,11,12,13,14,15,16,17,18,19,20,22,23,24,25,26,27,28,30,31] [21,29] [32,33,34,35,36,37,38] (Qz (Qb) (w)) Zq (by kernel_rfl) (fun _ _ _ _ _ h=>h) (Qd (Zj (Zg _ _))) ?_;simp only[pick,Zf,Ze,Zd];iterate 30 (refine Ql (fun K U=>?_);go_simp;refine U _ ?_;clear U K)
 refine Qg ?_;iterate 2 (refine Ql (fun K U=>?_);go_simp;refine U _ ?_;clear U K)
 refine Qg ?_;intro _ af;obtain⟨xo,Z⟩:=af;subst Z;have d:=O (Qv Qb w xo);generalize Qz Qb w xo=W at d⊢;clear E1 E2 E3;obtain⟨a0,a1,a2,a3,a4,a5,a6,a7⟩:=Ja (d.o.blk B1.o (fun h=>h));obtain⟨b0,b1,b2,b3,b4,b5,b6,b7⟩:=Ja (d.o.blk B2.o (fun h=>h));obtain⟨d0,d1,d2,d3,d4,d5,d6,d7⟩:=Ja (d.o.blk B3.o (fun h=>h));have f1:=(d.o.blk B1.o (fun h=>h)).frozen;have f2:=(d.o.blk B2.o (fun h=>h)).frozen;have f3:=(d.o.blk B3.o (fun h=>h)).frozen;obtain⟨B,E,I⟩:=M.o;have m1:=Ne.symm B;have m2:=Ne.symm E;have m3:=Ne.symm I;go_wp2;exact bodyPost_end (results_none rfl _ _ _) rfl ⟨rfl,HF.o _ _ d.o rfl⟩
theorem Kc.left{w}{b:Nat}{x:Nd}{c:Bool}{l r:Tr}(h:Kc w b (.aD x c l r)):Kc w b l:=⟨h.top,by
 have:=h.nd;simp only[Tr.aC,List.nodup_cons,Zl,Zu,not_or,List.nodup_append]at this⊢;grind,h.at'.2.1⟩
theorem Kc.right{w}{b:Nat}{x:Nd}{c:Bool}{l r:Tr}(h:Kc w b (.aD x c l r)):Kc w b r:=⟨h.top,by
 have:=h.nd;simp only[Tr.aC,List.nodup_cons,Zl,Zu,not_or,List.nodup_append]at this⊢;grind,h.at'.2.2⟩
theorem Qds{w}{b:Nat}{h:Nd}{c:Bool}{l r:Tr}(hs:Kc w b (.aD h c l r))(hl:l.red=true):
  Cl 247 #[ptr b,ptr h.a] w fun e w'=>e=.returned (Mp (.aD h c l r)).aH∧Kc w' b (Mp (.aD h c l r))∧Qc (fun k=>k∈(Tr.aD h c l r).aC) w w':=by
 obtain⟨x,u,z,rfl⟩:=Yg hl;refine Zz (Me hs) ?_;rintro w'⟨h1,d⟩;exact⟨rfl,h1,d.sub fun k q=>by rcases q with rfl|rfl<;>simp[Tr.aC]⟩
theorem Qr3{w}{b:Nat}{h:Nd}{c:Bool}{l r:Tr}(hs:Kc w b (.aD h c l r))(hl:r.red=true):
  Cl 259 #[ptr b,ptr h.a] w fun e w'=>e=.returned (Nw (.aD h c l r)).aH∧Kc w' b (Nw (.aD h c l r))∧Qc (fun k=>k∈(Tr.aD h c l r).aC) w w':=by
 obtain⟨x,u,z,rfl⟩:=Yg hl;refine Zz (Qdr hs) ?_;rintro w'⟨h1,d⟩;exact⟨rfl,h1,d.sub fun k q=>by rcases q with rfl|rfl<;>simp[Tr.aC]⟩
theorem Qr2{w}{b:Nat}{h:Nd}{c:Bool}{l r:Tr}(hs:Kc w b (.aD h c l r))(hl:l.red=true)(hr:r.red=true):
  Cl 258 #[ptr h.a] w fun e w'=>e=.returned (.tuple #[])∧Kc w' b (Cd (.aD h c l r))∧Qc (fun k=>k∈(Tr.aD h c l r).aC) w w':=by
 obtain⟨x,u,z,rfl⟩:=Yg hl;obtain⟨y,yl,yr,rfl⟩:=Yg hr;refine Zz (Dc hs) ?_;rintro w'⟨h1,d⟩;exact⟨rfl,h1,d.sub fun k q=>by rcases q with rfl|rfl|rfl<;>simp[Tr.aC]⟩
theorem Qnn(h:Nd)(c:Bool)(l r:Tr):∃h' c' l' d,s1 (.aD h c l r)=.aD h' c' l' d:=by
 unfold s1;split
 ·unfold Nw;split;·exact⟨_,_,_,_,rfl⟩
  ·exact⟨_,_,_,_,rfl⟩
 ·exact⟨_,_,_,_,rfl⟩
theorem Qno(h:Nd)(c:Bool)(l r:Tr):∃h' c' l' d,s2 (.aD h c l r)=.aD h' c' l' d:=by
 unfold s2;split
 ·unfold Mp;split;·exact⟨_,_,_,_,rfl⟩
  ·exact⟨_,_,_,_,rfl⟩
 ·exact⟨_,_,_,_,rfl⟩
theorem Qnp(h:Nd)(c:Bool)(l r:Tr):∃h' c' l' d,s3 (.aD h c l r)=.aD h' c' l' d:=by
 unfold s3;split
 ·unfold Cd;split;·exact⟨_,_,_,_,rfl⟩
  ·exact⟨_,_,_,_,rfl⟩
 ·exact⟨_,_,_,_,rfl⟩
theorem Qqw(t:Tr):(s1 t).aC=t.aC:=by unfold s1;split;exact Ts t;rfl
theorem Qqx(t:Tr):(s2 t).aC=t.aC:=by unfold s2;split;exact Ey t;rfl
theorem Qqy(t:Tr):(s3 t).aC=t.aC:=by unfold s3;split;exact An t;rfl
theorem Kc.left'{w}{b:Nat}{t:Tr}(h:Kc w b t):Jw w t.left:=by
 cases t with
 |nil=>trivial
 |aD x c l r=>exact h.at'.2.1
theorem Ek{w}{b:Nat}{h:Nd}{c:Bool}{l r:Tr}(hs:Kc w b (.aD h c l r)):
  Cl 246 #[ptr b,ptr h.a] w fun e w'=>e=.returned (Gs (.aD h c l r)).aH∧Kc w' b (Gs (.aD h c l r))∧Qc (fun k=>k∈(Tr.aD h c l r).aC) w w':=by
 have HR:=O (Kf r hs.at'.2.2);have B:=O (Kf l hs.at'.2.1);have hX:=hs.at'.1;obtain⟨a0,a1,a2,a3,a4,a5,a6,a7⟩:=Ja hX;have H0:=O hs;unfold ptr at*;clear hs hX;go_enter func246,ntmps246;go_upto_region 1 with fail;go_cut [17] (fun au J=>au=.bool (r.red&&!l.red)∧J=w)
 case first=>
  cases hr:r.red<;>cases hl:l.red;all_goals rw[hr]at HR
  all_goals rw[hl]at B
  all_goals
   go_wp2_with fail;refine Zy HR ?_;rintro w1 rfl;go_wp2_with fail;try
    refine Zy B ?_;rintro w1 rfl;go_wp2_with fail
   go_meet;exact⟨by rw[hr,hl];rfl,rfl⟩
 case rest=>
  obtain⟨rfl,K⟩:=hcut;rw[K];clear K wc a0 a1 a2 a3 a4 a5 a6 a7 B HR;go_upto_if 17 with fail;go_cut [1] (fun v1 J=>v1=(s1 (.aD h c l r)).aH∧Kc J b (s1 (.aD h c l r))∧Qc (fun k=>k∈(Tr.aD h c l r).aC) w J)
  case first=>
   have V:(Tr.aD h c l r).right.red=r.red:=rfl;have e1:(Tr.aD h c l r).left.red=l.red:=rfl;cases q:(r.red&&!l.red)
   ·have E:s1 (.aD h c l r)=.aD h c l r:=by unfold s1;rw[V,e1,q];rfl
    go_wp2_with fail;go_meet;rw[E];exact⟨rfl,H0.o,Zg _ _⟩
   ·have E:s1 (.aD h c l r)=Nw (.aD h c l r):=by unfold s1;rw[V,e1,q];rfl
    have HC:=O (Qr3 H0.o (by simp at q;exact q.1));unfold ptr at HC;have ES:=O E;clear E V e1;go_wp2_with fail;refine Zy HC ?_;rintro w1⟨u,R⟩;have I1:=O (Zt u R);clear u R;go_wp2_with fail;go_meet;rw[ES.o];exact⟨rfl,I1.o⟩
  case rest=>
   obtain⟨rfl,u,R⟩:=hcut;obtain⟨h1,k1,l1,U,e1⟩:=Qnn h c l r;have A1:(Tr.aD h1 k1 l1 U).aC=(Tr.aD h c l r).aC:=by rw[←e1];exact Qqw _
   have B1:Gs (.aD h c l r)=fin (s3 (s2 (.aD h1 k1 l1 U))):=by unfold Gs;rw[e1]
   rw[e1]at u⊢;have aa:=O A1;have ag:=O B1;obtain⟨w1,al⟩:=Zx wc;rw[←al]at u R⊢;have ai:=O R;clear al A1 B1 e1 H0 R;have H1:=O u;have B:=O (Kf l1 u.at'.2.1);have ac:=O (Kf l1.left u.left.left');obtain⟨a0,a1,a2,a3,a4,a5,a6,a7⟩:=Ja u.at'.1;have LB:l1.red=true→∃y yl yr,l1=.aD y true yl yr∧Qh w1 y.a (It y true yl.aH yr.aH) 258:=fun hl=>by obtain⟨y,yl,yr,rfl⟩:=Yg hl;exact⟨y,yl,yr,rfl,u.left.at'.1⟩
   have LB:=O LB;clear u;dsimp only[Tr.aH];go_upto_region 3 with fail;go_cut [35] (fun vq J=>vq=.bool (l1.red&&l1.left.red)∧J=w1)
   case first=>
    cases hl:l1.red;·rw[hl]at B;go_wp2_with fail;refine Zy B ?_;rintro w2 rfl;go_wp2_with fail;go_meet;exact⟨by rw[hl];rfl,rfl⟩
    ·obtain⟨y,yl,yr,rfl,hy⟩:=LB.o hl;obtain⟨b0,b1,b2,b3,b4,b5,b6,b7⟩:=Ja hy;rw[hl]at B;have ak:(Tr.aD y true yl yr).aH=.pointer (some ⟨y.a,0,none⟩):=rfl;rw[ak]at a6 B;dsimp only[Tr.left]at ac;clear hy LB ak;go_wp2_with fail;refine Zy B ?_;rintro w2 rfl;go_wp2_with fail;refine Zy ac ?_;rintro w2 rfl;go_wp2_with fail;go_meet;exact⟨by rw[hl];rfl,rfl⟩
   case rest=>
    obtain⟨rfl,K⟩:=hcut;subst K;clear a0 a1 a2 a3 a4 a5 a6 a7 B ac LB;go_upto_if 35 with fail;go_cut [1] (fun v1 J=>v1=(s2 (.aD h1 k1 l1 U)).aH∧Kc J b (s2 (.aD h1 k1 l1 U))∧Qc (fun k=>k∈(Tr.aD h1 k1 l1 U).aC) wc J)
    case first=>
     have V:(Tr.aD h1 k1 l1 U).left.red=l1.red:=rfl;have e1:(Tr.aD h1 k1 l1 U).left.left.red=l1.left.red:=rfl;cases q:(l1.red&&l1.left.red)
     ·have E:s2 (.aD h1 k1 l1 U)=.aD h1 k1 l1 U:=by unfold s2;rw[V,e1,q];rfl
      go_wp2_with fail;go_meet;rw[E];exact⟨rfl,H1.o,Zg _ _⟩
     ·have E:s2 (.aD h1 k1 l1 U)=Mp (.aD h1 k1 l1 U):=by unfold s2;rw[V,e1,q];rfl
      have HC:=O (Qds H1.o (by simp at q;exact q.1));unfold ptr at HC;have ES:=O E;clear E V e1;go_wp2_with fail;refine Zy HC ?_;rintro w2⟨u,R⟩;have I1:=O (Zt u R);clear u R;go_wp2_with fail;go_meet;rw[ES.o];exact⟨rfl,I1.o⟩
    case rest=>
     obtain⟨rfl,i2,c2⟩:=hcut;rw[aa.o]at c2;obtain⟨I,k2,l2,d,e2⟩:=Qno h1 k1 l1 U;have A2:(Tr.aD I k2 l2 d).aC=(Tr.aD h c l r).aC:=by rw[←e2,Qqx];exact aa.o
     have B2:Gs (.aD h c l r)=fin (s3 (.aD I k2 l2 d)):=by rw[ag.o,e2]
     rw[e2]at i2⊢;have ab:=O A2;have ah:=O B2;obtain⟨w2,am⟩:=Zx wc;rw[←am]at i2 c2⊢;have aj:=O (ai.o.aA c2);clear am A2 B2 e2 aa ag H1 ai c2;have H2:=O i2;have B:=O (Kf l2 i2.at'.2.1);have HR:=O (Kf d i2.at'.2.2);obtain⟨a0,a1,a2,a3,a4,a5,a6,a7⟩:=Ja i2.at'.1;clear i2;dsimp only[Tr.aH];go_upto_region 5 with fail;go_cut [50] (fun vq J=>vq=.bool (l2.red&&d.red)∧J=w2)
     case first=>
      cases hl:l2.red<;>cases hr:d.red;all_goals rw[hr]at HR
      all_goals rw[hl]at B
      all_goals
       go_wp2_with fail;refine Zy B ?_;rintro w3 rfl;go_wp2_with fail;try
        refine Zy HR ?_;rintro w3 rfl;go_wp2_with fail
       go_meet;exact⟨by rw[hr,hl];rfl,rfl⟩
     case rest=>
      obtain⟨rfl,K⟩:=hcut;subst K;clear a0 a1 a2 a3 a4 a5 a6 a7 B HR;go_upto_if 50 with fail;go_cut [1] (fun v1 J=>v1=(s3 (.aD I k2 l2 d)).aH∧Kc J b (s3 (.aD I k2 l2 d))∧Qc (fun k=>k∈(Tr.aD I k2 l2 d).aC) wc J)
      case first=>
       have V:(Tr.aD I k2 l2 d).left.red=l2.red:=rfl;have e1:(Tr.aD I k2 l2 d).right.red=d.red:=rfl;cases q:(l2.red&&d.red)
       ·have E:s3 (.aD I k2 l2 d)=.aD I k2 l2 d:=by unfold s3;rw[V,e1,q];rfl
        go_wp2_with fail;go_meet;rw[E];exact⟨rfl,H2.o,Zg _ _⟩
       ·have E:s3 (.aD I k2 l2 d)=Cd (.aD I k2 l2 d):=by unfold s3;rw[V,e1,q];rfl
        simp only[Zw]at q;have HC:=O (Qr2 H2.o q.1 q.2);have hp:(Cd (.aD I k2 l2 d)).aH=.pointer (some ⟨I.a,0,none⟩):=by obtain⟨x,xl,xr,rfl⟩:=Yg q.1;obtain⟨y,yl,yr,rfl⟩:=Yg q.2;rfl
        have HP:=O hp;unfold ptr at HC;have ES:=O E;clear E V e1 hp;go_wp2_with fail;refine Zy HC ?_;rintro w3⟨u,R⟩;have I1:=O (Zt u R);clear u R;go_wp2_with fail;go_meet;rw[ES.o,HP.o];exact⟨rfl,I1.o⟩
      case rest=>
       obtain⟨rfl,i3,c3⟩:=hcut;rw[ab.o]at c3;obtain⟨z,k3,l3,r3,e3⟩:=Qnp I k2 l2 d;have A3:(Tr.aD z k3 l3 r3).aC=(Tr.aD h c l r).aC:=by rw[←e3,Qqy];exact ab.o
       have B3:Gs (.aD h c l r)=mk z k3 l3 r3:=by rw[ah.o,e3];rfl
       rw[e3]at i3⊢;have ap:=O B3;have ao:=O A3;obtain⟨w3,an⟩:=Zx wc;rw[←an]at i3 c3⊢;have aq:=O (aj.o.aA c3);clear an A3 B3 e3 ab ah H2 aj c3;have H3:=O i3;obtain⟨pp,nn,hT⟩:=i3.top;have HT:=O (El hT i3.at'.1 l3 r3 rfl rfl i3.at'.2.1 i3.at'.2.2);clear i3 hT;have af:∀w4 w5,Qc Qb w3 w4→w5=(w4.setCell ⟨z.a,3,none⟩ (.int .u64 ((Pr z l3 r3).1:Int))).setCell ⟨z.a,4,none⟩ (.int .i64 (Pr z l3 r3).2)→Kc w5 b (mk z k3 l3 r3)∧Qc (fun k=>k∈(Tr.aD h c l r).aC) w w5:=by rintro w4 w5 hc rfl;have Z:Qc (fun k=>k=z.a) w3 ((w4.setCell ⟨z.a,3,none⟩ (.int .u64 ((Pr z l3 r3).1:Int))).setCell ⟨z.a,4,none⟩ (.int .i64 (Pr z l3 r3).2)):=((hc.sub (F:=fun k=>k=z.a) (fun k h=>h.elim)).setCell (a:=⟨z.a,3,none⟩) _ (.inl rfl)).setCell (a:=⟨z.a,4,none⟩) _ (.inl rfl);have hS:=H3.o;have ar:=hS.nd;simp only[Tr.aC,List.nodup_cons,Zl,Zu,not_or,List.nodup_append]at ar;refine⟨⟨hS.top.aB Z (by grind),hS.nd,((hc.blk hS.at'.1 (fun h=>h)).set' 3 _ rfl).set' 4 _ rfl,Jw.aB Z l3 hS.at'.2.1 (by grind),Jw.aB Z r3 hS.at'.2.2 (by grind)⟩,aq.o.aA (Z.sub ?_)⟩;rintro k rfl;rw[←ao.o];simp[Tr.aC]
       have HF:=O af;have HB:=O (H3.o.at'.1);unfold ptr Y4 at*;clear af;dsimp only[Tr.aH];go_wp2_with fail;refine Zy HT ?_;intro w4 c4;have C4:=O c4;have ae:=c4.blk HB.o (fun h=>h);obtain⟨a0,a1,a2,a3,a4,a5,a6,a7⟩:=Ja ae;have f4:=ae.frozen;clear ae c4;go_wp2;go_ret;rw[ap.o];exact⟨rfl,HF.o _ _ C4.o rfl⟩
theorem Kc.setL{w w1 w2}{b:Nat}{x:Nd}{c:Bool}{l r l':Tr}{S:Fp}(hs:Kc w b (.aD x c l r))(hl:Kc w1 b l')(hc:Qc S w w1)(u:∀k,S k→k∈l.aC)(ha:∀k∈l'.aC,k∈l.aC∨w.heap.size≤k)(I:w2=w1.setCell ⟨x.a,6,none⟩ l'.aH):Kc w2 b (.aD x c l' r)∧Qc (fun k=>k∈(Tr.aD x c l r).aC) w w2:=by
 subst I;have E:=hs.nd;have Xg:=Jw.lt _ hs.at';simp only[Tr.aC,List.nodup_cons,Zl,Zu,not_or,List.nodup_append]at E;simp only[Tr.aC,Zl,Zu]at Xg;have K:b<w.heap.size:=by obtain⟨p,n,h⟩:=hs.top;exact h.lt
 have d:=hl.nd;simp only[List.nodup_cons]at d;have R:x.a∉l'.aC:=fun h=>by
  rcases ha _ h with h|h;·exact absurd h (by grind)
  ·have:=Xg x.a (by simp);omega
 have h1:Qc (fun k=>k=x.a) w1 (w1.setCell ⟨x.a,6,none⟩ l'.aH):=(Zg _ w1).setCell (a:=⟨x.a,6,none⟩) _ (.inl rfl);have hr:Jw w1 r:=Jw.aB hc r hs.at'.2.2 fun a J h=>by have:=u a h;grind
 refine⟨⟨hl.top.aB h1 (by grind),?_,(hc.blk hs.at'.1 (fun h=>by have:=u _ h;grind)).set' 6 _ rfl,Jw.aB h1 l' hl.at' (by grind),Jw.aB h1 r hr (by grind)⟩,(hc.sub fun k B=>?_).aA (h1.sub fun k B=>?_)⟩
 ·simp only[Tr.aC,List.nodup_cons,Zl,Zu,not_or,List.nodup_append];refine⟨⟨d.1,by grind,by grind⟩,d.2,⟨by grind,by grind⟩,fun a q c z e=>?_⟩;subst e;rcases z with rfl|h;·exact R q
  ·rcases ha _ q with h'|h';·grind
   ·have:=Xg a (by simp[h]);omega
 ·simp[Tr.aC,u k B]
 ·subst B;simp[Tr.aC]
theorem Kc.setR{w w1 w2}{b:Nat}{x:Nd}{c:Bool}{l r q:Tr}{S:Fp}(hs:Kc w b (.aD x c l r))(hl:Kc w1 b q)(hc:Qc S w w1)(u:∀k,S k→k∈r.aC)(ha:∀k∈q.aC,k∈r.aC∨w.heap.size≤k)(J:w2=w1.setCell ⟨x.a,7,none⟩ q.aH):Kc w2 b (.aD x c l q)∧Qc (fun k=>k∈(Tr.aD x c l r).aC) w w2:=by
 subst J;have I:=hs.nd;have Xg:=Jw.lt _ hs.at';simp only[Tr.aC,List.nodup_cons,Zl,Zu,not_or,List.nodup_append]at I;simp only[Tr.aC,Zl,Zu]at Xg;have R:b<w.heap.size:=by obtain⟨p,n,h⟩:=hs.top;exact h.lt
 have d:=hl.nd;simp only[List.nodup_cons]at d;have U:x.a∉q.aC:=fun h=>by
  rcases ha _ h with h|h;·exact absurd h (by grind)
  ·have:=Xg x.a (by simp);omega
 have h1:Qc (fun k=>k=x.a) w1 (w1.setCell ⟨x.a,7,none⟩ q.aH):=(Zg _ w1).setCell (a:=⟨x.a,7,none⟩) _ (.inl rfl);have hr:Jw w1 l:=Jw.aB hc l hs.at'.2.1 fun a K h=>by have:=u a h;grind
 refine⟨⟨hl.top.aB h1 (by grind),?_,(hc.blk hs.at'.1 (fun h=>by have:=u _ h;grind)).set' 7 _ rfl,Jw.aB h1 l hr (by grind),Jw.aB h1 q hl.at' (by grind)⟩,(hc.sub fun k E=>?_).aA (h1.sub fun k E=>?_)⟩
 ·simp only[Tr.aC,List.nodup_cons,Zl,Zu,not_or,List.nodup_append];refine⟨⟨by grind,by grind,d.1⟩,by grind,⟨U,d.2⟩,fun a z c B e=>?_⟩;subst e;rcases B with rfl|h;·grind
  ·rcases ha _ h with h'|h';·grind
   ·have:=Xg a (by simp[z]);omega
 ·simp[Tr.aC,u k E]
 ·subst E;simp[Tr.aC]
theorem Rq(n:Nat)(i:Int)(v a:Nat)(t:Tr){k:Nat}(h:k∈(t.put n i v a).aC):k=a∨k∈t.aC:=by have:=(Cu n i v a t).mem_iff.1 h;simpa using this
theorem Tr.ptrV_any(t:Tr):∃p,t.aH=.pointer p:=by cases t<;>exact⟨_,rfl⟩
theorem Qr4{w}{b:Nat}(hs:Kc w b .nil)(n:Nat)(i:Int)(v:Nat):
  Cl 237 #[ptr b,.pointer none,Yo n i,.int .u64 v] w fun e w'=>∃a,w.heap.size≤a∧e=.returned (Tr.nil.put n i v a).aH∧Kc w' b (Tr.nil.put n i v a)∧Qc Qb w w':=by
 obtain⟨pp,nn,E⟩:=hs.top;have I:=E.lt;have HO:=O (fun w=>Su n i v w);obtain⟨k,J⟩:=Zx (w.heap.size);have B:=O (Qh.new w #[.int .u64 n,.int .i64 i] 204);have Z:=O (E.alloc (.cells #[.int .u64 n,.int .i64 i] 204));have U:=O ((Zg Qb w).alloc (.cells #[.int .u64 n,.int .i64 i] 204));have c:∀w1 w2,Qc Qb w w1→w2=w1.alloc (.cells (It ⟨w1.heap.size,n,i,v,v,i⟩ true (.pointer none) (.pointer none)) 258)→Kc w2 b (Tr.nil.put n i v w1.heap.size)∧Qc Qb w w2∧w.heap.size≤w1.heap.size:=by rintro w1 w2 hc rfl;have h1:=hc.size;refine⟨⟨hs.top.aB (hc.alloc _) (fun h=>h),?_,Qh.new _ _ _,trivial,trivial⟩,hc.alloc _,h1⟩;simp[Tr.put,Tr.aC];omega
 have HF:=O c;simp only[←J]at B;unfold ptr Yo at*;clear hs E I c;go_enter func237,ntmps237;go_wp2_with fail;rw[←J];obtain⟨W,hW⟩:=Zx (w.alloc (.cells #[.int .u64 n,.int .i64 i] 204));rw[←hW]at B Z U⊢;clear hW J;have V:=fun x=>X9 (Qk (S:=Qb) Z.o (fun h=>h) x);have E2:=fun x=>Q4 (Qk (S:=Qb) B.o (fun h=>h) x);unfold Dd at V;try go_wp2
 refine Qu [] [0,1,2,3,4,5,6,7] [8,9,10,11] [] (Qz (Qb) (W)) Zq (by kernel_rfl) (fun _ _ _ _ _ h=>h) (Qd (Zj (Zg _ _))) ?_;simp only[pick,Zf,Ze,Zd];refine Qg ?_;iterate 8 (refine Ql (fun K hK=>?_);go_simp;refine hK _ ?_;clear hK K)
 refine Qg ?_;intro _ R;obtain⟨xo,d⟩:=R;subst d;simp only[Jd];have c3:=O (Qv Qb W xo);generalize Qz Qb W xo=w3 at c3⊢;clear V E2;go_wp2_with fail;refine Zz (HO.o _) ?_;intro w4 d4;have u:=O (c3.o.aA d4);have q:=O (HF.o _ _ (U.o.aA u.o) rfl);have z:=O (u.o.alloc (.cells (It ⟨w4.heap.size,n,i,v,v,i⟩ true (.pointer none) (.pointer none)) 258));clear d4;dsimp only[It]at z q;go_wp2;refine⟨Qd u.o,?_⟩;go_wp2;refine⟨Qd u.o,?_⟩;go_wp2;refine⟨Qd z.o,?_⟩;go_wp2;refine⟨Qd z.o,?_⟩;go_wp2;go_ret;exact⟨_,q.o.2.2,rfl,q.o.1,q.o.2.1⟩
theorem Qu3{w}{b:Nat}{h:Nd}{c:Bool}{l r:Tr}(hs:Kc w b (.aD h c l r))(n:Nat)(i:Int)(v:Nat)(Xg:lt n i h=true)
  (ih:∀w'(ai:Kc w' b l),Cl 237 #[ptr b,l.aH,Yo n i,.int .u64 v] w' fun e w2=>∃a,w'.heap.size≤a∧e=.returned (l.put n i v a).aH∧Kc w2 b (l.put n i v a)∧Qc (fun k=>k∈l.aC) w' w2):
  Cl 237 #[ptr b,.pointer (some ⟨h.a,0,none⟩),Yo n i,.int .u64 v] w fun e w'=>∃a,w.heap.size≤a∧e=.returned (Tr.put n i v a (.aD h c l r)).aH∧Kc w' b (Tr.put n i v a (.aD h c l r))∧Qc (fun k=>k∈(Tr.aD h c l r).aC) w w':=by
 obtain⟨k,d⟩:=Zx (w.heap.size);have hp:∀a,Tr.put n i v a (.aD h c l r)=Gs (.aD h c (l.put n i v a) r):=fun a=>by simp[Tr.put,Xg]
 have HP:=O hp;have Z:=O (Qh.new w #[.int .u64 n,.int .i64 i] 204);have C0:=O ((Zg Qb w).alloc (.cells #[.int .u64 n,.int .i64 i] 204));have HS:=O (fun w'(hc:Qc Qb w w')=>hs.aB hc (fun _ _ h=>h));have u:=O (fun w=>Gu n i h w);rw[Xg]at u;have ah:=O d;have IH:=O ih;have ab:=Jw.lt _ hs.at';have ag:=O (show∀a∈(Tr.aD h c l r).aC,a≠k from fun a ha e=>by have:=ab a ha;omega);simp only[←d]at Z;have ac:=hs.nd;simp only[Tr.aC,List.nodup_cons,Zl,Zu,not_or,List.nodup_append]at ac;have af:=O (show h.a∉l.aC by grind);obtain⟨pl,ae⟩:=l.ptrV_any;have V:=O ae;unfold ptr Yo at*;clear hs hp ih Xg ab ac;go_enter func237,ntmps237;go_wp2_with fail;rw[←d];obtain⟨W,hW⟩:=Zx (w.alloc (.cells #[.int .u64 n,.int .i64 i] 204));rw[←hW]at Z C0⊢;clear hW d;have S0:=HS.o _ C0.o;have E1:=fun x=>Q4 (Qk (S:=Qb) Z.o (fun h=>h) x);have E2:=fun x=>Ja (Qk (S:=Qb) S0.at'.1 (fun h=>h) x);clear S0 ae;refine Qu [] [0,1,2,3,4] [5,6] [] (Qz (Qb) (W)) Zq (by kernel_rfl) (fun _ _ _ _ _ h=>h) (Qd (Zj (Zg _ _))) ?_;simp only[pick,Zf,Ze,Zd];refine Qg ?_;iterate 5 (refine Ql (fun K B=>?_);go_simp;refine B _ ?_;clear B K)
 refine Qg ?_;intro _ I;obtain⟨xo,z⟩:=I;subst z;simp only[Jd];have c3:=O (Qv Qb W xo);generalize Qz Qb W xo=w3 at c3⊢;clear E1 E2;go_wp2_with fail;refine Zz (u.o _) ?_;intro w4 d4;have c4:=O (c3.o.aA d4);clear d4;go_wp2;refine⟨Qd c4.o,?_⟩;go_wp2;refine⟨Qd c4.o,?_⟩;go_wp2;have K4:=O (c4.o.blk Z.o (fun h=>h));have C4:=O (C0.o.aA c4.o);have S4:=O (HS.o _ C4.o);have E1:=fun x=>Q4 (Qk (S:=Qb) K4.o (fun h=>h) x);have E2:=fun x=>Ja (Qk (S:=Qb) S4.o.at'.1 (fun h=>h) x);rw[V.o]at E2;clear c3 c4;refine Ka [1,2,3,4,5,6,7] [0] [8,9,10,11] (Qz (Qb) (w4)) Zq (by kernel_rfl) (fun _ _ _ _ _ h=>h) (Qd (Zj (Zg _ _))) ?_;simp only[pick,Zf,Ze,Zd];iterate 7 (refine Ql (fun K B=>?_);go_simp;refine B _ ?_;clear B K)
 refine Qg ?_;iterate 1 (refine Ql (fun K B=>?_);go_simp;refine B _ ?_;clear B K)
 refine Qg ?_;intro _ I;obtain⟨xo,z⟩:=I;subst z;have c5:=O (Qv Qb w4 xo);generalize Qz Qb w4 xo=w5 at c5⊢;clear E1 E2;have C5:=O (C4.o.aA c5.o);have S5:=O (HS.o _ C5.o);have R:=IH.o _ S5.o.left;rw[V.o]at R;clear K4 C4 S4 Z C0 c5;go_wp2_with fail;refine R.mono ?_;rintro e w6⟨a,ha,rfl,i6,c6⟩;have B6:=c6.blk S5.o.at'.1 af.o;obtain⟨a0,a1,a2,a3,a4,a5,a6,a7⟩:=Ja B6;have f6:=B6.frozen;have FX:=O (fun w7(e:w7=w6.setCell ⟨h.a,6,none⟩ (l.put n i v a).aH)=>S5.o.setL i6 c6 (fun _ h=>h) (fun k d=>(Rq n i v a l d).elim (fun e=>.inr (e▸ha)) .inl) e);have HA:=O (Zp C5.o.size ha);obtain⟨q,hq⟩:=(l.put n i v a).ptrV_any;rw[hq]at FX⊢;clear i6 c6 B6 ha hq R;go_wp2_with fail;obtain⟨w7,J⟩:=Zx (w6.setCell ⟨h.a,6,none⟩ (.pointer q));rw[←J];obtain⟨i7,c7⟩:=FX.o _ J;have hb:=Ek i7;unfold ptr at hb;clear J a0 a1 a2 a3 a4 a5 a6 a7 f6;refine Zz hb ?_;rintro w8⟨i8,c8⟩;have aa:(Tr.aD h c (l.put n i v a) r).aC=(Tr.aD h c (l.put n i v a) r).aC:=rfl;have U:Qc (fun k=>k∈(Tr.aD h c l r).aC) w w8:=by
  refine Qc.trans (C5.o.none.aA c7) c8 fun k d=>?_;simp only[Tr.aC,Zl,Zu]at d⊢;rcases d with d|rfl|d
  ·rcases Rq n i v a l d with rfl|d;·exact .inr HA.o
   ·exact .inl (.inl d)
  ·exact .inl (.inr (.inl rfl))
  ·exact .inl (.inr (.inr d))
 have HF:=O U;have HI:=O i8;have E:=HP.o a;rw[←E]at HI;rw[←E];clear i8 c8 U i7 c7 hb aa E;go_wp2;go_ret;exact⟨a,HA.o,rfl,HI.o,HF.o⟩
theorem Qu4{w}{b:Nat}{h:Nd}{c:Bool}{l r:Tr}(hs:Kc w b (.aD h c l r))(n:Nat)(i:Int)(v:Nat)(Xg:lt n i h=false)
  (ih:∀w'(ai:Kc w' b r),Cl 237 #[ptr b,r.aH,Yo n i,.int .u64 v] w' fun e w2=>∃a,w'.heap.size≤a∧e=.returned (r.put n i v a).aH∧Kc w2 b (r.put n i v a)∧Qc (fun k=>k∈r.aC) w' w2):
  Cl 237 #[ptr b,.pointer (some ⟨h.a,0,none⟩),Yo n i,.int .u64 v] w fun e w'=>∃a,w.heap.size≤a∧e=.returned (Tr.put n i v a (.aD h c l r)).aH∧Kc w' b (Tr.put n i v a (.aD h c l r))∧Qc (fun k=>k∈(Tr.aD h c l r).aC) w w':=by
 obtain⟨k,d⟩:=Zx (w.heap.size);have hp:∀a,Tr.put n i v a (.aD h c l r)=Gs (.aD h c l (r.put n i v a)):=fun a=>by simp[Tr.put,Xg]
 have HP:=O hp;have Z:=O (Qh.new w #[.int .u64 n,.int .i64 i] 204);have C0:=O ((Zg Qb w).alloc (.cells #[.int .u64 n,.int .i64 i] 204));have HS:=O (fun w'(hc:Qc Qb w w')=>hs.aB hc (fun _ _ h=>h));have u:=O (fun w=>Gu n i h w);rw[Xg]at u;have ah:=O d;have IH:=O ih;have ab:=Jw.lt _ hs.at';have ag:=O (show∀a∈(Tr.aD h c l r).aC,a≠k from fun a ha e=>by have:=ab a ha;omega);simp only[←d]at Z;have ac:=hs.nd;simp only[Tr.aC,List.nodup_cons,Zl,Zu,not_or,List.nodup_append]at ac;have af:=O (show h.a∉r.aC by grind);obtain⟨pl,ae⟩:=r.ptrV_any;have V:=O ae;unfold ptr Yo at*;clear hs hp ih Xg ab ac;go_enter func237,ntmps237;go_wp2_with fail;rw[←d];obtain⟨W,hW⟩:=Zx (w.alloc (.cells #[.int .u64 n,.int .i64 i] 204));rw[←hW]at Z C0⊢;clear hW d;have S0:=HS.o _ C0.o;have E1:=fun x=>Q4 (Qk (S:=Qb) Z.o (fun h=>h) x);have E2:=fun x=>Ja (Qk (S:=Qb) S0.at'.1 (fun h=>h) x);clear S0 ae;refine Qu [] [0,1,2,3,4] [5,6] [] (Qz (Qb) (W)) Zq (by kernel_rfl) (fun _ _ _ _ _ h=>h) (Qd (Zj (Zg _ _))) ?_;simp only[pick,Zf,Ze,Zd];refine Qg ?_;iterate 5 (refine Ql (fun K B=>?_);go_simp;refine B _ ?_;clear B K)
 refine Qg ?_;intro _ I;obtain⟨xo,z⟩:=I;subst z;simp only[Jd];have c3:=O (Qv Qb W xo);generalize Qz Qb W xo=w3 at c3⊢;clear E1 E2;go_wp2_with fail;refine Zz (u.o _) ?_;intro w4 d4;have c4:=O (c3.o.aA d4);clear d4;go_wp2;refine⟨Qd c4.o,?_⟩;go_wp2;refine⟨Qd c4.o,?_⟩;go_wp2;have K4:=O (c4.o.blk Z.o (fun h=>h));have C4:=O (C0.o.aA c4.o);have S4:=O (HS.o _ C4.o);have E1:=fun x=>Q4 (Qk (S:=Qb) K4.o (fun h=>h) x);have E2:=fun x=>Ja (Qk (S:=Qb) S4.o.at'.1 (fun h=>h) x);rw[V.o]at E2;clear c3 c4;refine Ka [1,2,3,4,5,6,7] [0] [8,9,10,11] (Qz (Qb) (w4)) Zq (by kernel_rfl) (fun _ _ _ _ _ h=>h) (Qd (Zj (Zg _ _))) ?_;simp only[pick,Zf,Ze,Zd];iterate 7 (refine Ql (fun K B=>?_);go_simp;refine B _ ?_;clear B K)
 refine Qg ?_;iterate 1 (refine Ql (fun K B=>?_);go_simp;refine B _ ?_;clear B K)
 refine Qg ?_;intro _ I;obtain⟨xo,z⟩:=I;subst z;have c5:=O (Qv Qb w4 xo);generalize Qz Qb w4 xo=w5 at c5⊢;clear E1 E2;have C5:=O (C4.o.aA c5.o);have S5:=O (HS.o _ C5.o);have R:=IH.o _ S5.o.right;rw[V.o]at R;clear K4 C4 S4 Z C0 c5;go_wp2_with fail;refine R.mono ?_;rintro e w6⟨a,ha,rfl,i6,c6⟩;have B6:=c6.blk S5.o.at'.1 af.o;obtain⟨a0,a1,a2,a3,a4,a5,a6,a7⟩:=Ja B6;have f6:=B6.frozen;have FX:=O (fun w7(e:w7=w6.setCell ⟨h.a,7,none⟩ (r.put n i v a).aH)=>S5.o.setR i6 c6 (fun _ h=>h) (fun k d=>(Rq n i v a r d).elim (fun e=>.inr (e▸ha)) .inl) e);have HA:=O (Zp C5.o.size ha);obtain⟨q,hq⟩:=(r.put n i v a).ptrV_any;rw[hq]at FX⊢;clear i6 c6 B6 ha hq R;go_wp2_with fail;obtain⟨w7,J⟩:=Zx (w6.setCell ⟨h.a,7,none⟩ (.pointer q));rw[←J];obtain⟨i7,c7⟩:=FX.o _ J;have hb:=Ek i7;unfold ptr at hb;clear J a0 a1 a2 a3 a4 a5 a6 a7 f6;refine Zz hb ?_;rintro w8⟨i8,c8⟩;have aa:(Tr.aD h c l (r.put n i v a)).aC=(Tr.aD h c l (r.put n i v a)).aC:=rfl;have U:Qc (fun k=>k∈(Tr.aD h c l r).aC) w w8:=by
  refine Qc.trans (C5.o.none.aA c7) c8 fun k d=>?_;simp only[Tr.aC,Zl,Zu]at d⊢;rcases d with d|rfl|d;·exact .inl (.inl d)
  ·exact .inl (.inr (.inl rfl))
  ·rcases Rq n i v a r d with rfl|d;·exact .inr HA.o
   ·exact .inl (.inr (.inr d))
 have HF:=O U;have HI:=O i8;have E:=HP.o a;rw[←E]at HI;rw[←E];clear i8 c8 U i7 c7 hb aa E;go_wp2;go_ret;exact⟨a,HA.o,rfl,HI.o,HF.o⟩
theorem Qas(n:Nat)(i:Int)(v b:Nat):∀(t:Tr)(w)(hs:Kc w b t),Cl 237 #[ptr b,t.aH,Yo n i,.int .u64 v] w fun e w'=>∃a,w.heap.size≤a∧e=.returned (t.put n i v a).aH∧Kc w' b (t.put n i v a)∧Qc (fun k=>k∈t.aC) w w'
 | .nil,w,hs=>(Qr4 hs n i v).mono fun e w'⟨a,h1,q,u,z⟩=>⟨a,h1,q,u,z.none⟩
 | .aD h c l r,w,hs=>by
  cases hl:lt n i h with
  |true=>exact Qu3 hs n i v hl (fun w' d=>Qas n i v b l w' d)
  |false=>exact Qu4 hs n i v hl (fun w' d=>Qas n i v b r w' d)
theorem Qk9{w}{b:Nat}{x y z:Nd}{c cy q:Bool}{yl yr d E:Tr}(hs:Kc w b (.aD x c (.aD y cy yl yr) (.aD z q d E)))(K:d.red=false):
  Cl 245 #[ptr b,ptr x.a] w fun e w'=>e=.returned (ptr x.a)∧Kc w' b (.aD x (!c) (.aD y (!cy) yl yr) (.aD z (!q) d E))∧Qc (fun k=>k∈(Tr.aD x c (.aD y cy yl yr) (.aD z q d E)).aC) w w':=by
 have U:=O (Dc hs);unfold ptr at*;clear hs;go_enter func245,ntmps245;go_wp2_with fail;refine Zy U ?_;rintro w1⟨B,J⟩;have I:=Kf d B.at'.2.2.2.1;rw[K]at I;obtain⟨a0,a1,a2,a3,a4,a5,a6,Z⟩:=Ja B.at'.1;obtain⟨b0,b1,b2,b3,b4,b5,b6,b7⟩:=Ja B.at'.2.2.1;have u:(Tr.aD z (!q) d E).aH=.pointer (some ⟨z.a,0,none⟩):=rfl;rw[u]at Z;have V:=O B;have R:=O (show Qc (fun k=>k∈(Tr.aD x c (.aD y cy yl yr) (.aD z q d E)).aC) w w1 from J.sub fun k hk=>by rcases hk with rfl|rfl|rfl<;>simp[Tr.aC]);clear B J u K;go_wp2_with fail;refine Zz I ?_;rintro w2 rfl;go_wp2;go_ret;exact⟨rfl,V.o,R.o⟩
theorem Qh4{w}{b:Nat}{x y z:Nd}{c cy u:Bool}{yl yr B E:Tr}(hs:Kc w b (.aD x c (.aD y cy yl yr) (.aD z u B E)))(K:yl.red=false):
  Cl 248 #[ptr b,ptr x.a] w fun e w'=>e=.returned (ptr x.a)∧Kc w' b (.aD x (!c) (.aD y (!cy) yl yr) (.aD z (!u) B E))∧Qc (fun k=>k∈(Tr.aD x c (.aD y cy yl yr) (.aD z u B E)).aC) w w':=by
 have U:=O (Dc hs);unfold ptr at*;clear hs;go_enter func248,ntmps248;go_wp2_with fail;refine Zy U ?_;rintro w1⟨q,J⟩;have I:=Kf yl q.at'.2.1.2.1;rw[K]at I;obtain⟨a0,a1,a2,a3,a4,a5,Z,a7⟩:=Ja q.at'.1;obtain⟨b0,b1,b2,b3,b4,b5,b6,b7⟩:=Ja q.at'.2.1.1;have d:(Tr.aD y (!cy) yl yr).aH=.pointer (some ⟨y.a,0,none⟩):=rfl;rw[d]at Z;have V:=O q;have R:=O (show Qc (fun k=>k∈(Tr.aD x c (.aD y cy yl yr) (.aD z u B E)).aC) w w1 from J.sub fun k hk=>by rcases hk with rfl|rfl|rfl<;>simp[Tr.aC]);clear q J d K;go_wp2_with fail;refine Zz I ?_;rintro w2 rfl;go_wp2;go_ret;exact⟨rfl,V.o,R.o⟩
theorem Qla{w}{b:Nat}{x y z u:Nd}{c cy R:Bool}{yl yr q B U:Tr}(hs:Kc w b (.aD x c (.aD y cy yl yr) (.aD z R (.aD u true q B) U))):
  Cl 245 #[ptr b,ptr x.a] w fun e w'=>e=.returned (ptr u.a)∧Kc w' b (Cd (Nw (.aD x (!c) (.aD y (!cy) yl yr) (Mp (.aD z (!R) (.aD u true q B) U)))))∧Qc (fun k=>k∈(Tr.aD x c (.aD y cy yl yr) (.aD z R (.aD u true q B) U)).aC) w w':=by
 have HC:=O (Dc hs);unfold ptr at*;clear hs;go_enter func245,ntmps245;go_wp2_with fail;refine Zy HC ?_;rintro w1⟨K,c1⟩;have HI:=Kf (.aD u true q B) K.at'.2.2.2.1;have I:(Tr.aD u true q B).aH=.pointer (some ⟨u.a,0,none⟩):=rfl;have aa:(Tr.aD u true q B).red=true:=rfl;rw[aa,I]at HI;obtain⟨a0,a1,a2,a3,a4,a5,a6,a7⟩:=Ja K.at'.1;obtain⟨b0,b1,b2,b3,b4,b5,b6,b7⟩:=Ja K.at'.2.2.1;have Z:(Tr.aD z (!R) (.aD u true q B) U).aH=.pointer (some ⟨z.a,0,none⟩):=rfl;rw[Z]at a7;rw[I]at b6;have I1:=O K;have HR:=O (Me K.right);have C1:=O (show Qc (fun k=>k∈(Tr.aD x c (.aD y cy yl yr) (.aD z R (.aD u true q B) U)).aC) w w1 from c1.sub fun k d=>by rcases d with rfl|rfl|rfl<;>simp[Tr.aC]);have V:¬(x.a=z.a∨x.a=u.a):=by have:=K.nd;simp only[Tr.aC,List.nodup_cons,Zl,Zu,not_or,List.nodup_append]at this;grind
 have ac:=O V;unfold ptr at*;clear K c1 Z aa I V;go_wp2_with fail;refine Zz HI ?_;rintro w2 rfl;go_wp2_with fail;refine Zy HR ?_;rintro w2⟨i2,c2⟩;have B2:=c2.blk I1.o.at'.1 ac.o;have f2:=B2.frozen;obtain⟨d0,d1,d2,d3,d4,d5,d6,d7⟩:=Ja B2;have FX:=O (fun w3(e:w3=w2.setCell ⟨x.a,7,none⟩ (.pointer (some ⟨u.a,0,none⟩)))=>I1.o.setR i2 c2 (fun k d=>by rcases d with rfl|rfl<;>simp[Tr.aC]) (fun k d=>.inl (by rw[Ey]at d;exact d)) e);clear i2 c2 B2 a0 a1 a2 a3 a4 a5 a6 a7 b0 b1 b2 b3 b4 b5 b6 b7;go_wp2_with fail;obtain⟨w3,J⟩:=Zx (w2.setCell ⟨x.a,7,none⟩ (.pointer (some ⟨u.a,0,none⟩)));rw[←J];obtain⟨i3,c3⟩:=FX.o _ J;have hb:=Qdr i3;unfold ptr at hb;clear J d0 d1 d2 d3 d4 d5 d6 d7 f2;refine Zz hb ?_;rintro w4⟨i4,c4⟩;have E:=Dc i4;unfold ptr at E;go_wp2_with fail;refine Zz E ?_;rintro w5⟨i5,c5⟩;have ab:=O (show Qc (fun k=>k∈(Tr.aD x c (.aD y cy yl yr) (.aD z R (.aD u true q B) U)).aC) w w5 from((C1.o.aA (c3.sub fun k d=>d)).aA (c4.sub fun k d=>by rcases d with rfl|rfl<;>simp[Tr.aC,Nd.re])).aA (c5.sub fun k d=>by rcases d with rfl|rfl|rfl<;>simp[Tr.aC,Nd.re]));have I5:=O i5;clear i3 c3 i4 c4 i5 c5 hb E;go_wp2;go_ret;exact⟨rfl,I5.o,ab.o⟩
theorem Qh5{w}{b:Nat}{x y z u:Nd}{c cy I:Bool}{d q yr V Z:Tr}(hs:Kc w b (.aD x c (.aD y cy (.aD u true d q) yr) (.aD z I V Z))):
  Cl 248 #[ptr b,ptr x.a] w fun e w'=>e=.returned (ptr y.a)∧Kc w' b (Cd (Mp (.aD x (!c) (.aD y (!cy) (.aD u true d q) yr) (.aD z (!I) V Z))))∧Qc (fun k=>k∈(Tr.aD x c (.aD y cy (.aD u true d q) yr) (.aD z I V Z)).aC) w w':=by
 have HC:=O (Dc hs);unfold ptr at*;clear hs;go_enter func248,ntmps248;go_wp2_with fail;refine Zy HC ?_;rintro w1⟨U,c1⟩;have HI:=Kf (.aD u true d q) U.at'.2.1.2.1;have E:(Tr.aD u true d q).aH=.pointer (some ⟨u.a,0,none⟩):=rfl;have R:(Tr.aD u true d q).red=true:=rfl;rw[R,E]at HI;obtain⟨a0,a1,a2,a3,a4,a5,a6,a7⟩:=Ja U.at'.1;obtain⟨b0,b1,b2,b3,b4,b5,b6,b7⟩:=Ja U.at'.2.1.1;have K:(Tr.aD y (!cy) (.aD u true d q) yr).aH=.pointer (some ⟨y.a,0,none⟩):=rfl;rw[K]at a6;rw[E]at b6;have HR:=O (Me U);have C1:=O (show Qc (fun k=>k∈(Tr.aD x c (.aD y cy (.aD u true d q) yr) (.aD z I V Z)).aC) w w1 from c1.sub fun k J=>by rcases J with rfl|rfl|rfl<;>simp[Tr.aC]);unfold ptr at*;clear U c1 K R E;go_wp2_with fail;refine Zz HI ?_;rintro w2 rfl;go_wp2_with fail;refine Zy HR ?_;rintro w4⟨i4,c4⟩;have B:=Dc i4;unfold ptr at B;clear a0 a1 a2 a3 a4 a5 a6 a7 b0 b1 b2 b3 b4 b5 b6 b7;go_wp2_with fail;refine Zz B ?_;rintro w5⟨i5,c5⟩;have aa:=O (show Qc (fun k=>k∈(Tr.aD x c (.aD y cy (.aD u true d q) yr) (.aD z I V Z)).aC) w w5 from(C1.o.aA (c4.sub fun k J=>by rcases J with rfl|rfl<;>simp[Tr.aC])).aA (c5.sub fun k J=>by rcases J with rfl|rfl|rfl<;>simp[Tr.aC,Nd.re]));have I5:=O i5;clear i4 c4 i5 c5 B;go_wp2;go_ret;exact⟨rfl,I5.o,aa.o⟩
inductive Fl:Tr→Tr→Prop
 |no (x:Nd) (c:Bool) (l r:Tr):(l.red||l.left.red)=true→Fl (.aD x c l r) (.aD x c l r)
 |A (x y z:Nd) (yl yr zl zr:Tr):yl.red=false→zl.red=false→Fl (.aD x true (.aD y false yl yr) (.aD z false zl zr)) (.aD x false (.aD y true yl yr) (.aD z true zl zr))
 |B (x y z u:Nd) (yl yr ul ur zr:Tr):yl.red=false→Fl (.aD x true (.aD y false yl yr) (.aD z false (.aD u true ul ur) zr)) (.aD (u.re (mk x true (.aD y true yl yr) ul) (mk z true ur zr)) true (mk x false (.aD y true yl yr) ul) (mk z false ur zr))
theorem Fl.aC{t c:Tr}(h:Fl t c):c.aC=t.aC:=by
 cases h with
 |no=>rfl
 |A=>simp[Tr.aC]
 |B=>simp[Tr.aC,mk,Nd.re]
theorem Tf{w}{b:Nat}{x:Nd}{c:Bool}{l r d:Tr}(E:Fl (.aD x c l r) d)(hc:(l.red||l.left.red)=false)(hs:Kc w b (.aD x c l r)):
  Cl 245 #[ptr b,ptr x.a] w fun e w'=>e=.returned d.aH∧Kc w' b d∧Qc (fun k=>k∈(Tr.aD x c l r).aC) w w':=by
 cases E with
 |no _ _ _ _ h=>rw[h]at hc;cases hc
 |A _ y z yl yr R I h1 q=>exact Qk9 hs q
 |B _ y z u yl yr J K I h1=>exact Qla hs
inductive Bu:Tr→Tr→Prop
 |no (x:Nd) (c:Bool) (l r:Tr):l.red=false→Bu (.aD x c l r) (.aD x c l r)
 |up (x y:Nd) (c:Bool) (yl yr r:Tr):Bu (.aD x c (.aD y true yl yr) r) (.aD (y.re yl (mk x true yr r)) c yl (mk x true yr r))
inductive Tq:Tr→Tr→Prop
 |no (x:Nd) (c:Bool) (l r:Tr):(r.red||r.left.red)=true→Tq (.aD x c l r) (.aD x c l r)
 |A (x y z:Nd) (yl yr zl zr:Tr):yl.red=false→zl.red=false→Tq (.aD x true (.aD y false yl yr) (.aD z false zl zr)) (.aD x false (.aD y true yl yr) (.aD z true zl zr))
 |B (x y z u:Nd) (ul ur yr zl zr:Tr):zl.red=false→Tq (.aD x true (.aD y false (.aD u true ul ur) yr) (.aD z false zl zr)) (.aD (y.re (.aD u true ul ur) (mk x true yr (.aD z true zl zr))) true (.aD u false ul ur) (mk x false yr (.aD z true zl zr)))
theorem Bu.aC{t c:Tr}(h:Bu t c):c.aC=t.aC:=by
 cases h with
 |no=>rfl
 |up=>simp[Tr.aC,mk,Nd.re]
theorem Tq.aC{t c:Tr}(h:Tq t c):c.aC=t.aC:=by
 cases h with
 |no=>rfl
 |A=>simp[Tr.aC]
 |B=>simp[Tr.aC,mk,Nd.re]
theorem Qh6{w}{b:Nat}{x:Nd}{c:Bool}{l r d:Tr}(q:Bu (.aD x c l r) d)(hc:l.red=true)(hs:Kc w b (.aD x c l r)):
  Cl 247 #[ptr b,ptr x.a] w fun e w'=>e=.returned d.aH∧Kc w' b d∧Qc (fun k=>k∈(Tr.aD x c l r).aC) w w':=by
 have h:=Qds hs hc;cases q with
 |no _ _ _ _ h=>rw[h]at hc;cases hc
 |up _ y _ yl yr _=>exact h
theorem Qat{w}{b:Nat}{x:Nd}{c:Bool}{l r d:Tr}(q:Tq (.aD x c l r) d)(hc:(r.red||r.left.red)=false)(hs:Kc w b (.aD x c l r)):
  Cl 248 #[ptr b,ptr x.a] w fun e w'=>e=.returned d.aH∧Kc w' b d∧Qc (fun k=>k∈(Tr.aD x c l r).aC) w w':=by
 cases q with
 |no _ _ _ _ h=>rw[h]at hc;cases hc
 |A _ y z yl yr E I h1 J=>exact Qh4 hs h1
 |B _ y z u K R yr E I h1=>exact Qh5 hs
theorem Iq{w}{b:Nat}{x:Nd}{c:Bool}{r:Tr}(hs:Kc w b (.aD x c .nil r)):
  Cl 249 #[ptr b,ptr x.a] w fun e w'=>e=.returned (.pointer none)∧w=w':=by
 obtain⟨q,a1,u,z,B,E,k,I⟩:=Ja hs.at'.1;unfold ptr at*;have d:Tr.nil.aH=.pointer none:=rfl;rw[d]at k;clear hs d;go_enter func249,ntmps249;go_wp2;go_ret;exact⟨rfl,rfl⟩
theorem Lu{w}{b:Nat}{x R y:Nd}{c Z cy:Bool}{yl yr r l1 r1 l':Tr}(hs:Kc w b (.aD x c (.aD y cy yl yr) r))(hp:Fl (.aD x c (.aD y cy yl yr) r) (.aD R Z l1 r1))(K:∀k,k∈l'.aC→k∈l1.aC)
  (ih:∀w',Kc w' b l1→Cl 249 #[ptr b,l1.aH] w' fun e w2=>e=.returned l'.aH∧Kc w2 b l'∧Qc (fun k=>k∈l1.aC) w' w2):
  Cl 249 #[ptr b,ptr x.a] w fun e w'=>e=.returned (Gs (.aD R Z l' r1)).aH∧Kc w' b (Gs (.aD R Z l' r1))∧Qc (fun k=>k∈(Tr.aD x c (.aD y cy yl yr) r).aC) w w':=by
 have HL:=O (Kf _ hs.at'.2.1);have U:=O (Kf yl hs.at'.2.1.2.1);have hX:=hs.at'.1;have hY:=hs.at'.2.1.1;have H0:=O hs;have HP:=O hp;have af:=O hp.aC;have IH:=O ih;have E:=O K;obtain⟨a0,a1,a2,a3,a4,a5,V,a7⟩:=Ja hX;obtain⟨b0,b1,b2,b3,b4,b5,b6,b7⟩:=Ja hY;have ai:(Tr.aD y cy yl yr).aH=.pointer (some ⟨y.a,0,none⟩):=rfl;have aj:(Tr.aD y cy yl yr).red=cy:=rfl;rw[ai]at V HL;rw[aj]at HL;unfold ptr at*;clear hs hX hY hp ai aj ih K;go_enter func249,ntmps249;go_upto_region 3 with fail;go_cut [26] (fun an wz=>an=.bool (!(cy||yl.red))∧wz=w)
 case first=>
  cases hc:cy<;>cases hl:yl.red;all_goals rw[hc]at HL
  all_goals rw[hl]at U
  all_goals
   go_wp2_with fail;refine Zy HL ?_;rintro w1 rfl;go_wp2_with fail;try
    refine Zy U ?_;rintro w1 rfl;go_wp2_with fail
   go_meet;exact⟨by rw[hc,hl];rfl,rfl⟩
 case rest=>
  obtain⟨rfl,al⟩:=hcut;rw[al];clear al wc a0 a1 a2 a3 a4 a5 V a7 b0 b1 b2 b3 b4 b5 b6 b7 HL U;go_upto_if 26 with fail;go_cut [1] (fun v1 wz=>v1=.pointer (some ⟨R.a,0,none⟩)∧Kc wz b (.aD R Z l1 r1)∧Qc (fun k=>k∈(Tr.aD x c (.aD y cy yl yr) r).aC) w wz)
  case first=>
   cases J:(cy||yl.red);·have HC:=O (Tf HP.o J H0.o);unfold ptr at HC;clear J;go_wp2_with fail;refine Zy HC ?_;rintro w1⟨d,Z⟩;have I1:=O (Zt d Z);clear d Z;go_wp2_with fail;go_meet;exact⟨rfl,I1.o⟩
   ·have hh:=HP.o;cases hh with
    |A _ y z yl yr zl zr h1 h2=>simp[h1]at J
    |B _ y z u yl yr ul ur zr h1=>simp[h1]at J
    |no _ _ _ _ h=> clear h J;go_wp2_with fail;go_meet;exact⟨rfl,H0.o,Zg _ _⟩
  case rest=>
   obtain⟨rfl,d,aa⟩:=hcut;obtain⟨w1,ak⟩:=Zx wc;rw[←ak]at d aa⊢;have I1:=O d;have C1:=O aa;have hX:=d.at'.1;obtain⟨a0,a1,a2,a3,a4,a5,V,a7⟩:=Ja hX;have ac:=IH.o _ d.left;have ag:=d.nd;simp only[Tr.aC,List.nodup_cons,Zl,Zu,not_or,List.nodup_append]at ag;have am:=O (show R.a∉l1.aC by grind);obtain⟨pl,ah⟩:=l1.ptrV_any;rw[ah]at V ac;clear ak H0 HP IH ag d aa hX ah;go_wp2_with fail;refine Zz ac ?_;rintro w6⟨i6,c6⟩;have B6:=c6.blk I1.o.at'.1 am.o;clear a0 a1 a2 a3 a4 a5 V a7 ac;obtain⟨a0,a1,a2,a3,a4,a5,V,a7⟩:=Ja B6;have f6:=B6.frozen;have FX:=O (fun w7(e:w7=w6.setCell ⟨R.a,6,none⟩ l'.aH)=>I1.o.setL i6 c6 (fun _ h=>h) (fun k I=>.inl (E.o k I)) e);obtain⟨q,J⟩:=l'.ptrV_any;rw[J]at FX⊢;clear i6 c6 B6 J;go_wp2_with fail;obtain⟨w7,ab⟩:=Zx (w6.setCell ⟨R.a,6,none⟩ (.pointer q));rw[←ab];obtain⟨i7,c7⟩:=FX.o _ ab;have hb:=Ek i7;unfold ptr at hb;clear ab a0 a1 a2 a3 a4 a5 V a7 f6 FX;refine Zz hb ?_;rintro w8⟨i8,c8⟩;have ae:Qc (fun k=>k∈(Tr.aD x c (.aD y cy yl yr) r).aC) w w8:=by
    rw[af.o]at c7;refine(C1.o.aA c7).aA (c8.sub fun k I=>?_);rw[←af.o];simp only[Tr.aC,Zl,Zu]at I⊢;rcases I with I|rfl|I;·exact .inl (E.o _ I)
    ·exact .inr (.inl rfl)
    ·exact .inr (.inr I)
   have HF:=O ae;have HI:=O i8;clear i8 c8 ae i7 c7 hb;go_wp2;go_ret;exact⟨rfl,HI.o,HF.o⟩
theorem Rk{b:Nat}{t E:Tr}(d:DropFirst t E):∀{w}(hs:Kc w b t),Cl 249 #[ptr b,t.aH] w fun e w'=>e=.returned E.aH∧Kc w' b E∧Qc (fun k=>k∈t.aC) w w':=by
 induction d with
 |last x c r=> intro w hs;refine Zz (Iq hs) ?_;rintro w' rfl;exact⟨rfl,⟨hs.top,by have:=hs.nd;simp[Tr.aC],trivial⟩,Zg _ _⟩
 |stay x c l r l' J d B=>
  intro w hs;cases l with
  |nil=>simp[Tr.red,Tr.left]at J
  |aD y cy yl yr=>exact Lu hs (.no x c _ r J) (fun k q=>(Kh d).subset q) fun w' h=>B h
 |turnA x y z yl yr V I l' h1 K d B=>exact fun hs=>Lu hs (.A x y z yl yr V I h1 K) (fun k q=>(Kh d).subset q) fun w' h=>B h
 |turnB x y z u yl yr R U I l' h1 d B=>exact fun hs=>Lu hs (.B x y z u yl yr R U I h1) (fun k q=>(Kh d).subset q) fun w' h=>B h
end
end Go.Proofs.YtnnhmpehkbihnaaGreat
