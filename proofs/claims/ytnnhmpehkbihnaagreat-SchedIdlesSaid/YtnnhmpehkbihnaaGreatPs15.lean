/- A part of the proof: no condition. -/
import Derived.Test.YtnnhmpehkbihnaaGreatPs14
namespace Go.Proofs.YtnnhmpehkbihnaaGreat
set_option linter.unusedVariables false
set_option maxRecDepth 100000
set_option maxHeartbeats 4000000
open Go.RowKit
open Go.Proofs.Tryz
section
variable{P:Program}{ops:Array Oper}{Q:Exit→Act→World→Prop}{D:World→Prop}
def Fi(P:Program)(ops:Array Oper)(Q:Exit→Act→World→Prop)(D:World→Prop)(late c:Nat→Bool):Nat→Array Bool→Act→World→Prop
 |0,listed,a,w=>Region.ready .any ops listed=[]∧Q .normal a w
 |f+1,listed,a,w=>(Region.ready .any ops listed=[]→Q .normal a w)∧
  ∀i∈Region.ready .any ops listed,wpOp P ops Q i (fun d w'=>((late i=false→w'=w)∧(late i=true→c i=false→D w'))∧Fi P ops Q D late c f (listed.setIfInBounds i true) d w') a w
theorem Mu{late d:Nat→Bool}:∀(f:Nat)(c:Array Bool)(a:Act)(w),Fi P ops Q D late d f c a w→wpAny P .any ops Q f c a w
 |0,_,_,_,h=>h
 |f+1,_,_,_,h=>⟨h.1,fun i hi=>wpOp_mono (fun k w' h'=>Mu f _ k w' h'.2) (h.2 i hi)⟩
theorem Gm{late U:Nat→Bool}{E:World→Prop}{i F:Nat}{oi:Oper}{v:Value}(hi:ops[i]? =some oi)(ac:late i=false)(Z:∀(j:Nat)(o:Oper)cs b,ops[j]? =some o→o.op≠ .select cs b)
  (hQ:∀c a w,Q (.panic c) (a.put oi.dst v) w→Q (.panic c) a w):
  ∀(f:Nat)(d:Array Bool)(a:Act)(w),Xj ops d→
   (((∀w',D w'→E w')∧∀j z,ops[j]? =some z→U j=true→d.getD j true=false→Xs ops F j i=true)∨∀j z,ops[j]? =some z→late j=true→d.getD j true=false→Xs ops F j i=true)→
   (∀j z,ops[j]? =some z→j≠i→d.getD j true=false→(∀e∈z.after,Region.binds .any e=true→e.on≠i)→oi.apart ops z=true)→
   i∈Region.ready .any ops d→YieldsIf P ops E oi v a→E w→
   Fi P ops Q D late U f (d.setIfInBounds i true) (a.put oi.dst v) w→Fi P ops Q D late U (f+1) d a w:=by
 intro f;induction f with
 |zero=>
  intro d a w aa _ _ hr hy hE H;refine⟨fun h=>(by rw[h]at hr;cases hr),fun j hj=>?_⟩;by_cases q:j=i;·subst q;exact hy.wpOp hi hE ⟨⟨fun _=>rfl,fun h1 _=>(by rw[ac]at h1;cases h1)⟩,H⟩
  ·have:=ready_mono hj q;rw[H.1]at this;cases this
 |succ f ih=>
  intro d a w aa K J hr hy hE H;have af:=(mem_ready.1 hr).1;refine⟨fun h=>(by rw[h]at hr;cases hr),fun j hj=>?_⟩;by_cases q:j=i;·subst q;exact hy.wpOp hi hE ⟨⟨fun _=>rfl,fun h1 _=>(by rw[ac]at h1;cases h1)⟩,H⟩
  ·have h1:=H.2 j (ready_mono hj q);obtain⟨u,z,B,V⟩:=mem_ready.1 hj;have R:Xs ops F j i=true→False:=fun hw=>by
    have h1:=Yw aa F j i (fun o ho e he hb=>by
     have:o=z:=Zs (ho.symm.trans B);subst this;exact V e he hb) hw
    rw[getD_both af]at h1;cases h1
   have ae:∀e∈z.after,Region.binds .any e=true→e.on≠i:=fun e he hb ag=>by have h1:=V e he hb;rw[ag,getD_both af]at h1;cases h1
   have h2:=wpOp_putIf (S:=E) B (J j z B q u ae) (fun cs b=>Z i oi cs b hi) (fun cs b=>Z j z cs b B) hQ hy h1;have I:∀k,(d.setIfInBounds j true).getD k true=false→d.getD k true=false:=fun k h=>by
    by_cases ab:j=k;·subst ab;exact u
    ·rwa[getD_set_ne true ab]at h
   refine wpOp_mono (fun a' w' h3=>⟨h3.2.1,ih (d.setIfInBounds j true) a' w' (aa.set hj) ?_ ?_ (ready_mono hr (Ne.symm q)) h3.1 ?_ ?_⟩) h2;·exact K.imp (fun h=>⟨h.1,fun k ok hk hl hu=>h.2 k ok hk hl (I k hu)⟩) fun h k ok hk hl hu=>h k ok hk hl (I k hu)
   ·exact fun k ok hk ah hu R=>J k ok hk ah (I k hu) R
   ·cases hl:late j with
    |false=>rw[h3.2.1.1 hl];exact hE
    |true=>
     rcases K with h|h
     ·cases hn:U j with
      |false=>exact h.1 w' (h3.2.1.2 hl hn)
      |true=>exact(R (h.2 j z B hn u)).elim
     ·exact(R (h j z B hl u)).elim
   ·rw[Array.setIfInBounds_comm _ _ q];exact h3.2.2
def J9(P:Program)(ops:Array Oper)(Q:Exit→Act→World→Prop)(D:World→Prop):List (Nat×Oper)→Act→World→Prop
 |[],a,w=>Q .normal a w
 |(0,o)::r,a,w=>if Region.wanted o (yielded ops a.tmps)then∃v,(execOp a.eval o).run P w=.ok (.value v) w∧J9 P ops Q D r (a.put o.dst v) w else J9 P ops Q D r (a.put o.dst undef) w
 |(1,o)::r,a,w=>if Region.wanted o (yielded ops a.tmps)then∃v,(∀w',D w'→(execOp a.eval o).run P w'=.ok (.value v) w')∧J9 P ops Q D r (a.put o.dst v) w else J9 P ops Q D r (a.put o.dst undef) w
 |(2,o)::r,a,w=>wpList P ops (Exit.then (fun c w'=>D w'∧J9 P ops Q D r c w') Q) [o] a w
 |(_+3,o)::r,a,w=>wpList P ops (Exit.then (fun c w'=>J9 P ops Q D r c w') Q) [o] a w
def Qh8:List (Nat×Nat)→List Nat
 |[]=>[]
 |(0,_)::r=>Qh8 r
 |(1,_)::r=>Qh8 r
 |(2,_)::r=>Qh8 r
 |(_+3,k)::r=>k::Qh8 r
def Qdn(ops:Array Oper)(late:List Nat)(k:Nat)(c:Array Bool):Bool:=(Region.ready .any ops c).contains k&&Region.free .any ops c k&&((ops[k]?).map (·.dst.isSome)).getD false&&!late.contains k
def xdB(ops:Array Oper)(late c:List Nat):List (Nat×Nat)→Array Bool→Bool
 |[],listed=>(Region.ready .any ops listed).isEmpty
 |(0,k)::r,listed=>Qdn ops late k listed&&(late.all fun j=>listed.getD j true||Xs ops ops.size j k)&&xdB ops late c r (listed.setIfInBounds k true)
 |(1,k)::r,listed=>Qdn ops late k listed&&(c.all fun j=>listed.getD j true||Xs ops ops.size j k)&&xdB ops late c r (listed.setIfInBounds k true)
 |(2,k)::r,listed=>decide (Region.ready .any ops listed=[k])&&late.contains k&&xdB ops late c r (listed.setIfInBounds k true)
 |(_+3,k)::r,listed=>decide (Region.ready .any ops listed=[k])&&late.contains k&&c.contains k&&(r.all fun x=>x.1 != 1)&&xdB ops late c r (listed.setIfInBounds k true)
theorem E7{late:List Nat}{k:Nat}{c:Array Bool}(h:Qdn ops late k c=true):k∈Region.ready .any ops c∧Region.free .any ops c k=true∧late.contains k=false∧∃o d,ops[k]? =some o∧o.dst=some d:=by
 simp only[Qdn,Zw,Bool.not_eq_true']at h;obtain⟨⟨⟨hr,hf⟩,q⟩,hl⟩:=h;have u:k∈Region.ready .any ops c:=by simpa using hr
 obtain⟨_,o,h0,_⟩:=mem_ready.1 u;rw[h0]at q;simp only[Zn,Option.getD_some]at q;obtain⟨d,q⟩:=Option.isSome_iff_exists.1 q;exact⟨u,hf,hl,o,d,h0,q⟩
theorem Qcd{late aa:List Nat}(z:Region.noSelect ops=true)(hQ:∀c(a:Act)(d:Tmp)v w,Q (.panic c) (a.put (some d) v) w→Q (.panic c) a w):
  ∀(r:List (Nat×Nat))(q:Array Bool)(a:Act)(w),Xj ops q→(D w∨(r.all fun x=>x.1 != 1)=true)→xdB ops late aa r q=true→J9 P ops Q D (Jk ops r) a w→
   Fi P ops Q D (fun j=>late.contains j) (fun j=>aa.contains j) r.length q a w
 |[],q,a,w,hcl,I,hB,h=>⟨by simpa[xdB]using hB,h⟩
 |(0,k)::r,q,a,w,hcl,I,hB,h=>by
  simp only[xdB,Zw]at hB;obtain⟨⟨U,Z⟩,B⟩:=hB;obtain⟨u,hf,hl,o,d,h0,hd⟩:=E7 U;rw[Kq h0]at h;simp only[J9]at h;have hy:∃v,YieldsIf P ops (fun w'=>w'=w) o v a∧J9 P ops Q D (Jk ops r) (a.put o.dst v) w:=by
   by_cases J:Region.wanted o (yielded ops a.tmps)=true;·simp only[J,if_true]at h;obtain⟨v,h1,E⟩:=h;exact⟨v,.inl ⟨J,fun w' e=>by rw[e];exact h1⟩,E⟩
   ·simp only[J]at h;exact⟨undef,.inr ⟨by simpa using J,rfl⟩,h⟩
  obtain⟨v,hy,hK⟩:=hy;exact Gm (F:=ops.size) h0 hl (Region.noSelect_spec z) (fun c K w' hq=>by rw[hd]at hq;exact hQ c K d _ w' hq) _ q a w hcl
   (.inr fun j oj hj hl hu=>by
    have:=List.all_eq_true.1 Z j (by simpa using hl);rw[hu]at this;simpa using this) (Region.free_spec h0 hf) u hy rfl
   (Qcd z hQ r _ _ w (hcl.set u) (I.imp id fun h=>by simpa using h) B hK)
 |(1,k)::r,q,a,w,hcl,I,hB,h=>by
  simp only[xdB,Zw]at hB;obtain⟨⟨U,Z⟩,B⟩:=hB;have I:D w:=I.elim id fun h=>by simp at h
  obtain⟨u,hf,hl,o,d,h0,hd⟩:=E7 U;rw[Kq h0]at h;simp only[J9]at h;have hy:∃v,YieldsIf P ops D o v a∧J9 P ops Q D (Jk ops r) (a.put o.dst v) w:=by
   by_cases J:Region.wanted o (yielded ops a.tmps)=true;·simp only[J,if_true]at h;obtain⟨v,h1,E⟩:=h;exact⟨v,.inl ⟨J,h1⟩,E⟩
   ·simp only[J]at h;exact⟨undef,.inr ⟨by simpa using J,rfl⟩,h⟩
  obtain⟨v,hy,hK⟩:=hy;exact Gm (F:=ops.size) h0 hl (Region.noSelect_spec z) (fun c K w' hq=>by rw[hd]at hq;exact hQ c K d _ w' hq) _ q a w hcl
   (.inl ⟨fun _ h=>h,fun j oj hj hl hu=>by
    have:=List.all_eq_true.1 Z j (by simpa using hl);rw[hu]at this;simpa using this⟩) (Region.free_spec h0 hf) u hy I
   (Qcd z hQ r _ _ w (hcl.set u) (.inl I) B hK)
 |(2,k)::r,q,a,w,hcl,I,hB,h=>by
  simp only[xdB,Zw,decide_eq_true_eq]at hB;obtain⟨⟨h1,hl⟩,B⟩:=hB;have u:k∈Region.ready .any ops q:=by rw[h1];simp
  obtain⟨_,o,h0,_⟩:=mem_ready.1 u;rw[Kq h0]at h;simp only[J9]at h;refine⟨fun E=>(by rw[h1]at E;cases E),fun i hi=>?_⟩;rw[h1]at hi;have R:i=k:=by simpa using hi
  subst R;refine wpOp_mono (fun K w' h'=>⟨⟨fun h=>absurd (show late.contains i=false from h) (by rw[hl];decide),fun _ _=>h'.1⟩,?_⟩) (Ko h0 h);exact Qcd z hQ r _ K w' (hcl.set u) (.inl h'.1) B h'.2
 |(n+3,k)::r,q,a,w,hcl,I,hB,h=>by
  simp only[xdB,Zw,decide_eq_true_eq]at hB;obtain⟨⟨⟨⟨h1,hl⟩,hn⟩,V⟩,B⟩:=hB;have u:k∈Region.ready .any ops q:=by rw[h1];simp
  obtain⟨_,o,h0,_⟩:=mem_ready.1 u;rw[Kq h0]at h;simp only[J9]at h;refine⟨fun E=>(by rw[h1]at E;cases E),fun i hi=>?_⟩;rw[h1]at hi;have R:i=k:=by simpa using hi
  subst R;refine wpOp_mono (fun K w' h'=>⟨⟨fun h=>absurd (show late.contains i=false from h) (by rw[hl];decide),fun _ h=>absurd (show aa.contains i=false from h) (by rw[hn];decide)⟩,?_⟩) (Ko h0 h);exact Qcd z hQ r _ K w' (hcl.set u) (.inr V) B h'
theorem Jp{id:Nat}{a:Act}{w}{l:List Oper}(k:List (Nat×Nat))(D:World→Prop)(J:P.follows .mixedOrders=true)
  (z:(Region.noSelect l.toArray&&(decide (k.length=l.toArray.size)&&xdB l.toArray (Rb k) (Qh8 k) k (Array.replicate l.toArray.size false)))=true)
  (I:∀c(a:Act)(d:Tmp)v w,Q (.panic c) (a.put (some d) v) w→Q (.panic c) a w) (E:D w.drew) (h:J9 P l.toArray Q D (Jk l.toArray k) a w.drew):
  (Code.region id l.toArray true).wp P Q a w:=by
 simp only[Zw,decide_eq_true_eq]at z;obtain⟨u,q,z⟩:=z;refine wp_region_any J ?_;have B:Xj l.toArray (Array.replicate l.toArray.size false):=fun j K _ hl=>by rw[getD_replicate_false]at hl;cases hl
 have:=Qcd (P:=P) (D:=D) u I k _ a _ B (.inl E) z h;rw[q]at this;exact Mu _ _ _ _ this
variable{r:List (Nat×Oper)}{a:Act}{o:Oper}{w:World}
theorem Ky(h:Q .normal a w):J9 P ops Q D [] a w:=h
theorem Xe{v:Value}(d:Region.wanted o (yielded ops a.tmps)=true)(c:(execOp a.eval o).run P w=.ok (.value v) w)(h:J9 P ops Q D r (a.put o.dst v) w):J9 P ops Q D ((0,o)::r) a w:=by simp only[J9,d,if_true];exact⟨v,c,h⟩
theorem Qy{v:Value}(d:Region.wanted o (yielded ops a.tmps)=true)(c:∀w',D w'→(execOp a.eval o).run P w'=.ok (.value v) w')(h:J9 P ops Q D r (a.put o.dst v) w):J9 P ops Q D ((1,o)::r) a w:=by simp only[J9,d,if_true];exact⟨v,c,h⟩
theorem Yb(h:wpList P ops (Exit.then (fun c w'=>D w'∧J9 P ops Q D r c w') Q) [o] a w):J9 P ops Q D ((2,o)::r) a w:=h
theorem Km(h:wpList P ops (Exit.then (fun c w'=>J9 P ops Q D r c w') Q) [o] a w):J9 P ops Q D ((3,o)::r) a w:=h
end
section
attribute [local go_sem] Qp
theorem Wk(m:Nat)(w):(binOp .eql 210 (.map (some m)) (.map none)).run prog w=.ok (.bool false) w:=by kernel_rfl
attribute [local go_sem] Wk
theorem Yu.ne{m:Nat}{ad:Int→Nat}{w}{F:Fp}{b:Nat}{f:Jc}(h:Yu m ad w F b f):b≠m:=by obtain⟨l,z,u,G,H,h1,⟨_,q,_,k,_,_,d,_⟩,c,_⟩:=h;rintro rfl;exact c _ h1.2.1 (d _ k.at_)
theorem Qeh{w}{F:Fp}{b:Nat}{f:Jc}(h:J0 w F b f)(i:Int)(c:Jy)(hc:c.May):
  Cl 127 #[ptr b,.int .i64 i,cV c] w fun e w'=>(∃r,e=.returned (.bool r))∧J0 w' (Qn F w w') b (f.add i c)∧Qc F w w':=by
 obtain⟨W,hW⟩:=Zx (w.alloc (.cells #[.int .u64 c.f,.int .u64 c.l,.int .u64 c.r] 38));have C0:Hi (Qc Qb w W):=O (by rw[hW];exact(Zg _ _).alloc _);have B0:Hi (Qh W w.heap.size #[.int .u64 c.f,.int .u64 c.l,.int .u64 c.r] 38):=O (by rw[hW];exact Qh.new _ _ _);obtain⟨m,ad,J⟩:=h.addr;obtain⟨V,ag⟩:=J.same C0.o;have al:=O (J0.obj.bd h);have I:=O (V.at_any i);have HM:=O (fun w=>K8 c w);rw[decide_eq_true hc]at HM;unfold Jc.add;unfold Qk3 at I;cases hx:f.at i with
 |some x=> have E:=O V;have q:=V.blk;rw[hW]at q;obtain⟨a0,a1⟩:=Q4 q;clear q;rw[hx]at I;dsimp only[atP]at I⊢;unfold ptr cV at*;clear h V hx J ag;go_enter func127,ntmps127;go_wp2_with fail;rw[←hW]at a0 a1⊢;clear hW;refine Zy I ?_;rintro w1 rfl;go_wp2;go_ret;exact⟨⟨_,rfl⟩,E.o.is,C0.o.none⟩
 |none=>
  have HN:=O (fun w=>Cv c hc w);have ao:=O V.ne;obtain⟨l,hp,hs⟩:=V;obtain⟨G0,hB,_⟩:=J6 (Yc b m f.mark ad l) 0 rfl hs;obtain⟨G,K,hG,ae,B⟩:=Xv 1 (Yc b m f.mark ad l) rfl hs;have hB:=hB.1;have BB:=O hB;have am:=O K;have ai:Hn Jh.id i l=none:=by rw[←Jc.at_eq hp K.nodup];exact hx
  have q:=hB;rw[hW]at q;obtain⟨a0,a1⟩:=Q4 q;clear q;have E:Hi (∀w3 p H,Yv w3 H p (.new c)→(∀k,H k→W.heap.size≤k)→Qc Qb W w3→∀w4,w4=w3.alloc (.cells #[.int .u64 0,.int .u64 0,ptr p,.bool false] 215)→∃w5,(Instr.mapUpdate 210 (.map (some m)) (.int .i64 i) (ptr w3.heap.size)).run prog w4=.ok () w5∧J0 w5 (Qn F w w5) b ⟨f.all++[(⟨i,0,0,.new c,false⟩:Jh)],f.mark⟩∧Qc F w w5∧Qc (fun k=>k=m) w4 w5):=O (by
   rintro w3 p H Z hH U w4 rfl;have ac:Qc Qb w3 (w3.alloc (.cells #[.int .u64 0,.int .u64 0,ptr p,.bool false] 215)):=(Zg _ _).alloc _;have c4:=U.aA ac;obtain⟨w5,aj,u,c5⟩:=X6 (P:=prog) (K.map.aB c4 (fun h=>h)) underlying210 underlying3 i (ptr w3.heap.size);have Xg:W.heap.size≤w3.heap.size:=U.size;have hX:Vj (w3.alloc (.cells #[.int .u64 0,.int .u64 0,ptr p,.bool false] 215)) (Qn Qb W (w3.alloc (.cells #[.int .u64 0,.int .u64 0,ptr p,.bool false] 215))) w3.heap.size (⟨i,0,0,.new c,false⟩:Jh):=
    O1.new (p:=p) (G:=H) (runP.aB Z ac (Jl.none _)) hH runP (Qh.new _ _ _) Xg (fun d=>absurd (runP.bd Z _ d) (by omega))
   have an:=K.aB Vj.obj c4 (Jl.none G);have R:=an.put Vj.obj hX (fun k a b=>by
    have:=ae k (hG k b);rcases(Qr k).1 a with⟨q,_⟩;omega) (key:=Jh.id) ai u c5
   have cG:Qc G W w5:=(c4.none (F:=G)).aA (c5.sub fun k d=>d▸K.at_);have h5:=B w5 (fun w G=>Yn Jh.id Vj w G m (fun j=>if j=i then w3.heap.size else ad j) (l++[(⟨i,0,0,.new c,false⟩:Jh)])) cG
    (R.more (fun k d=>d.elim .inl (fun d=>.inr ⟨((Qr k).1 d).1,Nat.lt_of_lt_of_le ((Qr k).1 d).2 c5.size⟩)) (K.bd.ext cG))
   have cF:Qc (Qn F w W) W w5:=cG.sub hG;obtain⟨r1,r2⟩:=J0.obj.two (F:=F) (w:=w) (w1:=W) (w2:=w5) (b:=b) (z:=⟨f.all++[(⟨i,0,0,.new c,false⟩:Jh)],f.mark⟩) ⟨m,(fun j=>if j=i then w3.heap.size else ad j),l++[(⟨i,0,0,.new c,false⟩:Jh)],hp.append_right _,h5⟩ al.o C0.o.none cF;exact⟨w5,aj,r1,r2,c5⟩)
  rw[hx]at I;dsimp only[atP]at I⊢;unfold ptr cV at*;clear h hx hs B hG ae K hp J ag ai hB am;go_enter func127,ntmps127;go_wp2_with fail;rw[←hW]at a0 a1⊢;clear hW;refine Zy I ?_;rintro w1 rfl;obtain⟨b0,b1,b2⟩:=L6 B0.o;go_wp2_with fail;refine Zz (HM.o _) ?_;intro w2 c2;have C2:=O c2;obtain⟨d0,d1,d2⟩:=L6 (c2.blk B0.o (fun h=>h)).drew;clear c2 a0 a1 b0 b1 b2;go_wp2_with fail;have B2:=O (C2.o.blk BB.o (fun h=>h));refine Jp [(1,0),(1,1),(1,2),(1,3),(1,4),(0,5),(2,6),(0,7),(2,8),(3,9)] (fun wv=>Qc (fun k=>k=m) (w2) wv) Zq (by kernel_rfl) (fun _ _ _ _ _ h=>h) (Zj (Zg _ _)) ?_;simp only[Jk,Zf,Ze,Zd];iterate 5 (refine Qy (by kernel_rfl) (fun wv hv=>by(have zz:=hv.blk B2.o ao.o;obtain⟨y0,y1⟩:=Q4 zz);go_simp;try rfl) ?_;try simp only[Act.put,Za,Zc,Zb])
  refine Xe (by kernel_rfl) (by go_simp;try rfl) ?_;clear d0 d1 d2;refine Yb ?_;go_wp2_with fail;refine(HN.o _).mono ?_;rintro e w3⟨p,rfl,Z,U⟩;have aa:=O (U.undrew.none (F:=fun k=>k=m));have C3:=O (C2.o.aA U.undrew);have HR:=O Z;have ak:=O (fun k(d:Qn Qb w2.drew w3 k)=>show W.heap.size≤k from Zp C2.o.size ((Qr k).1 d).1);have ab:=O (E.o w3 p _ Z ak.o C3.o _ rfl);clear U Z;go_wp2_with fail;refine⟨aa.o,?_⟩;refine Xe (by kernel_rfl) (by go_simp;try rfl) ?_;refine Yb ?_;go_wp2_with fail;refine⟨aa.o.alloc _,?_⟩;obtain⟨w5,ap,ah,af,u⟩:=ab.o;have F5:=O ah;have C5:=O af;have M5:=O u;clear ah af u;refine Km ?_;go_wp2_with fail;refine Ky ?_;go_wp2;go_ret;exact⟨⟨_,rfl⟩,F5.o,C5.o⟩
end
section
open Go.Shelf
attribute [local go_sem] Oper.semAt_some Qp
theorem Le.far{T S:Fp}{W w1 w2}(h:Le T W w1)(hc:Qc S w1 w2)(d:∀k,S k→W.heap.size≤k):Le T W w2:=fun b o q h1 c=>by have Xg:=(Z2.1 h1).1;exact hc.heap (h b o q h1 c) (fun hs=>by have:=d b hs;omega)
theorem Kj.kpt{T:Fp}{w w'}{b r:Nat}{l left:List (Int×Value)}(h:Kj w b r l left)(k:Le T w w')(K:T b)(hr:T r):Kj w' b r l left:=by obtain⟨q,c,d,h1,u,z,B,E,I,J⟩:=h;exact⟨q,c,d,k b _ K h1 (.inr rfl),u,z,B,E,k r _ hr I (.inr rfl),J⟩
theorem O8{X:Type}{key:X→Int}{x:X}:∀{l:List X},(l.map key).Nodup→x∈l→l.Perm (x::Kp key (key x) l)
 |y::l,hn,c=>by
  simp only[List.map_cons,List.nodup_cons]at hn;rcases Zu.1 c with rfl|c
  ·have:Kp key (key x) (x::l)=l:=by unfold Kp;rw[List.filter_cons_of_neg (by simp)];refine List.filter_eq_self.2 fun z k=>?_;have:key z≠key x:=fun e=>hn.1 (Z3.2 ⟨z,k,e⟩);simpa using this
   rw[this]
  ·have d:key y≠key x:=fun e=>hn.1 (Z3.2 ⟨x,c,e.symm⟩);have:Kp key (key x) (y::l)=y::Kp key (key x) l:=by unfold Kp;rw[List.filter_cons_of_pos (by simpa using d)]
   rw[this];exact((O8 hn.2 c).cons y).trans (.swap x y _)
theorem Hr{X:Type}{key:X→Int}{ad:Int→Nat}(i:Int)(l:List X):Vu i (Xy key ad l)=Xy key ad (Kp key i l):=by simp only[Xy,Kp,Vu,List.filter_map];rfl
def Qt1(ad:Int→Nat){l:List Jh}(x:{x:Jh//x∈l}):Array Value:=#[.int .i64 x.1.id,ptr (ad x.1.id)]
structure Ah(w:World)(b m:Nat)(ad:Int→Nat)(pr:Int→Nat)(l:List Jh)(mark:Nat):Prop where
 blk:Qh w b #[.map (some m),.int .u64 mark] 212
 map:Xq w m (Xy Jh.id ad l)
 mem:∀x∈l,Qh w (ad x.id) (Pp x (pr x.id)) 215
theorem Ah.aB{S:Fp}{w w'}{b m:Nat}{ad pr:Int→Nat}{l:List Jh}{mark:Nat}(h:Ah w b m ad pr l mark)(c:Qc S w w')(k:¬S b)(q:¬S m)(ha:∀x∈l,¬S (ad x.id)):Ah w' b m ad pr l mark where
 blk:=c.blk h.blk k
 map:=h.map.aB c q
 mem:=fun x d=>c.blk (h.mem x d) (ha x d)
def Dq(w:World)(r:Nat):Nat:=match w.heap[r]? with
 |some (.mapIter (some b) _ seen _)=>(match w.heap[b]? with
  |some (.map es _)=>(leftOf es seen).size
  |_=>0)
 |_=>0
theorem Kj.left_eq{w}{b r:Nat}{l left:List (Int×Value)}(h:Kj w b r l left):Dq w r=left.length:=by
 obtain⟨k,d,c,h1,z,B,E,I,q,J,u,K⟩:=h;have:(leftOf k c).size=left.length:=by simpa using congrArg List.length u
 simp[Dq,q,h1,this]
theorem Qc.grownRow{w w'}{r:Nat}(h:Qc (fun k=>k=r) w w'):w.grownBy w' (some r):=⟨h.os,h.tape,h.output,h.size,fun k d c=>h.block k d (fun e=>c (by rw[e]))⟩
theorem Qhf(w:World)(o:Obj):w.grownBy (w.alloc o) none:=⟨rfl,rfl,rfl,by simp,fun k c _=>Below.heap_alloc _ _ _ c⟩
theorem Kj.walk{w}{b r:Nat}{l left:List (Int×Value)}(h:Kj w b r l left):∃o:Obj,w.heap[r]? =some o∧o.isWalk=true:=by obtain⟨q,c,d,h1,u,z,B,E,k,_⟩:=h;exact⟨_,k,rfl⟩
theorem Qu8(n l' Bf b m mark:Nat)(hn:1≤n)(T:Fp)(ad pr:Int→Nat)(l:List Jh)(an:(l.map Jh.id).Nodup)(J Jx:List {x:Jh//x∈l}→World→Prop)(W:World)
  (hJ:AbidesFrom W.heap.size J) (hB:Qh W Bf #[ptr b] 141) (hV:Ah W b m ad pr l mark)
  (aw:T Bf) (av:T b) (ak:T m) (aj:∀x∈l,T (ad x.id)) (al:∀k,W.heap.size≤k→T k)
  (hY:∀c x W1,J c W1→c.length<l.length→YieldAt Fence.wide (n-1) prog l' (Qt1 ad x) W1 fun e W'=>
   (e=.returned (.bool true)∧J (c++[x]) W'∧Le T W1 W')∨(e=.returned (.bool false)∧Jx (c++[x]) W')) (h0:J [] W):
  CallsIn Fence.wide n prog 238 #[.func (.yield l') #[] #[],.pointer (some ⟨Bf,0,none⟩)] W fun e W'=>(∃v,e=.returned v)∧
   ((∃ys,(ys.map (·.1)).Perm (l.filter (·.aL))∧J ys W')∨(∃c,True∧Jx c W')):=by
 obtain⟨o,a1,B⟩:=Er (P:=prog) hV.map underlying210;have c0:=Jf hB;obtain⟨c1,c2⟩:=Q4 hV.blk;have ah:Hi (∃q c,Kj (W.alloc o) m W.heap.size (Xy Jh.id ad l) (Xy Jh.id ad q)∧q.Sublist l∧(c.map (·.1)++q.filter (·.aL)).Perm (l.filter (·.aL))∧c.length+q.length≤l.length∧J c (W.alloc o)∧Le T W (W.alloc o)):=
  O ⟨l,[],B,List.Sublist.refl _,List.Perm.refl _,by simp,hJ _ _ _ none h0 (Qhf W o) (fun r e=>by cases e),Le.far (fun b o _ h _=>h:Le T W W) ((Zg Qb W).alloc o) (fun _ h=>h.elim)⟩
 have HV:=O hV;have HJ:=O hJ;have HY:=O hY;have au:=O aj;have HT:=O (Zt ak al);unfold ptr at*;clear hB hV hJ hY B h0 aw av ak aj al;refine callsIn_of_wp func238 rfl trivial ?_ rfl;simp only[ntmps238,List.size_toArray,Zm,List.length_nil,Nat.reduceAdd,Nat.reduceSub,Array.replicate_succ,Array.replicate_zero,List.push_toArray,List.append_toArray,List.nil_append,List.cons_append];gi_wp2;gi_loopw [3,4] (fun _ _ wr=>∃q c,Kj wr m W.heap.size (Xy Jh.id ad l) (Xy Jh.id ad q)∧q.Sublist l∧(c.map (·.1)++q.filter (·.aL)).Perm (l.filter (·.aL))∧c.length+q.length≤l.length∧J c wr∧Le T W wr) (fun _ _ wr=>Dq wr W.heap.size);case atStart=>exact ah.o
 case round=>
  obtain⟨q,c,B,z,d,V,hj,hk⟩:=hrel;rcases Rx (P:=prog) B 0 with⟨h0,hr⟩|⟨p,hp,w2,hr,u,aa,am⟩
  ·have ay:q=[]:=by
    cases q with
    |nil=>rfl
    |cons a l=>cases h0
   subst ay;have aq:=O (show(c.map (·.1)).Perm (l.filter (·.aL)) by simpa using d);have ar:=O hj;clear B z d V hj hk;gi_wp2;go_end0;exact⟨⟨_,rfl⟩,.inl ⟨c,aq.o,ar.o⟩⟩
  ·obtain⟨x,hx,rfl⟩:=Z3.1 hp;have I:=z.subset hx;have R:Le T W w2:=Le.far hk aa (fun k e=>by rw[e];exact Zv _);have ab:J c w2:=HJ.o c wr w2 (some W.heap.size) hj aa.grownRow (fun r e=>by cases e;exact⟨Zv _,B.walk⟩);have hM:Qh w2 (ad x.id) (Pp x (pr x.id)) 215:=R.blk (HV.o.mem x I) (au.o x I);obtain⟨d0,d1,d2,d3⟩:=X9 hM;have Xg:Dq w2 W.heap.size<Dq wr W.heap.size:=by rw[u.left_eq,B.left_eq,Hr];have:=(O8 (key:=Jh.id) (an.sublist (z.map _)) hx).length_eq;simp only[Xy,List.length_map,Zm]at*;omega
   dsimp only at u;rw[Hr]at u;have K:=O8 (key:=Jh.id) (an.sublist (z.map _)) hx;have E:(Kp Jh.id x.id q).Sublist l:=List.filter_sublist.trans z;dsimp only at hr am;unfold ptr at hr am;cases ac:x.aL with
   |false=>
    rw[ac]at d3;have ag:Hi (∃q c,Kj w2 m W.heap.size (Xy Jh.id ad l) (Xy Jh.id ad q)∧q.Sublist l∧(c.map (·.1)++q.filter (·.aL)).Perm (l.filter (·.aL))∧c.length+q.length≤l.length∧J c w2∧Le T W w2):=O (by
     refine⟨Kp Jh.id x.id q,c,u,E,?_,?_,ab,R⟩;·refine(List.Perm.append_left (c.map (·.1)) ?_).trans d;have:=(K.filter (·.aL)).symm;rwa[List.filter_cons_of_neg (by rw[ac];decide)]at this
     ·have:=K.length_eq;simp at this;omega)
    have LT:=O Xg;clear B z d V hj hk u aa R ab hM Xg K E hx I hp;gi_wp2;refine⟨fun _ h=>(by cases h),?_⟩;gi_wp2;go_roundw;case rel=>exact ag.o
    case measure=>exact LT.o
   |true=>
    rw[ac]at d3;have ao:c.length<l.length:=by have:=List.length_pos_of_mem hx;omega
    obtain⟨fn,a0,ap,az,hy,hR⟩:=HY.o c ⟨x,I⟩ w2 ab ao;have HR:=O hR;have ag:Hi (∀Z,J (c++[⟨x,I⟩]) Z→Le T w2 Z→(∃q c,Kj Z m W.heap.size (Xy Jh.id ad l) (Xy Jh.id ad q)∧q.Sublist l∧(c.map (·.1)++q.filter (·.aL)).Perm (l.filter (·.aL))∧c.length+q.length≤l.length∧J c Z∧Le T W Z)∧Dq Z W.heap.size<Dq wr W.heap.size):=O (by
     intro Z ax U;have af:=u.kpt U HT.o.1 (HT.o.2 _ (Zv _));refine⟨⟨Kp Jh.id x.id q,c++[⟨x,I⟩],af,E,?_,?_,ax,R.trans U⟩,?_⟩
     ·have e:(c++[(⟨x,I⟩:{x:Jh//x∈l})]).map (·.1)++(Kp Jh.id x.id q).filter (·.aL)=c.map (·.1)++(x::(Kp Jh.id x.id q).filter (·.aL)):=by simp
      rw[e];refine(List.Perm.append_left (c.map (·.1)) ?_).trans d;have:=(K.filter (·.aL)).symm;rwa[List.filter_cons_of_pos (by rw[ac])]at this
     ·have:=K.length_eq;simp at this⊢;omega
     ·rw[af.left_eq,←u.left_eq];exact Xg)
    unfold Qt1 ptr at hy;clear B z d V hj hk u aa R ab hM Xg K E hx hp hR ao;gi_wp2;refine HR.o.mono ?_;clear hy;rintro e Z(⟨rfl,ai,U⟩|⟨rfl,ae⟩)
    ·have R3:=O (ag.o Z ai U);clear ai U;gi_wp2;go_roundw;case rel=>exact R3.o.1
     case measure=>exact R3.o.2
    ·have X3:=O ae;clear ae;gi_wp2;refine bodyPost_ret (results_none rfl _ _ _) rfl ?_;exact⟨⟨_,rfl⟩,.inr ⟨_,trivial,X3.o⟩⟩
theorem Qs0(n c b m mark:Nat)(hn:1≤n)(T:Fp)(ad pr:Int→Nat)(l:List Jh)(E:(l.map Jh.id).Nodup)(w)(K:Qh w c #[ptr b] 141)(U:Ah w b m ad pr l mark)
  (u:T c) (q:T b) (z:T m) (d:∀x∈l,T (ad x.id)) (B:∀k,w.heap.size≤k→T k):
  SeqStopsK Fence.wide n prog 238 #[.pointer (some ⟨c,0,none⟩)] (Qt1 ad (l:=l)) (Le T) (fun ys=>(ys.map (·.1)).Perm (l.filter (·.aL))) (fun _=>True) l.length w:=fun l' J I W hW R _ V h0=>
 Qu8 n l' c b m mark hn T ad pr l E J I W R ((Qc.ofBelow (S:=Qb) hW).blk K (fun h=>h)) (U.aB (Qc.ofBelow (S:=Qb) hW) (fun h=>h) (fun h=>h) (fun _ _ h=>h)) u q z d (fun k Z=>B k (Zp hW.size Z)) V h0
theorem Qs1(b:Nat)(w):Cl 225 #[ptr b] w fun e w'=>e=.returned (.func (.func 238) #[] #[.pointer (some ⟨w.heap.size,0,none⟩)])∧w'=w.alloc (.cells #[ptr b] 141):=by unfold ptr;go_enter func225,ntmps225;go_wp2;go_ret;exact⟨rfl,rfl⟩
end
section
variable{n rl:Nat}{P:Program}{ops:Array Oper}{Q:Exit→Act→World→Prop}{C:World→Prop}
abbrev rF(rl:Nat):Fence:=Fence.wide.inRound rl
def Gh(o:Oper):Bool:=match o.op with| .defer _=>false|_=>true
theorem Qfg{o:Oper}(h:Gh o=true):∀c,o.op≠ .defer c:=fun c e=>by unfold Gh at h;rw[e]at h;cases h
theorem Qbq{o:Oper}(h:Gh o=true)(ρ:Operand→Value):o.semAt (rF rl).round ρ=execOp ρ o:=Oper.semAt_eq _ ρ o (Qfg h)
theorem Se{i:Nat}{o:Oper}{v:Value}{a:Act}(hi:ops[i]? =some o)(c:Gh o=true)(u:YieldsIf P ops C o v a)
  {K:Act→World→Prop}{w}(k:C w)(h:K (a.put o.dst v) w):wpOpIn (rF rl) n P ops Q i K a w:=by
 unfold Go.wpOpIn;simp only[hi];rcases u with⟨d,q⟩|⟨d,rfl⟩;·simp only[d,if_true,Oper.wpIn];refine⟨fun f _=>trivial,?_⟩;rw[Qbq c,q w k];exact h
 ·simp only[d,Bool.false_eq_true,if_false];exact⟨fun f _=>trivial,h⟩
theorem Qjp{j:Nat}{k q:Oper}{v:Value}(hj:ops[j]? =some q)(J:Gh q=true)(V:k.apart ops q=true)
  (Z:∀cs b,k.op≠ .select cs b)(aa:∀cs b,q.op≠ .select cs b)
  (U:∀c a w,Q (.panic c) (a.put k.dst v) w→Q (.panic c) a w){K:Act→World→Prop}{a:Act}{w}
  (B:YieldsIf P ops C k v a) (h:wpOpIn (rF rl) n P ops Q j K (a.put k.dst v) w):
  wpOpIn (rF rl) n P ops Q j (fun a' w'=>YieldsIf P ops C k v a'∧K (a'.put k.dst v) w') a w:=by
 obtain⟨h1,E,h3⟩:=Oper.apart_spec V;have aB:∀(a:Act),YieldsIf P ops C k v a→∀u,YieldsIf P ops C k v (a.put q.dst u):=fun a B u=>
  B.of_same (execOp_put k Z a q.dst u h3) (wanted_put k a q.dst u h3)
 have I:∀d,YieldsIf P ops C k v {a with defers:=d::a.defers}:=fun d=>B.of_same rfl rfl;unfold wpOpIn at*;simp only[hj]at*;rw[wanted_put q a k.dst v h1]at h;split
 ·rename_i hw;simp only[hw,if_true]at h;unfold Oper.wpIn at*;refine⟨fun f _=>trivial,?_⟩;have h:=h.2;rw[Qbq J,execOp_put q aa a k.dst v h1]at h;rw[Qbq J];generalize(execOp a.eval q).run P w=r at*;cases r with
  |ok x w'=>
   cases x<;>simp only[Oper.uponIn]at h⊢;case value u=>exact⟨aB a B u,by rw[←Act.put_comm a v u E];exact h⟩
   case skip=>exact⟨aB a B _,by rw[←Act.put_comm a v undef E];exact h⟩
   case defer d=> refine⟨aB _ (I d) _,?_⟩;rw[←Act.put_comm _ v undef E,←Act.put_defers];exact h
   case enter f args=>
    refine⟨h.1,CallsIn.mono h.2 fun e R z=>?_⟩;cases e with
    |returned u=>exact⟨aB a B u,by rw[←Act.put_comm a v u E];exact z⟩
    |panicked c=>exact U _ _ _ z
    |outgrown=>exact z
   case row row args=>exact⟨h.1,RowsIn.mono h.2 fun u R z=>⟨aB a B u,by rw[←Act.put_comm a v u E];exact z⟩⟩
   case round l f tmps assign body=>
    refine⟨h.1,RoundIn.mono h.2 fun e R z=>?_⟩;cases e with
    |returned u=>exact⟨aB a B u,by rw[←Act.put_comm a v u E];exact z⟩
    |panicked c=>exact U _ _ _ z
    |outgrown=>exact z
  |halt x w'=> cases x<;>simp only[Oper.uponIn]at h⊢;case panic u=>exact U _ _ _ h
 ·rename_i hw;simp only[hw]at h;exact⟨fun f _=>trivial,aB a B _,by rw[←Act.put_comm a v undef E];exact h.2⟩
theorem Qco{i:Nat}{o:Oper}{K:Act→World→Prop}{a:Act}{w}(h0:ops[i]? =some o)(h:wpListIn (rF rl) n P ops (Exit.then K Q) [o] a w):wpOpIn (rF rl) n P ops Q i K a w:=by
 unfold wpOpIn;simp only[h0];simp only[wpListIn]at h;split
 ·rename_i c;simp only[c,if_true]at h;unfold Oper.wpIn at*;refine⟨h.1,?_⟩;have h:=h.2;generalize(o.semAt (rF rl).round a.eval).run P w=r at*;cases r with
  |ok x w'=>cases x<;>simp only[Oper.uponIn]at h⊢<;>exact h
  |halt x w'=>cases x<;>simp only[Oper.uponIn]at h⊢<;>exact h
 ·rename_i c;simp only[c]at h;exact h
def Bj(rl n:Nat)(P:Program)(ops:Array Oper)(Q:Exit→Act→World→Prop)(late:Nat→Bool):Nat→Array Bool→Act→World→Prop
 |0,listed,a,w=>Region.ready .any ops listed=[]∧Q .normal a w
 |f+1,listed,a,w=>(Region.ready .any ops listed=[]→Q .normal a w)∧
  ∀i∈Region.ready .any ops listed,wpOpIn (rF rl) n P ops Q i (fun c w'=>(late i=false→w'=w)∧Bj rl n P ops Q late f (listed.setIfInBounds i true) c w') a w
theorem Tn{late:Nat→Bool}:∀(f:Nat)(c:Array Bool)(a:Act)(w),Bj rl n P ops Q late f c a w→wpAnyIn (rF rl) n P .any ops Q f c a w
 |0,_,_,_,h=>h
 |f+1,_,_,_,h=>⟨h.1,fun i hi=>wpOpIn_mono (fun d w' h'=>Tn f _ d w' h'.2) (h.2 i hi)⟩
theorem Tp(B:∀(j:Nat)(o:Oper),ops[j]? =some o→Gh o=true){late:Nat→Bool}{D:World→Prop}{i F:Nat}{oi:Oper}{v:Value}(hi:ops[i]? =some oi)(U:∀(j:Nat)(o:Oper)cs b,ops[j]? =some o→o.op≠ .select cs b)
  (hQ:∀c a w,Q (.panic c) (a.put oi.dst v) w→Q (.panic c) a w):
  ∀(f:Nat)(d:Array Bool)(a:Act)(w),Xj ops d→
   ((∀w',D w')∨∀j J,ops[j]? =some J→late j=true→d.getD j true=false→Xs ops F j i=true)→
   (∀j J,ops[j]? =some J→j≠i→d.getD j true=false→(∀e∈J.after,Region.binds .any e=true→e.on≠i)→oi.apart ops J=true)→
   i∈Region.ready .any ops d→YieldsIf P ops D oi v a→D w→
   Bj rl n P ops Q late f (d.setIfInBounds i true) (a.put oi.dst v) w→Bj rl n P ops Q late (f+1) d a w:=by
 intro f;induction f with
 |zero=>
  intro d a w V _ _ hr hy Z H;refine⟨fun h=>(by rw[h]at hr;cases hr),fun j hj=>?_⟩;by_cases u:j=i;·subst u;exact Se hi (B _ _ hi) hy Z ⟨fun _=>rfl,H⟩
  ·have:=ready_mono hj u;rw[H.1]at this;cases this
 |succ f ih=>
  intro d a w V q E hr hy Z H;have ac:=(mem_ready.1 hr).1;refine⟨fun h=>(by rw[h]at hr;cases hr),fun j hj=>?_⟩;by_cases u:j=i;·subst u;exact Se hi (B _ _ hi) hy Z ⟨fun _=>rfl,H⟩
  ·have h1:=H.2 j (ready_mono hj u);obtain⟨I,J,z,R⟩:=mem_ready.1 hj;have ag:(∀w',D w')∨late j=false:=by
    rcases q with Z|q;·exact .inl Z
    ·refine .inr ?_;cases hl:late j with
     |false=>rfl
     |true=>
      have h1:=Yw V F j i (fun o ho e he hb=>by
       have:o=J:=Zs (ho.symm.trans z);subst this;exact R e he hb) (q j J z hl I)
      rw[getD_both ac]at h1;cases h1
   have ab:∀e∈J.after,Region.binds .any e=true→e.on≠i:=fun e he hb ae=>by have h1:=R e he hb;rw[ae,getD_both ac]at h1;cases h1
   have h2:=Qjp (C:=D) z (B _ _ z) (E j J z u I ab) (fun cs b=>U i oi cs b hi) (fun cs b=>U j J cs b z) hQ hy h1;have K:∀k,(d.setIfInBounds j true).getD k true=false→d.getD k true=false:=fun k h=>by
    by_cases aa:j=k;·subst aa;exact I
    ·rwa[getD_set_ne true aa]at h
   refine wpOpIn_mono (fun a' w' h3=>⟨h3.2.1,ih (d.setIfInBounds j true) a' w' (V.set hj) ?_ ?_ (ready_mono hr (Ne.symm u)) h3.1 ?_ ?_⟩) h2;·exact q.imp id fun h k ok hk hl hu=>h k ok hk hl (K k hu)
   ·exact fun k ok hk af hu ah=>E k ok hk af (K k hu) ah
   ·rcases ag with h|h;·exact h w'
    ·rw[h3.2.1 h];exact Z
   ·rw[Array.setIfInBounds_comm _ _ u];exact h3.2.2
def Lh(rl n:Nat)(P:Program)(ops:Array Oper)(Q:Exit→Act→World→Prop):List (Nat×Oper)→Act→World→Prop
 |[],a,w=>Q .normal a w
 |(0,o)::r,a,w=>if Region.wanted o (yielded ops a.tmps)then∃v,(execOp a.eval o).run P w=.ok (.value v) w∧Lh rl n P ops Q r (a.put o.dst v) w else Lh rl n P ops Q r (a.put o.dst undef) w
 |(1,o)::r,a,w=>if Region.wanted o (yielded ops a.tmps)then∃v,(∀w',(execOp a.eval o).run P w'=.ok (.value v) w')∧Lh rl n P ops Q r (a.put o.dst v) w else Lh rl n P ops Q r (a.put o.dst undef) w
 |(_+2,o)::r,a,w=>wpListIn (rF rl) n P ops (Exit.then (fun c w'=>Lh rl n P ops Q r c w') Q) [o] a w
theorem Qf5(z:∀(j:Nat)(o:Oper),ops[j]? =some o→Gh o=true){late:List Nat}(B:Region.noSelect ops=true)(V:∀c(a:Act)(d:Tmp)v w,Q (.panic c) (a.put (some d) v) w→Q (.panic c) a w):
  ∀(r:List (Nat×Nat))(q:Array Bool)(a:Act)(w),Xj ops q→xB ops late r q=true→Lh rl n P ops Q (Jk ops r) a w→Bj rl n P ops Q (fun j=>late.contains j) r.length q a w
 |[],q,a,w,hcl,hB,h=>⟨by simpa[xB]using hB,h⟩
 |(0,k)::r,q,a,w,hcl,hB,h=>by
  simp only[xB,Zw]at hB;obtain⟨⟨⟨⟨hr,hf⟩,I⟩,ab⟩,E⟩:=hB;have u:k∈Region.ready .any ops q:=by simpa using hr
  obtain⟨_,o,h0,_⟩:=mem_ready.1 u;rw[h0]at I;simp only[Zn,Option.getD_some]at I;obtain⟨d,I⟩:=Option.isSome_iff_exists.1 I;rw[Kq h0]at h;simp only[Lh]at h;have K:∃v,YieldsIf P ops (fun w'=>w'=w) o v a∧Lh rl n P ops Q (Jk ops r) (a.put o.dst v) w:=by
   by_cases J:Region.wanted o (yielded ops a.tmps)=true;·simp only[J,if_true]at h;obtain⟨v,h1,R⟩:=h;exact⟨v,.inl ⟨J,fun w' e=>by rw[e];exact h1⟩,R⟩
   ·simp only[J]at h;exact⟨undef,.inr ⟨by simpa using J,rfl⟩,h⟩
  obtain⟨v,K,hK⟩:=K;exact Tp z (F:=ops.size) h0 (Region.noSelect_spec B) (fun c U w' Z=>by rw[I]at Z;exact V c U d _ w' Z) _ q a w hcl
   (.inr fun j oj hj hl hu=>by
    have:=List.all_eq_true.1 ab j (by simpa using hl);rw[hu]at this;simpa using this) (Region.free_spec h0 hf) u K rfl
   (Qf5 z B V r _ _ w (hcl.set u) E hK)
 |(1,k)::r,q,a,w,hcl,hB,h=>by
  simp only[xB,Zw]at hB;obtain⟨⟨⟨hr,hf⟩,I⟩,E⟩:=hB;have u:k∈Region.ready .any ops q:=by simpa using hr
  obtain⟨_,o,h0,_⟩:=mem_ready.1 u;rw[h0]at I;simp only[Zn,Option.getD_some]at I;obtain⟨d,I⟩:=Option.isSome_iff_exists.1 I;rw[Kq h0]at h;simp only[Lh]at h;have K:∃v,YieldsIf P ops (fun _=>True) o v a∧Lh rl n P ops Q (Jk ops r) (a.put o.dst v) w:=by
   by_cases J:Region.wanted o (yielded ops a.tmps)=true;·simp only[J,if_true]at h;obtain⟨v,h1,R⟩:=h;exact⟨v,.inl ⟨J,fun w' _=>h1 w'⟩,R⟩
   ·simp only[J]at h;exact⟨undef,.inr ⟨by simpa using J,rfl⟩,h⟩
  obtain⟨v,K,hK⟩:=K;exact Tp z (F:=ops.size) h0 (Region.noSelect_spec B) (fun c U w' Z=>by rw[I]at Z;exact V c U d _ w' Z) _ q a w hcl
   (.inl fun _=>trivial) (Region.free_spec h0 hf) u K trivial
   (Qf5 z B V r _ _ w (hcl.set u) E hK)
 |(m+2,k)::r,q,a,w,hcl,hB,h=>by
  simp only[xB,Zw,decide_eq_true_eq]at hB;obtain⟨⟨h1,hl⟩,E⟩:=hB;have u:k∈Region.ready .any ops q:=by rw[h1];simp
  obtain⟨_,o,h0,_⟩:=mem_ready.1 u;rw[Kq h0]at h;simp only[Lh]at h;refine⟨fun R=>(by rw[h1]at R;cases R),fun i hi=>?_⟩;rw[h1]at hi;have aa:i=k:=by simpa using hi
  subst aa;refine wpOpIn_mono (fun U w' h'=>⟨fun h=>?_,?_⟩) (Qco h0 h);·exact absurd (show late.contains i=false from h) (by rw[hl];decide)
  ·exact Qf5 z B V r _ U w' (hcl.set u) E h'
theorem Qf0{id:Nat}{a:Act}{w}{l:List Oper}(k:List (Nat×Nat))(K:P.follows .mixedOrders=true)
  (B:(l.all Gh&&(Region.noSelect l.toArray&&(decide (k.length=l.toArray.size)&&xB l.toArray (Rb k) k (Array.replicate l.toArray.size false))))=true)
  (J:∀c(a:Act)(d:Tmp)v w,Q (.panic c) (a.put (some d) v) w→Q (.panic c) a w) (h:Lh rl n P l.toArray Q (Jk l.toArray k) a w.drew):
  (Code.region id l.toArray true).wpIn (rF rl) n P Q a w:=by
 simp only[Zw,decide_eq_true_eq]at B;obtain⟨I,z,u,B⟩:=B;refine wpIn_region_any K ?_;have q:∀(j:Nat)(o:Oper),l.toArray[j]? =some o→Gh o=true:=fun j o h=>List.all_eq_true.1 I o (List.mem_of_getElem? (by simpa using h));have E:Xj l.toArray (Array.replicate l.toArray.size false):=fun j R _ hl=>by rw[getD_replicate_false]at hl;cases hl
 have:=Qf5 (rl:=rl) (n:=n) (P:=P) (Q:=Q) q z J k _ a _ E B h;rw[u]at this;exact Tn _ _ _ _ this
variable{r:List (Nat×Oper)}{a:Act}{o:Oper}{w:World}
theorem Qu9(h:Q .normal a w):Lh rl n P ops Q [] a w:=h
theorem Qvq{v:Value}(d:Region.wanted o (yielded ops a.tmps)=true)(c:(execOp a.eval o).run P w=.ok (.value v) w)(h:Lh rl n P ops Q r (a.put o.dst v) w):Lh rl n P ops Q ((0,o)::r) a w:=by simp only[Lh,d,if_true];exact⟨v,c,h⟩
theorem Qva{v:Value}(d:Region.wanted o (yielded ops a.tmps)=true)(c:∀w',(execOp a.eval o).run P w'=.ok (.value v) w')(h:Lh rl n P ops Q r (a.put o.dst v) w):Lh rl n P ops Q ((1,o)::r) a w:=by simp only[Lh,d,if_true];exact⟨v,c,h⟩
theorem Qvp{m:Nat}(h:wpListIn (rF rl) n P ops (Exit.then (fun c w'=>Lh rl n P ops Q r c w') Q) [o] a w):Lh rl n P ops Q ((m+2,o)::r) a w:=h
end
section
def Qnh(Q:Exit→Act→World→Prop):Exit→Act→World→Prop
 | .panic _,_,_=>False
 |e,a,w=>Q e a w
variable{n:Nat}{P:Program}{ops:Array Oper}{Q:Exit→Act→World→Prop}
theorem Sc{id:Nat}{a:Act}{w:World}{l:List Oper}(c:List (Nat×Nat))(k:P.follows .mixedOrders=true)
  (d:(Region.noSelect l.toArray&&(decide (c.length=l.toArray.size)&&xB l.toArray (Rb c) c (Array.replicate l.toArray.size false)))=true)
  (h:Uo n P l.toArray (Qnh Q) (Jk l.toArray c) a w.drew):(Code.region id l.toArray true).wpIn Fence.wide n P Q a w:=
 Code.wpIn_mono (fun e a w h=>by cases e<;>first|exact h.elim|exact h) (Lx c k d (fun _ _ _ _ _ h=>h) h)
theorem Qnv{a:Act}{w}(h:Q .normal a w):Uo n P ops (Qnh Q) [] a w:=h
end
section
open Go.Shelf
attribute [local go_sem] Oper.semAt_some Qp
attribute [local go_sem ↓] X8 Yd
attribute [local irreducible] Uo Lh
theorem Yu.view{m:Nat}{ad:Int→Nat}{w}{F:Fp}{b:Nat}{f:Jc}(h:Yu m ad w F b f):∃pr l,l.Perm f.all∧(l.map Jh.id).Nodup∧Ah w b m ad pr l f.mark:=by
 obtain⟨l,z,B,G,d⟩:=h.coll;have H:∀i:Int,∃p,∀x∈l,x.id=i→Qh w (ad x.id) (Pp x p) 215:=fun i=>by
  by_cases hi:∃x∈l,x.id=i;·obtain⟨x,c,hi⟩:=hi;obtain⟨p,_,E,_⟩:=h.memB (z.mem_iff.1 c);refine⟨p,fun y I q=>?_⟩;have e1:=Ls d.nodup c hi;have u:=Ls d.nodup I q;rw[e1]at u;obtain rfl:=Zs u;exact E
  ·exact⟨0,fun x c e=>(hi ⟨x,c,e⟩).elim⟩
 obtain⟨pr,k⟩:=Classical.axiomOfChoice H;exact⟨pr,l,z,d.nodup,B,d.map,fun x c=>k _ x c rfl⟩
def Ou(l:List Jh):Nat:=l.foldl (fun n m=>min n m.v) Qq
def Ln(l:List Jh):Nat:=l.foldl (fun n m=>max n m.v) 0
theorem Qhn(l:List Jh)(x:Jh):Ou (l++[x])=min (Ou l) x.v:=by simp[Ou]
theorem Qk7(l:List Jh)(x:Jh):Ln (l++[x])=max (Ln l) x.v:=by simp[Ln]
theorem F7{l l':List Jh}(h:l.Perm l'):Ou l=Ou l':=by unfold Ou;exact h.foldl_eq' (fun x _ y _ z=>by omega) _
theorem Qar{l l':List Jh}(h:l.Perm l'):Ln l=Ln l':=by unfold Ln;exact h.foldl_eq' (fun x _ y _ z=>by omega) _
theorem Cg:∀l:List Jh,Ou l≤Qq:=by
 have:∀(l:List Jh)(a:Nat),a≤Qq→l.foldl (fun n m=>min n m.v) a≤Qq:=by
  intro l;induction l with
  |nil=>exact fun a h=>h
  |cons x l c=>exact fun a h=>c _ (Zp (Nat.min_le_left _ _) h)
 exact fun l=>this l _ (Zv _)
theorem Qaq:∀l:List Jh,(∀x∈l,x.v≤Qq)→Ln l≤Qq:=by
 have:∀(l:List Jh)(a:Nat),a≤Qq→(∀x∈l,x.v≤Qq)→l.foldl (fun n m=>max n m.v) a≤Qq:=by
  intro l;induction l with
  |nil=>exact fun a h _=>h
  |cons x l d=>exact fun a h hl=>d _ (Nat.max_le.2 ⟨h,hl x (by simp)⟩) (fun y c=>hl y (by simp[c]))
 exact fun l h=>this l 0 (Nat.zero_le _) h
def R7(l:List Jh)(mark v:Nat):Nat:=if Ln l<Ou l then max v mark else max v (Ou l+(Ln l-Ou l)/2)
theorem Qst{f:Jc}{l:List Jh}(c:l.Perm (f.all.filter (·.aL)))(x:Jh):f.start x=R7 l f.mark x.v:=by unfold Jc.start R7;have e1:f.least=Ou l:=F7 c.symm;have d:f.most=Ln l:=Qar c.symm;rw[e1,d]
theorem Qpa{w}{s t:Nat}{a z v:Nat}(h1:Qh w s #[.int .u64 a] 29)(E:Qh w t #[.int .u64 z] 29)(q:s≠t):
  Cl 224 #[.int .u64 v,.pointer (some ⟨s,0,none⟩),.pointer (some ⟨t,0,none⟩)] w fun e w'=>e=.returned (.tuple #[])∧Qh w' s #[.int .u64 ((min a v:Nat):Int)] 29∧Qh w' t #[.int .u64 ((max z v:Nat):Int)] 29∧Qc (fun k=>k=s∨k=t) w w':=by
 have K:=O h1;have u:=O E;have e1:min (a:Int) (v:Int)=((min a v:Nat):Int):=by omega
 have Z:max (z:Int) (v:Int)=((max z v:Nat):Int):=by omega
 have V:=Jf h1.drew;have z1:=h1.drew.frozen 0;have d:=O q;clear h1 E q;go_enter func224,ntmps224;go_wp2_with fail;refine Jp [(0,0),(0,1),(0,2),(1,3),(1,4),(1,5),(2,6),(3,7)] (fun I=>Qc (fun k=>k=s) (w) I) Zq (by kernel_rfl) (fun _ _ _ _ _ h=>h) (Zj (Zg _ _)) ?_;simp only[Jk,Zf,Ze,Zd];iterate 3 (refine Xe (by kernel_rfl) (by go_simp;try rfl) ?_)
 iterate 3 (refine Qy (by kernel_rfl) (fun I R=>by(have U:=R.blk u.o d.o.symm;have y0:=Jf U);go_simp;try rfl) ?_;try simp only[Act.put,Za,Zc,Zb])
 refine Yb ?_;go_wp2_with fail;refine⟨by exact Zj (Zk (Zg _ _) _ (.inl rfl)),?_⟩;have b2:=((u.o).other (a:=⟨s,0,none⟩) (.int .u64 ((min a v:Nat):Int)) d.o).drew;have b1:=(K.o.set' 0 (.int .u64 ((min a v:Nat):Int)) rfl).drew;have y3:=(u.o.other (a:=⟨s,0,none⟩) (.int .u64 ((min a v:Nat):Int)) d.o).frozen 0;have y4:=Jf (u.o.other (a:=⟨s,0,none⟩) (.int .u64 ((min a v:Nat):Int)) d.o);have B:=O (b2.set' 0 (.int .u64 ((max z v:Nat):Int)) rfl);have c:=O (b1.other (a:=⟨t,0,none⟩) (.int .u64 ((max z v:Nat):Int)) d.o.symm);have J:Hi (Qc (fun k=>k=s∨k=t) w ((w.setCell ⟨s,0,none⟩ (.int .u64 ((min a v:Nat):Int))).drew.setCell ⟨t,0,none⟩ (.int .u64 ((max z v:Nat):Int)))):=O (((Zg _ w).setCell (a:=⟨s,0,none⟩) _ (.inl (.inl rfl))).drew.setCell (a:=⟨t,0,none⟩) _ (.inl (.inr rfl)));clear b1 b2;refine Km ?_;go_wp2_with fail;refine Ky ?_;go_wp2_with fail;refine bodyPost_end (by simp[*,results,Tryz.results224,go_sem]) rfl ⟨rfl,?_,?_,?_⟩;·exact c.o
 ·exact B.o
 ·exact J.o
theorem Qjj{w}{b m mark:Nat}{ad pr:Int→Nat}{l:List Jh}(hV:Ah w b m ad pr l mark)(aj:(l.map Jh.id).Nodup)(hb:∀y∈l,y.v≤Qq)(ap:mark≤Qq){x:Jh}(hx:x∈l):
  Cl 201 #[ptr b,ptr (ad x.id)] w fun e w'=>e=.returned (.int .u64 ((R7 (l.filter (·.aL)) mark x.v:Nat):Int))∧Qc Qb w w':=by
 have HU:=O (Qs1 b);refine callsIn_wide (n:=9).1 ?_;unfold ptr at HU⊢;refine callsIn_of_wp_marks func201 rfl trivial ?_;simp only[ntmps201,List.size_toArray,Zm,List.length_nil,Nat.reduceAdd,Nat.reduceSub,Array.replicate_succ,Array.replicate_zero,List.push_toArray,List.append_toArray,List.nil_append,List.cons_append];gi_wp2_with (refine⟨trivial,?_⟩;gi_at_call 225;refine(callsIn_wide.2 (HU.o _)).mono ?_;rintro e w1⟨rfl,rfl⟩);obtain⟨s,hs⟩:=Zx (w.heap.size);obtain⟨u,d⟩:=Zx (((((w.alloc (.cells #[.int .u64 9223372036854775808] 29)).alloc (.cells #[.int .u64 0] 29)).alloc (.cells #[.func (.func 224) #[] #[.pointer (some ⟨w.heap.size,0,none⟩),.pointer (some ⟨w.heap.size+1,0,none⟩)]] 279)).alloc (.cells #[.pointer (some ⟨b,0,none⟩)] 141)));have C0:Hi (Qc Qb w u):=O (by rw[d];exact((((Zg _ _).alloc _).alloc _).alloc _).alloc _);have au:u.heap.size=s+4:=by rw[d,hs];simp
 have B5:Hi (Qh u s #[.int .u64 ((Ou []:Nat):Int)] 29):=O (by rw[d,hs];exact(((Qh.new' _ _ (by simp)).alloc _).alloc _).alloc _);have B6:Hi (Qh u (s+1) #[.int .u64 ((Ln []:Nat):Int)] 29):=O (by rw[d,hs];exact((Qh.new' _ _ (by simp)).alloc _).alloc _);have B7:Hi (Qh u (s+1+1) #[.func (.func 224) #[] #[.pointer (some ⟨s,0,none⟩),.pointer (some ⟨s+1,0,none⟩)]] 279):=O (by rw[d,hs];exact(Qh.new' _ _ (by simp)).alloc _);have B8:Hi (Qh u (s+1+1+1) #[ptr b] 141):=O (by rw[d,hs];exact Qh.new' _ _ (by simp));have ae:Hi (Ah u b m ad pr l mark):=O (hV.aB C0.o (fun h=>h) (fun h=>h) (fun _ _ h=>h));have ao:b<s:=hs▸hV.blk.lt;have aq:m<s:=hs▸hV.map.lt;have has:∀y∈l,ad y.id<s:=fun y hy=>hs▸(hV.mem y hy).lt;rw[←hs]at d⊢;rw[←d];have ac:=O hs;have HB:=O hb;have af:=O hV;clear d hs hb hV;refine wpIn_rangeFunc_ownH rfl (by decide) (gf:=238) (lb:=#[.pointer (some ⟨s+1+1+1,0,none⟩)]) rfl trivial (enters_of func238 (by kernel_rfl) rfl)
  (Qs0 8 (s+1+1+1) b m mark (by decide) (fun k=>k≠s∧k≠s+1) ad pr l aj u B8.o ae.o ⟨by omega,by omega⟩ ⟨by omega,by omega⟩ ⟨by omega,by omega⟩ (fun y hy=>by have:=has y hy;exact⟨by omega,by omega⟩) (fun k hk=>⟨by omega,by omega⟩))
  (fun h k=>h.trans k) (fun W l o o' h1 h2 h3 h4=>Le.put (w:=u) W l o o' h1 h2 h3 h4) (Below.refl _ _) (fun _=>rfl)
  (fun R W=>((Qh W s #[.int .u64 ((Ou (R.map (·.1)):Nat):Int)] 29∧Qh W (s+1) #[.int .u64 ((Ln (R.map (·.1)):Nat):Int)] 29)∧Qc (fun k=>k=s∨k=s+1) u W))
  (fun _ _ _=>False)
  (OwnFrom.and (OwnFrom.and (Yx _ _ _ _) (Yx _ _ _ _)) (Dr (Zv _)))
  (fun c=>fun _ _ _ _ h _ _=>h.elim)
  ⟨⟨B5.o,B6.o⟩,Zg _ _⟩
  (fun y a' W=>a'={tmps:=#[.pointer (some ⟨b,0,none⟩),.pointer (some ⟨ad x.id,0,none⟩),undef,undef,.int .u64 0,.pointer (some ⟨s,0,none⟩),.pointer (some ⟨s+1,0,none⟩),.pointer (some ⟨s+1+1,0,none⟩),undef,ptr (ad y.1.id),.func (.func 224) #[] #[.pointer (some ⟨s,0,none⟩),.pointer (some ⟨s+1,0,none⟩)],.pointer (some ⟨b,0,none⟩),.func (.func 238) #[] #[.pointer (some ⟨s+1+1+1,0,none⟩)],.int .i64 y.1.id,ptr (ad y.1.id),undef,undef,undef,undef,undef,undef,undef,undef,undef,undef,undef,undef,undef,undef,undef,undef,undef,undef,undef,undef,undef,undef,undef,undef,undef,undef,undef,undef,undef],defers:=[]})
  (fun y a' _ X Y row hs hg hr=>hs)
  ?assign ?body ?done (fun _ _ _ _ _ _ h _=>h.elim)
 case assign=> rintro l' R y W K hI hK;dsimp only[Qt1];gi_wp2;exact hK _ _ ⟨Zv _,fun k o _ h1 _=>h1⟩ (fun _ _ _ h _=>h) hI rfl
 case body=>
  rintro l' R y a' W hl ar⟨⟨E,I⟩,q⟩rfl Xg;obtain⟨y,hy⟩:=y;dsimp only;have HM:=O (Qpa (v:=y.v) E.drew I.drew (by omega));have Z:Qc (fun k=>k=s∨k=s+1) u W.drew:=q.drew;have ai:=has y hy;have f0:=Jf (Z.blk B7.o (by omega));obtain⟨d0,d1,d2,d3⟩:=X9 (Z.blk (ae.o.mem y hy) (by omega));have HC:=O q;have ak:=O E;have al:=O I;unfold ptr at*;clear E I q Z ai;gi_wp2;refine Qf0 [(0,0),(0,1),(0,2),(0,3),(0,4),(2,5)] Zq (by kernel_rfl) (fun _ _ _ _ _ h=>h) ?_;simp only[Jk,Zf,Ze,Zd];iterate 5 (refine Qvq (by kernel_rfl) (by go_simp;try rfl) ?_)
  refine Qvp ?_;gi_wp2;refine⟨trivial,?_⟩;refine(CallsIn.inRound l' (callsIn_wide.2 HM.o)).mono ?_;rintro e w2⟨rfl,n5,n6,c2⟩;have C2:=O c2.undrew;have N5:=O n5;have N6:=O n6;clear f0 d0 d1 d2 d3 c2 n5 n6;gi_wp2;refine Qu9 ?_;gi_wp2;refine⟨Vg C2.o (fun k hk=>by rcases hk with h|h<;>omega),Le.chg C2.o (fun k h1 h2=>by rcases h2 with h|h<;>omega),⟨?_,?_⟩,HC.o.aA C2.o⟩;·rw[List.map_append,List.map_cons,List.map_nil,Qhn];exact N5.o
  ·rw[List.map_append,List.map_cons,List.map_nil,Qk7];exact N6.o
 case done=>
  rintro D ys W hD hp⟨⟨E,I⟩,q⟩hK;have cw:Qc Qb w W:=C0.o.trans q (fun k hk=>.inr (by rw[←ac.o];rcases hk with h|h<;>omega));have J:R7 (l.filter (·.aL)) mark x.v=R7 (ys.map (·.1)) mark x.v:=by unfold R7;rw[F7 hp,Qar hp]
  obtain⟨av,B⟩:=Zx (R7 (l.filter (·.aL)) mark x.v);rw[←B]at J;have U:=O B;clear B;have ab:Ln (ys.map (·.1))≤Qq:=Qaq _ fun z hz=>HB.o z ((List.mem_filter.1 (hp.mem_iff.1 hz)).1);have ag:=HB.o x hx;have HX:=O (cw.blk (af.o.mem x hx) (fun h=>h));have ah:=O (cw.blk af.o.blk (fun h=>h));have aa:=Cg (ys.map (·.1));unfold R7 at J;generalize Ou (ys.map (·.1))=lo at E J aa;generalize Ln (ys.map (·.1))=hi at I J ab;have hN:Qq=9223372036854775808:=rfl;by_cases Xg:hi<lo
  ·rw[if_pos Xg]at J;have E0:=O J;have d1:decide (hi<lo)=true:=by simpa using Xg
   have d2:(hi:Int)<(lo:Int):=by omega
   have em:max (x.v:Int) (mark:Int)=((max x.v mark:Nat):Int):=by omega
   have a0:=Jf E;have a1:=Jf I;obtain⟨x0,x1,x2,x3⟩:=X9 HX.o.drew;obtain⟨m0,m1⟩:=Q4 ah.o.drew;have HK:=O hK;have CW:=O cw;have V:w.heap.size≤D:=by have:=ac.o;omega
   clear J E I q hp hK cw aa ab ag hN Xg;gi_wp2;refine Sc [(0,0),(0,1),(0,2),(0,3),(0,4),(0,5),(0,6),(0,7),(0,8),(2,9)] Zq (by kernel_rfl) ?_;simp only[Jk,Zf,Ze,Zd];iterate 9 (refine Et (by kernel_rfl) (by go_simp;try rfl) ?_)
   refine Bl ?_;gi_wp2;refine Qnv ?_;gi_wp2;refine⟨by simp,.inl ⟨_,_,rfl,run_takeDeferred (show W.drew.heap[D]? =_ from HK.o),?_⟩⟩;refine⟨.int .u64 ((max x.v mark:Nat):Int),?_,by rw[←U.o,E0.o],Ud CW.o.drew V (Z2.1 HK.o).1⟩;simp[results,Tryz.results201,go_sem]
  ·rw[if_neg Xg]at J;have E0:=O J;have d1:decide (hi<lo)=false:=by simpa using Xg
   have d2:¬(hi:Int)<(lo:Int):=by omega
   have e1:IntKind.u64.wrap ((hi:Int)-(lo:Int))=((hi-lo:Nat):Int):=by rw[IntWalk.u64_in _ (by omega)];omega
   have e3:IntKind.u64.wrap (((hi-lo:Nat):Int)/2)=(((hi-lo)/2:Nat):Int):=by rw[IntWalk.u64_in _ (by omega)];omega
   have e2:IntKind.u64.wrap ((lo:Int)+(((hi-lo)/2:Nat):Int))=((lo+(hi-lo)/2:Nat):Int):=by rw[IntWalk.u64_in _ (by omega)];omega
   have em:max (x.v:Int) ((lo+(hi-lo)/2:Nat):Int)=((max x.v (lo+(hi-lo)/2):Nat):Int):=by omega
   have a0:=Jf E;have a1:=Jf I;have am:=Jf E.drew;have an:=Jf I.drew;obtain⟨x0,x1,x2,x3⟩:=X9 HX.o.drew;have HK:=O hK;have CW:=O cw;have V:w.heap.size≤D:=by have:=ac.o;omega
   clear J E I q hp hK cw aa ab ag hN Xg;gi_wp2;refine Sc [(0,0),(0,1),(0,2),(0,3),(0,4),(0,5),(0,6),(0,7),(0,8),(0,9),(0,10),(2,11)] Zq (by kernel_rfl) ?_;simp only[Jk,Zf,Ze,Zd];generalize(hi-lo)/2=hf at e2 e3 em E0;generalize lo+hf=lh at e2 em E0;iterate 11 (refine Et (by kernel_rfl) (by go_simp;try rfl) ?_)
   refine Bl ?_;gi_wp2;refine Qnv ?_;gi_wp2;refine⟨by simp,.inl ⟨_,_,rfl,run_takeDeferred (show W.drew.heap[D]? =_ from HK.o),?_⟩⟩;refine⟨.int .u64 ((max x.v lh:Nat):Int),?_,by rw[←U.o,E0.o],Ud CW.o.drew V (Z2.1 HK.o).1⟩;simp[results,Tryz.results201,go_sem]
theorem Qji{m:Nat}{ad:Int→Nat}{w}{F:Fp}{b:Nat}{f:Jc}(h:Yu m ad w F b f)(u:∀y∈f.all,y.v≤Qq)(c:f.mark≤Qq){x:Jh}(z:x∈f.all):
  Cl 201 #[ptr b,ptr (ad x.id)] w fun e w'=>e=.returned (.int .u64 ((f.start x:Nat):Int))∧Qc Qb w w':=by
 obtain⟨pr,l,k,d,q⟩:=h.view;rw[Qst (k.filter _) x];exact Qjj q d (fun y B=>u y (k.mem_iff.1 B)) c (k.mem_iff.2 z)
end
section
attribute [local go_sem] Qp
theorem Jc.made_wake(f:Jc)(x:Jh)(v:Nat)(r:Xh):((f.made x v).set {{x with v:=v}with run:=r}).set {{{x with v:=v}with run:=r}with aL:=true}=f.made {x with run:=r,aL:=true} v:=by refine(Jc.set_set (f.made x v) (a:={{x with v:=v}with run:=r}) (b:={{{x with v:=v}with run:=r}with aL:=true}) rfl).trans ?_;have e:=f.set_set (a:={x with v:=v}) (b:={{{x with v:=v}with run:=r}with aL:=true}) rfl;unfold Jc.made;show(⟨((f.set {x with v:=v}).set {{{x with v:=v}with run:=r}with aL:=true}).all,max f.mark v⟩:Jc)=_;rw[e]
theorem Qmw{w}{F:Fp}{b:Nat}{f:Jc}(h:J0 w F b f)(hN:∀x∈f.all,x.total≤Xw∧x.run.l.length<549755813888∧x.v≤Qq)(K:f.mark≤Qq)(i:Int):
  Cl 138 #[ptr b,.int .i64 i] w fun e w'=>e=.returned (.tuple #[])∧J0 w' (Qn F w w') b (f.wake i)∧Qc F w w':=by
 obtain⟨m,ad,I⟩:=h.addr;have R:=O (I.at_any i);unfold Jc.wake;unfold Qk3 at R;cases hx:f.at i with
 |none=> have c:=O (I.same (Zg Qb w));rw[hx]at R;dsimp only[atP]at R⊢;unfold ptr at*;clear h I hx hN K;go_enter func138,ntmps138;go_wp2_with fail;refine Zy R ?_;rintro w1 rfl;go_wp2;refine bodyPost_ret (results_none rfl _ _ _) rfl ⟨rfl,c.o.1.is,c.o.2⟩
 |some x=>
  obtain⟨hm,rfl⟩:=Jc.aE hx;obtain⟨U,E,ak⟩:=hN x hm;obtain⟨p,H,hM,_,ah⟩:=I.memB hm;obtain⟨a0,a1,a2,a3⟩:=X9 hM;rw[hx]at R;dsimp only[atP]at R⊢;rcases Bool.eq_false_or_eq_true x.aL with d|d;·rw[if_pos d];rw[d]at a3;have c:=O (I.same (Zg Qb w));unfold ptr at*;clear h I hx hN K hM hm U E ak ah d;go_enter func138,ntmps138;go_wp2_with fail;refine Zy R ?_;rintro w1 rfl;go_wp2;refine bodyPost_ret (results_none rfl _ _ _) rfl ⟨rfl,c.o.1.is,c.o.2⟩
  ·rw[if_neg (by rw[d];decide)];rw[d]at a3;have HS:=O (Qji I (fun y hy=>(hN y hy).2.2) K hm);have aj:f.start x≤Qq:=by unfold Jc.start;have h1:f.most≤Qq:=Qaq _ fun z hz=>(hN z (List.mem_filter.1 hz).1).2.2;have h2:f.least≤Qq:=Cg _;split<;>omega
   generalize f.start x=v at HS aj⊢;have am:Qq=9223372036854775808:=rfl;have hC:=Yz;have Z:=O ((Yu.obj m ad).bd I);have S1:Hi (∀w1,Qc Qb w w1→Yu m ad w1 (Qn F w w1) b f∧Qc F w w1):=O (fun w1 c1=>I.same c1);have M2:=O (Jc.mem_set (a:={x with v:=v}) hm rfl);have an:({x with v:=v}:Jh)∈(f.made x v).all:=M2.o;have al:=O (fun(w)(F:Fp)(p:Nat)(h:Yv w F p x.run)=>Rv h E v x.total (by omega) (by omega));have HM:=O hm;have FE:=O (f.made_wake x v (x.run.start v x.total));unfold ptr at*;clear h I hx hN K hM hm U E ak ah d aj am hC;go_enter func138,ntmps138;go_wp2_with fail;refine Zy R ?_;rintro w1 rfl;go_wp2_with fail;refine Zy HS ?_;intro w1 c1;obtain⟨h1,ae⟩:=S1.o _ c1;have B1:=O ((Yu.obj m ad).bd h1);have C1:=O ae;clear c1 ae a0 a1 a2 a3;go_wp2_with fail;refine Zz (Qb4 h1 HM.o v) ?_;rintro w2⟨h2,c2⟩;have C2:=O (C1.o.ext c2);have ab:Yu m ad w2 (Qn F w w2) b (f.made x v):=((Yu.obj m ad).two h2 Z.o C1.o c2).1;obtain⟨q,G,ag,B,V⟩:=ab.memR an;obtain⟨a0,a1,a2,a3⟩:=X9 ag.drew;have HR:=O (al.o _ _ _ ((runP.aB B (Zg Qb w2).drew (Jl.none G))));have HP:=O V;have BG:=O (runP.bd B);have B2:=O ((Yu.obj m ad).bd ab);clear h1 h2 c2 ab ag B V;unfold ptr at*;go_wp2_with fail;refine Qj [(0,0),(0,1),(0,2),(0,3),(0,4),(0,5),(0,6),(0,7),(0,8),(0,9),(0,10),(0,11),(2,12)] Zq (by kernel_rfl) (fun _ _ _ _ _ h=>h) ?_;simp only[Jk,Zf,Ze,Zd];iterate 12 (refine Jq (by kernel_rfl) (by go_simp;try rfl) ?_)
   clear a0 a1 a2 a3;refine J7 ?_;go_wp2_with fail;refine Zy HR ?_;rintro w3⟨ai,c3⟩;have aa:=c3.undrew;obtain⟨h3,af⟩:=HP.o w3 _ (runP.more ai (fun k hk=>hk.elim .inl (fun hk=>.inr hk)) (BG.o.ext aa)) aa;have J:=((Yu.obj m ad).two h3 Z.o C2.o af);have ac:({{x with v:=v}with run:=x.run.start v x.total}:Jh)∈((f.made x v).set {{x with v:=v}with run:=x.run.start v x.total}).all:=Jc.mem_set (x:={x with v:=v}) M2.o rfl;obtain⟨q3,H3,u,_,_⟩:=J.1.memB ac;obtain⟨a0,a1,a2,a3⟩:=X9 u;have z3:=u.frozen 3;have c:Hi (∀w4,w4=w3.setCell ⟨ad x.id,3,none⟩ (.bool true)→J0 w4 (Qn F w w4) b (f.made {x with run:=x.run.start v x.total,aL:=true} v)∧Qc F w w4):=O (by
    rintro w4 rfl;obtain⟨k1,k2⟩:=J.1.memC' (x':={{{x with v:=v}with run:=x.run.start v x.total}with aL:=true}) ac rfl rfl u ((Zg (fun k=>k=ad x.id) w3).setCell (a:=⟨ad x.id,3,none⟩) (.bool true) (.inl rfl)) (u.set' 3 _ rfl);obtain⟨l1,l2⟩:=(Yu.obj m ad).two k1 Z.o J.2 k2;rw[FE.o]at l1;exact⟨l1.is,l2⟩)
   clear ai c3 aa h3 af J ac u;go_wp2_with fail;refine Jo ?_;go_wp2_with fail;refine bodyPost_end (by simp[*,results,Tryz.results138,go_sem]) rfl ⟨rfl,c.o _ rfl⟩
end
end Go.Proofs.YtnnhmpehkbihnaaGreat
