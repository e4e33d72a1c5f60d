/- A part of the proof: no condition. -/
import Derived.Test.YtnnhmpehkbihnaaGreatPp09
namespace Go.Proofs.YtnnhmpehkbihnaaGreat
set_option linter.unusedVariables false
set_option maxRecDepth 100000
set_option maxHeartbeats 4000000
open Go.RowKit
open Go.Proofs.Tryz
section
attribute [local go_sem] Qq
attribute [local go_sem ↓] Kl Km
theorem Qtd{b:Nat}{n:Nat}{i:Int}{t U:Tr}(d:Drop n i t U):∀{w:World}(hs:Yj w b t),Cl 236 #[ptr b,t.ptrV,Xi n i] w fun e w'=>e=.returned U.ptrV∧Yj w' b U∧Qc (fun k=>k∈t.addrs) w w':=by
 induction d with
 |stay x c l r l' h0 hd d E=>
  intro w hs;cases l with
  |nil=>simp[Tr.red,Tr.left]at hd
  |node y cy yl yr=>exact Qkp n i h0 hs (.no x c _ r hd) (fun k q=>(Vf d).subset q) fun w' h=>E h
 |turnA x y z yl yr K I l' h0 h1 B d E=>exact fun hs=>Qkp n i h0 hs (.A x y z yl yr K I h1 B) (fun k q=>(Vf d).subset q) fun w' h=>E h
 |turnB x y z u yl yr V Z I l' h0 h1 d E=>exact fun hs=>Qkp n i h0 hs (.B x y z u yl yr V Z I h1) (fun k q=>(Vf d).subset q) fun w' h=>E h
 |right x y c yl yr r R h0 h1 d E=> exact fun hs=>E7 n i h0 hs (.up x y c yl yr r) (.no _ _ _ _ rfl) nofun (fun k q=>(Vf d).subset q) (.inl ⟨h1,rfl,fun w' h=>E h⟩)
 |here x c l h0 h1 B=> intro w hs;refine(Qpv n i h0 h1 B hs).mono ?_;rintro e w'⟨rfl,hc⟩;exact⟨rfl,⟨hs.top.keep hc (fun h=>h),by have:=hs.nd;simp[Tr.addrs],trivial⟩,hc.none⟩
 |passA x y z yl yr K I R h0 h1 B J d E=> exact fun hs=>E7 n i h0 hs (.no _ _ _ _ rfl) (.A x y z yl yr K I B J) nofun (fun k q=>(Vf d).subset q) (.inl ⟨h1,rfl,fun w' h=>E h⟩)
 |takeA x y z yl yr K I R h0 h1 B J d=> exact fun hs=>E7 n i h0 hs (.no _ _ _ _ rfl) (.A x y z yl yr K I B J) nofun (fun k q=>(Ym d).subset q) (.inr ⟨h1,rfl,fun w' h=>Lz d h⟩)
 |passB x y z u V Z yr K I R h0 h1 B d E=> exact fun hs=>E7 n i h0 hs (.no _ _ _ _ rfl) (.B x y z u V Z yr K I B) nofun (fun k q=>(Vf d).subset q) (.inl ⟨h1,rfl,fun w' h=>E h⟩)
 |passC x c l r R h0 h1 B J d E=>
  intro w hs;cases r with
  |nil=>simp[Tr.red,Tr.left]at J
  |node z cz K I=>exact E7 n i h0 hs (.no _ _ _ _ h1) (.no _ _ _ _ J) nofun (fun k q=>(Vf d).subset q) (.inl ⟨B,rfl,fun w' h=>E h⟩)
 |takeC x c l r R h0 h1 B J d=>
  intro w hs;cases r with
  |nil=>simp[Tr.red,Tr.left]at J
  |node z cz K I=>exact E7 n i h0 hs (.no _ _ _ _ h1) (.no _ _ _ _ J) nofun (fun k q=>(Ym d).subset q) (.inr ⟨B,rfl,fun w' h=>Lz d h⟩)
theorem Qx0{n:Nat}{i:Int}{x:Nd}{c:Bool}{l r:Tr}(h:x.n=n∧x.i=i):(Tr.node x c l r).at n i=.node x c l r:=by rw[Tr.at,if_pos h]
theorem Qx1{n:Nat}{i:Int}{x:Nd}{c:Bool}{l r:Tr}(h:¬(x.n=n∧x.i=i))(d:lt n i x=true):(Tr.node x c l r).at n i=l.at n i:=by rw[Tr.at,if_neg h,if_pos d]
theorem Qv7{n:Nat}{i:Int}{x:Nd}{c:Bool}{l r:Tr}(h:¬(x.n=n∧x.i=i))(d:lt n i x=false):(Tr.node x c l r).at n i=r.at n i:=by rw[Tr.at,if_neg h,if_neg (by rw[d];simp)]
theorem Qkq{w:World}{F:Fp}{b:Nat}{t:Tr}{l:List J6}(hs:Qb7 w F b t l)(n:Nat)(i:Int):
  Cl 214 #[ptr b,Xi n i] w fun e w'=>e=.returned (t.at n i).ptrV∧Qc Qb w w':=by
 obtain⟨k,hk⟩:=Zx (w.heap.size);have K0:=O (Qh.new w #[.int .u64 (n:Int),.int .i64 i] 204);have C0:=O ((Qc.refl Qb w).alloc (.cells #[.int .u64 (n:Int),.int .i64 i] 204));simp only[←hk]at K0;have HB:=O hs.top;have HT:=O hs.sub.at';generalize hR:(t.at n i).ptrV=R;have HR:=O hR;unfold ptr Xi at*;clear hs hR;go_enter func214,ntmps214;go_wp2_with fail;rw[←hk];obtain⟨W,hW⟩:=Zx (w.alloc (.cells #[.int .u64 (n:Int),.int .i64 i] 204));rw[←hW]at K0 C0⊢;clear hW hk;have BW:=O (C0.out.blk HB.out (fun h=>h));have TW:=O (Jk.keep C0.out t HT.out (fun a _ h=>h));have HN:=Hr ⟨_,_,BW.out⟩;unfold ptr at HN;obtain⟨a0,a1,a2,a3⟩:=Xt BW.out;obtain⟨pt,aa⟩:=t.ptrV_any;have af:=O aa;rw[aa]at a2;clear aa;refine HN.mono ?_;rintro e w1⟨rfl,rfl⟩;go_wp2_with fail;clear a0 a1 a2 a3 HN HB HT BW;go_loopg [5] t.size (fun g v wr=>∃s:Tr,v=s.ptrV∧s.size=g∧Jk W s∧s.at n i=t.at n i∧Qc Qb W wr);case atStart=>exact⟨t,af.out.symm,rfl,TW.out,rfl,Qc.refl _ _⟩
 case round=>
  obtain⟨s,rfl,V,I,Z,E⟩:=hrel;have KR:=O (E.blk K0.out (fun h=>h));have CR:=O E;have HF:=O Z;have E1:=fun x=>Qz (Qk (S:=Qb) KR.out (fun h=>h) x);cases s with
  |nil=>
   dsimp only[Tr.ptrV];clear V I Z E;go_wp2_with fail;refine Qr [] [0,1,2,3,4,5,6,7,8,9] [] [] (Qw (Qb) (wr)) (by kernel_rfl) (by kernel_rfl) ?_ (Qd (by(repeat' (first|(with_reducible first|exact Zg _ _|assumption|refine Zh ?_ _|refine Zi ?_ _|refine Zj ?_ |refine Zk ?_ _ ?_ |(apply Or.inl;rfl))|(apply Or.inl;simp;done)|(apply Or.inr;simp;first|done|omega))))) ?_;·exact fun _ _ _ _ _ h=>h
   simp only[pick,Zf,Ze,Zd];refine Qf ?_;iterate 10 (refine Ql (fun K J=>?_);go_simp;refine J _ ?_;clear J K)
   refine Qf ?_;intro _ z;obtain⟨B,d⟩:=z;subst d;simp only[Zn];have U:=O (Qu Qb wr B);generalize Qw Qb wr B=w5 at U⊢;clear E1;go_wp2;go_ret;exact⟨by rw[←HR.out,←HF.out];rfl,(C0.out.trans' CR.out).trans' U.out⟩
  |node u cu ul ur=>
   have HA:=O (Jk.keep E _ I (fun a _ h=>h));have ae:=O I.2.1;have ac:=O I.2.2;have E2:=fun x=>Q7 (Qk (S:=Qb) HA.out.1 (fun h=>h) x);dsimp only[Tr.ptrV];have gl:ul.size<gk:=by rw[←V];simp[Tr.size];omega
   have gr:ur.size<gk:=by rw[←V];simp[Tr.size];omega
   clear V I Z E;by_cases hx:u.n=n∧u.i=i
   ·have ab:=Qdb hx;have HX:=O (Qx0 hx (c:=cu) (l:=ul) (r:=ur));clear hx gl gr;go_wp2_with fail;refine Qr [] [0,1,2,3,4,5,6,7,8,9] [] [] (Qw (Qb) (wr)) (by kernel_rfl) (by kernel_rfl) ?_ (Qd (by(repeat' (first|(with_reducible first|exact Zg _ _|assumption|refine Zh ?_ _|refine Zi ?_ _|refine Zj ?_ |refine Zk ?_ _ ?_ |(apply Or.inl;rfl))|(apply Or.inl;simp;done)|(apply Or.inr;simp;first|done|omega))))) ?_;·exact fun _ _ _ _ _ h=>h
    simp only[pick,Zf,Ze,Zd];refine Qf ?_;iterate 10 (refine Ql (fun K J=>?_);go_simp;refine J _ ?_;clear J K)
    refine Qf ?_;intro _ z;obtain⟨B,d⟩:=z;subst d;simp only[Zn];have U:=O (Qu Qb wr B);generalize Qw Qb wr B=w5 at U⊢;clear E1 E2 ab;go_wp2;go_ret;exact⟨by rw[←HR.out,←HF.out,HX.out];rfl,(C0.out.trans' CR.out).trans' U.out⟩
   ·have ab:=Qmx hx;have HX:=O hx;have q:=O (fun w=>Oo n i u w);unfold Xi at q;clear hx;go_wp2_with fail;refine Qr [] [0,1,2,3,4,5,6,7,8,9] [] [] (Qw (Qb) (wr)) (by kernel_rfl) (by kernel_rfl) ?_ (Qd (by(repeat' (first|(with_reducible first|exact Zg _ _|assumption|refine Zh ?_ _|refine Zi ?_ _|refine Zj ?_ |refine Zk ?_ _ ?_ |(apply Or.inl;rfl))|(apply Or.inl;simp;done)|(apply Or.inr;simp;first|done|omega))))) ?_;·exact fun _ _ _ _ _ h=>h
    simp only[pick,Zf,Ze,Zd];refine Qf ?_;iterate 10 (refine Ql (fun K J=>?_);go_simp;refine J _ ?_;clear J K)
    refine Qf ?_;intro _ z;obtain⟨B,d⟩:=z;subst d;simp only[Zn];have U:=O (Qu Qb wr B);generalize Qw Qb wr B=w5 at U⊢;clear E1 E2 ab;have K5:=O (U.out.blk KR.out (fun h=>h));have H5:=O (U.out.blk HA.out.1 (fun h=>h));have E1:=fun x=>Qz (Qk (S:=Qb) K5.out (fun h=>h) x);have E2:=fun x=>Q7 (Qk (S:=Qb) H5.out (fun h=>h) x);go_wp2_with fail;refine Qr [] [0,1,2,3,4] [5] [] (Qw (Qb) (w5)) (by kernel_rfl) (by kernel_rfl) ?_ (Qd (by(repeat' (first|(with_reducible first|exact Zg _ _|assumption|refine Zh ?_ _|refine Zi ?_ _|refine Zj ?_ |refine Zk ?_ _ ?_ |(apply Or.inl;rfl))|(apply Or.inl;simp;done)|(apply Or.inr;simp;first|done|omega))))) ?_;·exact fun _ _ _ _ _ h=>h
    simp only[pick,Zf,Ze,Zd];refine Qf ?_;iterate 5 (refine Ql (fun K J=>?_);go_simp;refine J _ ?_;clear J K)
    refine Qf ?_;intro _ z;obtain⟨B,d⟩:=z;subst d;simp only[Zn];have c6:=O (Qu Qb w5 B);generalize Qw Qb w5 B=w6 at c6⊢;clear E1 E2;cases hl:lt n i u;all_goals
     rw[hl]at q;go_wp2_with fail;refine(q.out _).mono ?_;rintro e w7⟨rfl,d7⟩;have c7:=O (c6.out.trans' d7);clear d7;go_wp2;refine⟨Qd c7.out,?_⟩;have C7:=O (CR.out.trans' (U.out.trans' c7.out));have H7:=c7.out.blk H5.out (fun h=>h);obtain⟨b0,b1,b2,b3,b4,b5,b6,b7⟩:=Q7 H7;clear H7;go_wp2_with fail;clear b0 b1 b2 b3 b4 b5 b6 b7
    ·go_roundg ur.size;case rel=>exact⟨ur,rfl,rfl,ac.out,by rw[←HF.out,Qv7 HX.out hl],C7.out⟩
     case measure=>exact gr
    ·go_roundg ul.size;case rel=>exact⟨ul,rfl,rfl,ae.out,by rw[←HF.out,Qx1 HX.out hl],C7.out⟩
     case measure=>exact gl
def Tr.black:Tr→Tr
 | .nil=>.nil
 | .node x _ l r=>.node x false l r
theorem Xo.blacken{t:Tr}{m:Nat}(h:Xo t m):∃d,Xo t.black d:=by
 cases t with
 |nil=>exact⟨m,h⟩
 |node x c l r=>
  cases c with
  |false=>exact⟨m,h⟩
  |true=>exact⟨_,h.black⟩
theorem Qm0(h:Nd)(c:Bool)(l r:Tr):∃h' c' l' R,On (.node h c l r)=.node h' c' l' R:=by obtain⟨h1,u,l1,I,e1⟩:=Qr8 h c l r;obtain⟨J,B,l2,E,z⟩:=Qr9 h1 u l1 I;obtain⟨K,U,k,d,q⟩:=Qsa J B l2 E;refine⟨K.re k d,U,k,d,?_⟩;unfold On;rw[e1,z,q];rfl
theorem Qv8(n:Nat)(i:Int)(v a:Nat)(t:Tr):∃h' c' l' d,t.put n i v a=.node h' c' l' d:=by
 cases t with
 |nil=>exact⟨_,_,_,_,rfl⟩
 |node h c l r=>
  rw[Tr.put];split;·exact Qm0 _ _ _ _
  ·exact Qm0 _ _ _ _
theorem Qb7.root{w u w':World}{F:Fp}{T:Nat}{t:Tr}{l l':List J6}{d:Nd}{R:Bool}{l1 B:Tr}{p q:Value}(h:Qb7 w F T t l)(E:Yj u T (.node d R l1 B))
  (hT:Qh u T #[O0,Vw,p,q] 254) (c6:Qc F w u) (ha:∀a∈(Tr.node d R l1 B).addrs,F a∨w.heap.size≤a) (hf:∃m,Xo (.node d R l1 B) m)
  (V:(Tr.node d R l1 B).flat=l') (hr:X8 l')
  (hw:w'=((u.setCell ⟨T,2,none⟩ (.pointer (some ⟨d.a,0,none⟩))).setCell ⟨d.a,5,none⟩ (.bool false)).setCell ⟨T,3,none⟩ (.int .i64 (l'.length:Int))):
  V0 w' (Qn F w w') T l'∧Qc F w w':=by
 subst hw;have Z:=E.nd;simp only[Tr.addrs,List.nodup_cons,List.mem_append,List.mem_cons,not_or,List.nodup_append]at Z;have z:T≠d.a:=by grind
 have J:F T:=h.fp T (by simp);have U:Qc (fun k=>k=T∨k=d.a) u (((u.setCell ⟨T,2,none⟩ (.pointer (some ⟨d.a,0,none⟩))).setCell ⟨d.a,5,none⟩ (.bool false)).setCell ⟨T,3,none⟩ (.int .i64 (l'.length:Int))):=
  (((Qc.refl _ u).setCell (a:=⟨T,2,none⟩) _ (.inl (.inl rfl))).setCell (a:=⟨d.a,5,none⟩) _ (.inl (.inr rfl))).setCell (a:=⟨T,3,none⟩) _ (.inl (.inl rfl))
 have c:Qc F w (((u.setCell ⟨T,2,none⟩ (.pointer (some ⟨d.a,0,none⟩))).setCell ⟨d.a,5,none⟩ (.bool false)).setCell ⟨T,3,none⟩ (.int .i64 (l'.length:Int))):=
  c6.trans U fun k hk=>by
   rcases hk with rfl|rfl;·exact .inl J
   ·exact ha _ (by simp[Tr.addrs])
 have hX:Qh (((u.setCell ⟨T,2,none⟩ (.pointer (some ⟨d.a,0,none⟩))).setCell ⟨d.a,5,none⟩ (.bool false)).setCell ⟨T,3,none⟩ (.int .i64 (l'.length:Int))) d.a (ndC d false l1.ptrV B.ptrV) 258:=
  ((E.at'.1.other _ z).set' 5 _ rfl).other _ z
 have I:Qh (((u.setCell ⟨T,2,none⟩ (.pointer (some ⟨d.a,0,none⟩))).setCell ⟨d.a,5,none⟩ (.bool false)).setCell ⟨T,3,none⟩ (.int .i64 (l'.length:Int))) T #[O0,Vw,.pointer (some ⟨d.a,0,none⟩),.int .i64 (l'.length:Int)] 254:=
  ((hT.set' 2 _ rfl).other _ (Ne.symm z)).set' 3 _ rfl
 obtain⟨m,hm⟩:=hf;refine⟨⟨.node d false l1 B,I,⟨⟨_,_,I⟩,E.nd,hX,Jk.keep U l1 E.at'.2.1 (by grind),Jk.keep U B E.at'.2.2 (by grind)⟩,Xo.blacken hm,rfl,V,hr,?_,h.bd.ext c⟩,c⟩;intro a K;rcases List.mem_cons.1 K with rfl|K;·exact .inl J
 ·rcases ha a K with h'|h';·exact .inl h'
  ·exact .inr ⟨h',Nat.lt_of_lt_of_le (Jk.lt _ E.at' a K) U.size⟩
theorem Qte{w:World}{F:Fp}{T:Nat}{l:List J6}(h:V0 w F T l)(hl:l.length<4611686018427387904)(n:Nat)(i:Int)(v:Nat)(z:∀e∈l,¬(e.1=n∧e.2.1=i)):
  Cl 223 #[ptr T,Xi n i,.int .u64 (v:Int)] w fun e w'=>e=.returned (.int .i64 0)∧V0 w' (Qn F w w') T (Vz (n,i,v) l)∧Qc F w w':=by
 obtain⟨t,h⟩:=h;have u:t.at n i=.nil:=(Qf6 (by rw[h.flat];exact h.ris)).2 (by rw[h.flat];exact z);have aj:=O u;obtain⟨m,hm⟩:=h.fine;have q:(Vz (n,i,v) l).length=l.length+1:=(D8 (n,i,v) l).length_eq;have hs:IntKind.i64.wrap ((l.length:Int)+1)=((Vz (n,i,v) l).length:Int):=by rw[IntWalk.i64_in _ (by omega),q];omega
 have ae:Hid (∀a,∃m,Xo (t.put n i v a) m):=O fun a=>⟨m,(Qf0 n i v a t m hm).1 h.blk⟩;have ab:Hid (∀a,(t.put n i v a).flat=Vz (n,i,v) l):=O fun a=>by rw[Qf4 n i v a t (by rw[h.flat];exact h.ris),h.flat]
 have ag:Hid (X8 (Vz (n,i,v) l)):=O (Qd7 h.ris z);have H:=O h;have aa:=O (show T∉t.addrs from(List.nodup_cons.1 h.sub.nd).1);obtain⟨k,E⟩:=Zx (w.heap.size);have V:=O (Qh.new w #[.int .u64 (n:Int),.int .i64 i] 204);have C0:=O ((Qc.refl Qb w).alloc (.cells #[.int .u64 (n:Int),.int .i64 i] 204));simp only[←E]at V;obtain⟨pt,B⟩:=t.ptrV_any;have ai:=O B;have Z:=O (fun w F(h:Qb7 w F T t l)=>Qkq h n i);simp only[u,Tr.ptrV]at Z;have I:=O (fun w(h:Yj w T t)=>Qgc n i v T t w h);rw[B]at I;unfold ptr Xi at*;clear h u hm q z B hl;go_enter func223,ntmps223;go_wp2_with fail;rw[←E];obtain⟨W,hW⟩:=Zx (w.alloc (.cells #[.int .u64 (n:Int),.int .i64 i] 204));rw[←hW]at V C0⊢;clear hW E;have R0:=O (H.out.keep C0.out (Je.none F));have HN:=Hr ⟨_,_,R0.out.top⟩;have HA:=Z.out _ _ R0.out;obtain⟨k0,k1⟩:=Qz V.out;unfold ptr at HN;refine HN.mono ?_;rintro e w1⟨rfl,rfl⟩;go_wp2_with fail;refine HA.mono ?_;rintro e w2⟨rfl,c2⟩;have R2:=O (R0.out.keep c2 (Je.none F));have K2:=O (c2.blk V.out (fun h=>h));have C2:=O (C0.out.trans' c2);clear c2 HA HN k0 k1 R0 V C0;have E1:=fun x=>Qz (Qk (S:=Qb) K2.out (fun h=>h) x);have E2:=fun x=>Xt (Qk (S:=Qb) R2.out.top (fun h=>h) x);rw[ai.out]at E2;go_wp2_with fail;refine Yf [1,2,3,4,5,6,7] [0] [8,9,10,11] (Qw (Qb) (w2)) (by kernel_rfl) (by kernel_rfl) ?_ (Qd (by(repeat' (first|(with_reducible first|exact Zg _ _|assumption|refine Zh ?_ _|refine Zi ?_ _|refine Zj ?_ |refine Zk ?_ _ ?_ |(apply Or.inl;rfl))|(apply Or.inl;simp;done)|(apply Or.inr;simp;first|done|omega))))) ?_;·exact fun _ _ _ _ _ h=>h
 simp only[pick,Zf,Ze,Zd];iterate 7 (refine Ql (fun K hK=>?_);go_simp;refine hK _ ?_;clear hK K)
 refine Qf ?_;iterate 1 (refine Ql (fun K hK=>?_);go_simp;refine hK _ ?_;clear hK K)
 refine Qf ?_;intro _ ah;obtain⟨xo,U⟩:=ah;subst U;have c3:=O (Qu Qb w2 xo);generalize Qw Qb w2 xo=w3 at c3⊢;clear E1 E2;have R3:=O (R2.out.keep c3.out (Je.none F));have C3:=O (C2.out.trans' c3.out);clear R2 K2 C2 c3;go_wp2_with fail;refine(I.out _ R3.out.sub).mono ?_;rintro e w6⟨a,ha,rfl,J,c6⟩;obtain⟨x1,c1,l1,r1,c⟩:=Qv8 n i v a t;have d:=c6.blk R3.out.top aa.out;have ac:=O (fun w' hw=>H.out.root (l':=Vz (n,i,v) l) (w':=w') (c▸J) d (C3.out.none.trans' (c6.sub fun k E=>H.out.fp k (List.mem_cons_of_mem _ E))) (fun k E=>(Ly n i v a t (c▸E)).elim (fun e=>.inr (by rw[e];exact Nat.le_trans C3.out.size ha)) (fun h=>.inl (H.out.fp k (List.mem_cons_of_mem _ h)))) (c▸ae.out a) (c▸ab.out a) ag.out hw);rw[c]at J⊢;have hX:=J.at'.1;have R:=J.nd;simp only[Tr.addrs,List.nodup_cons,List.mem_append,List.mem_cons,not_or,List.nodup_append]at R;have af:T≠x1.a:=by grind
 have ak:x1.a≠T:=Ne.symm af;obtain⟨a0,a1,a2,a3⟩:=Xt d;obtain⟨b0,b1,b2,b3,b4,b5,b6,b7⟩:=Q7 hX;have f1:=d.frozen;have f2:=hX.frozen;dsimp only[Tr.ptrV];clear hX R J c6 d ha c;go_wp2;go_ret;exact⟨rfl,ac.out _ rfl⟩
theorem Yj.color{w w':World}{b:Nat}{x:Nd}{c c':Bool}{l r:Tr}(hs:Yj w b (.node x c l r))(q:w'=w.setCell ⟨x.a,5,none⟩ (.bool c')):Yj w' b (.node x c' l r)∧Qc (fun k=>k∈(Tr.node x c l r).addrs) w w':=by subst q;have hc:Qc (fun k=>k=x.a) w (w.setCell ⟨x.a,5,none⟩ (.bool c')):=(Qc.refl _ w).setCell (a:=⟨x.a,5,none⟩) _ (.inl rfl);have d:=hs.nd;simp only[Tr.addrs,List.nodup_cons,List.mem_append,List.mem_cons,not_or,List.nodup_append]at d;refine⟨⟨hs.top.keep hc (by grind),hs.nd,hs.at'.1.set' 5 _ rfl,Jk.keep hc l hs.at'.2.1 (by grind),Jk.keep hc r hs.at'.2.2 (by grind)⟩,hc.sub ?_⟩;rintro k rfl;simp[Tr.addrs]
theorem Qtf{n:Nat}{i:Int}{x:Nd}{l r:Tr}{m:Nat}(hf:Xo (.node x false l r) m)(hr:X8 (Tr.node x false l r).flat)(B:(Tr.node x false l r).has n i):
  ∃c,Drop n i (.node x (!l.red) l r) c∧(∃d,Xo c d)∧c.flat=del n i (Tr.node x false l r).flat:=by
 cases hl:l.red with
 |true=> obtain⟨c,h1,u,_,z⟩:=Hp n i _ (.node x false l r) m (Nat.le_refl _) hf (by show(false||l.red)=true;rw[hl];rfl) hr B;exact⟨c,h1,⟨m,u⟩,z⟩
 |false=>
  obtain⟨d,k⟩:∃d,m=d+1:=by obtain⟨q,_,_,_,_,e⟩:=hf.parts;exact⟨q,by simpa using e⟩
  subst k;obtain⟨c,h1,u,_,z⟩:=Hp n i _ (.node x true l r) d (Nat.le_refl _) (hf.toRed hl) rfl hr B;exact⟨c,h1,⟨d,u⟩,z⟩
theorem Qb7.gone{w u w':World}{F:Fp}{T:Nat}{t:Tr}{l:List J6}{p q:Value}(h:Qb7 w F T t l)
  (B:Qh u T #[O0,Vw,p,q] 254)(z:Qc F w u)
  (E:w'=(u.setCell ⟨T,2,none⟩ (.pointer none)).setCell ⟨T,3,none⟩ (.int .i64 0)):
  V0 w' (Qn F w w') T []∧Qc F w w':=by
 subst E;have d:F T:=h.fp T (by simp);have c:Qc F w ((u.setCell ⟨T,2,none⟩ (.pointer none)).setCell ⟨T,3,none⟩ (.int .i64 0)):=(z.setCell (a:=⟨T,2,none⟩) _ (.inl d)).setCell (a:=⟨T,3,none⟩) _ (.inl d);have k:Qh ((u.setCell ⟨T,2,none⟩ (.pointer none)).setCell ⟨T,3,none⟩ (.int .i64 0)) T #[O0,Vw,.pointer none,.int .i64 0] 254:=(B.set' 2 _ rfl).set' 3 _ rfl;exact⟨⟨.nil,k,⟨⟨_,_,k⟩,by simp[Tr.addrs],trivial⟩,⟨0,trivial,trivial,rfl⟩,rfl,rfl,List.Pairwise.nil,fun a ha=>by simp[Tr.addrs]at ha;exact .inl (ha▸d),h.bd.ext c⟩,c⟩
theorem Qge{n:Nat}{i:Int}:∀{l:List J6},X8 l→(∃e∈l,e.1=n∧e.2.1=i)→(del n i l).length+1=l.length
 |e::l,hr,h=>by
  obtain⟨h1,k⟩:=List.pairwise_cons.1 hr;by_cases d:e.1=n∧e.2.1=i;·rw[Qb2 d fun f hf c=>?_,List.length_cons];have:=h1 f hf;unfold klt at this;omega
  ·have:del n i (e::l)=e::del n i l:=by rw[del,List.filter_cons,if_pos (by rw[decide_eq_false d];rfl)];rfl
   rw[this,List.length_cons,List.length_cons,Qge k];obtain⟨f,hf,c⟩:=h;rcases List.mem_cons.1 hf with rfl|hf;·exact absurd c d
   ·exact⟨f,hf,c⟩
theorem Qpw{w:World}{F:Fp}{T:Nat}{l:List J6}(h:V0 w F T l)(hl:l.length<4611686018427387904)(n:Nat)(i:Int)(E:∃e∈l,e.1=n∧e.2.1=i):
  Cl 222 #[ptr T,Xi n i] w fun e w'=>e=.returned (.int .i64 0)∧V0 w' (Qn F w w') T (del n i l)∧Qc F w w':=by
 obtain⟨t,h⟩:=h;have z:X8 t.flat:=by rw[h.flat];exact h.ris
 obtain⟨y,cy,ay,az,V⟩:∃y c a b,t.at n i=.node y c a b:=by
  cases hq:t.at n i with
  |nil=> obtain⟨e,he,q⟩:=E;exact absurd q ((Qf6 z).1 hq e (by rw[h.flat];exact he))
  |node y c a b=>exact⟨y,c,a,b,rfl⟩
 obtain⟨x,L,R,rfl⟩:∃x l r,t=.node x false l r:=by
  cases t with
  |nil=>cases V
  |node x c l r=>obtain rfl:c=false:=h.blk;exact⟨x,l,r,rfl⟩
 obtain⟨m,hm⟩:=h.fine;have ab:R.red=false:=hm.parts.choose_spec.2.2.1;obtain⟨t',hD,ag,I⟩:=Qtf hm z (by unfold Tr.has;rw[h.flat];exact E);rw[h.flat]at I;have an:=Qge h.ris E;have hs:IntKind.i64.wrap ((l.length:Int)-1)=((del n i l).length:Int):=by rw[IntWalk.i64_in _ (by omega)];omega
 have ao:=O ag;have af:=O I;have aw:Hid (X8 (del n i l)):=O (Qpo h.ris);have H:=O h;have aa:=O (show T∉(Tr.node x false L R).addrs from(List.nodup_cons.1 h.sub.nd).1);obtain⟨k,q⟩:=Zx (w.heap.size);have K0:=O (Qh.new w #[.int .u64 (n:Int),.int .i64 i] 204);have C0:=O ((Qc.refl Qb w).alloc (.cells #[.int .u64 (n:Int),.int .i64 i] 204));have au:=O (show∀a∈T::(Tr.node x false L R).addrs,a≠k from fun a ha e=>by have:=h.bd a (h.fp a ha);omega);simp only[←q]at K0;have am:=O (fun w F(h:Qb7 w F T (.node x false L R) l)=>Qkq h n i);simp only[V,Tr.ptrV]at am;have ak:=O (fun w(h:Yj w T (.node x (!L.red) L R))=>Qtd hD h);have Z:=O (fun k(q:k∈t'.addrs)=>show k∈(Tr.node x false L R).addrs from(Vf hD).subset q);have ar:=O ab;dsimp only[Tr.ptrV]at ak;unfold ptr Xi at*;clear h V hm an E hl z hD ag I ab;go_enter func222,ntmps222;go_wp2_with fail;rw[←q];obtain⟨W,hW⟩:=Zx (w.alloc (.cells #[.int .u64 (n:Int),.int .i64 i] 204));rw[←hW]at K0 C0⊢;clear hW q;have R0:=O (H.out.keep C0.out (Je.none F));have HN:=Hr ⟨_,_,R0.out.top⟩;have HA:=am.out _ _ R0.out;obtain⟨k0,k1⟩:=Qz K0.out;unfold ptr at HN;refine HN.mono ?_;rintro e w1⟨rfl,rfl⟩;go_wp2_with fail;refine HA.mono ?_;rintro e w2⟨rfl,c2⟩;have B:=O (R0.out.keep c2 (Je.none F));have K2:=O (c2.blk K0.out (fun h=>h));have C2:=O (C0.out.trans' c2);clear c2 HA HN k0 k1 R0 K0 C0;have u:(Tr.node x false L R).ptrV=.pointer (some ⟨x.a,0,none⟩):=rfl;obtain⟨a0,a1,a2,a3⟩:=Xt B.out.top;obtain⟨b0,b1,b2,b3,b4,b5,b6,b7⟩:=Q7 B.out.sub.at'.1;rw[u]at a2;have HL:=O (Yk L B.out.sub.at'.2.1);have HR:=O (Yk R B.out.sub.at'.2.2);rw[ar.out]at HR;obtain⟨pl,al⟩:=L.ptrV_any;obtain⟨pr,ac⟩:=R.ptrV_any;rw[al]at b6 HL;rw[ac]at b7 HR;clear u al ac;go_upto_region 5 with fail;go_cut [32] (fun aq wz=>aq=.bool (!L.red)∧wz=w2)
 case first=>
  cases hq:L.red;all_goals rw[hq]at HL
  all_goals
   go_wp2_with fail;refine HL.out.mono ?_;rintro e w3⟨rfl,rfl⟩;go_wp2_with fail;try
    refine HR.out.mono ?_;rintro e w3⟨rfl,rfl⟩;go_wp2_with fail
   go_meet;exact⟨by rw[hq];rfl,rfl⟩
 case rest=>
  obtain⟨rfl,ah⟩:=hcut;rw[ah];clear ah wc HL HR;go_upto_if 32 with fail;have f2:=B.out.sub.at'.1.frozen;go_cut [] (fun wz=>Yj wz T (.node x (!L.red) L R)∧Qc (fun k=>k∈(Tr.node x false L R).addrs) w2 wz)
  case first=>
   cases hq:L.red;·have FX:=O (fun w7(e:w7=w2.setCell ⟨x.a,5,none⟩ (.bool true))=>B.out.sub.color (c':=true) e);go_wp2_with fail;go_meet;rw[hq];exact FX.out _ rfl
   ·go_wp2_with fail;go_meet;rw[hq];exact⟨B.out.sub,Qc.refl _ _⟩
  case rest=>
   obtain⟨i3,c3⟩:=hcut;obtain⟨w3,ai⟩:=Zx wc;rw[←ai]at i3 c3⊢;have T3:=O (c3.blk B.out.top aa.out);have K3:=O (c3.blk K2.out (fun h=>au.out _ (List.mem_cons_of_mem _ h) rfl));have C3:=O (C2.out.none.trans' c3);have I3:=O i3;clear ai i3 c3 B K2 C2 a0 a1 a2 a3 b0 b1 b2 b3 b4 b5 b6 b7 f2;have u:(Tr.node x false L R).ptrV=.pointer (some ⟨x.a,0,none⟩):=rfl;have E1:=fun x=>Qz (Qk (S:=Qb) K3.out (fun h=>h) x);have E2:=fun x=>Xt (Qk (S:=Qb) T3.out (fun h=>h) x);rw[u]at E2;clear u;go_wp2_with fail;refine Yf [1,2,3,4,5,6] [0] [7,8,9,10] (Qw (Qb) (w3)) (by kernel_rfl) (by kernel_rfl) ?_ (Qd (by(repeat' (first|(with_reducible first|exact Zg _ _|assumption|refine Zh ?_ _|refine Zi ?_ _|refine Zj ?_ |refine Zk ?_ _ ?_ |(apply Or.inl;rfl))|(apply Or.inl;simp;done)|(apply Or.inr;simp;first|done|omega))))) ?_;·exact fun _ _ _ _ _ h=>h
   simp only[pick,Zf,Ze,Zd];iterate 6 (refine Ql (fun K hK=>?_);go_simp;refine hK _ ?_;clear hK K)
   refine Qf ?_;iterate 1 (refine Ql (fun K hK=>?_);go_simp;refine hK _ ?_;clear hK K)
   refine Qf ?_;intro _ av;obtain⟨xo,aj⟩:=av;subst aj;have c4:=O (Qu Qb w3 xo);generalize Qw Qb w3 xo=w4 at c4⊢;clear E1 E2;have I4:=O (I3.out.keep c4.out (fun _ _ h=>h));have T4:=O (c4.out.blk T3.out (fun h=>h));have C4:=O (C3.out.trans' c4.out.none);clear I3 T3 K3 C3 c4;go_wp2_with fail;refine(ak.out _ I4.out).mono ?_;rintro e w6⟨rfl,i6,c6⟩;have d:=c6.blk T4.out aa.out;have C6:=O (show Qc F w w6 from(C4.out.trans' c6).sub fun k q=>H.out.fp k (List.mem_cons_of_mem _ q));obtain⟨a0,a1,a2,a3⟩:=Xt d;have f1:=d.frozen;cases t' with
   |nil=> have J:del n i l=[]:=af.out.symm;rw[J]at hs;have U:=O (fun w' hw=>H.out.gone (w':=w') d C6.out hw);dsimp only[Tr.ptrV];have ax:=O J;clear i6 c6 d J;rw[show(([]:List J6).length:Int)=0 from rfl]at hs;go_wp2;go_ret;rw[ax.out];exact⟨rfl,U.out _ rfl⟩
   |node x1 c1 l1 r1=>
    have U:=O (fun w' hw=>H.out.root (l':=del n i l) (w':=w') i6 d C6.out (fun k q=>.inl (H.out.fp k (List.mem_cons_of_mem _ (Z.out k q)))) ao.out af.out aw.out hw);have hX:=i6.at'.1;have ae:=i6.nd;simp only[Tr.addrs,List.nodup_cons,List.mem_append,List.mem_cons,not_or,List.nodup_append]at ae;have ap:T≠x1.a:=by grind
    have a4:x1.a≠T:=Ne.symm ap;obtain⟨b0,b1,b2,b3,b4,b5,b6,b7⟩:=Q7 hX;have f2:=hX.frozen;dsimp only[Tr.ptrV];clear hX ae i6 c6 d;go_wp2;go_ret;exact⟨rfl,U.out _ rfl⟩
end
section
attribute [local go_sem] Qq
attribute [local go_sem ↓] Kl Km
attribute [local go_sem] U5 Ub
theorem Qb7.even{w:World}{F:Fp}{T:Nat}{t:Tr}{l:List J6}(h:Qb7 w F T t l):t.even:=by obtain⟨m,c⟩:=h.fine;exact c.2.1
theorem V0.ris{w:World}{F:Fp}{T:Nat}{l:List J6}(h:V0 w F T l):X8 l:=by obtain⟨t,h⟩:=h;exact h.ris
theorem Qtg(w:World):Cl 176 #[O0,Vw] w fun e w'=>e=.returned (ptr w.heap.size)∧V0 w' (Qn Qb w w') w.heap.size []∧Qc Qb w w':=by
 have c:=O (fun w'(q:w'=w.alloc (.cells #[O0,Vw,.pointer none,.int .i64 0] 254))=>show V0 w' (Qn Qb w w') w.heap.size []∧Qc Qb w w' from by
  subst q;have d:=Qh.new w #[O0,Vw,.pointer none,.int .i64 0] 254;exact⟨⟨.nil,d,⟨⟨_,_,d⟩,by simp[Tr.addrs],trivial⟩,⟨0,trivial,trivial,rfl⟩,rfl,rfl,List.Pairwise.nil,fun a ha=>by simp[Tr.addrs]at ha;exact .inr ⟨by omega,by subst ha;simp⟩,fun k u=>u.elim (fun h=>h.elim) (fun h=>h.2)⟩,(Qc.refl _ _).alloc _⟩)
 unfold ptr O0 Vw at*;go_enter func176,ntmps176;go_wp2;go_ret;exact⟨rfl,c.out _ rfl⟩
theorem Qth{w:World}{F:Fp}{T:Nat}{l:List J6}(h:V0 w F T l):Cl 211 #[ptr T] w fun e w'=>e=.returned (.int .i64 (l.length:Int))∧w=w':=by obtain⟨t,h⟩:=h;have c:=O (Hr ⟨_,_,h.top⟩);obtain⟨d,a1,k,q⟩:=Xt h.top;unfold ptr at*;clear h;go_enter func211,ntmps211;go_wp2_with fail;refine c.out.mono ?_;rintro e w1⟨rfl,rfl⟩;go_wp2;go_ret;exact⟨rfl,rfl⟩
theorem at_mem{n:Nat}{i:Int}{v:Nat}{t:Tr}(hr:X8 t.flat)(B:(n,i,v)∈t.flat):∃y c a b,t.at n i=.node y c a b∧y.v=v:=by
 cases E:t.at n i with
 |nil=>exact absurd ⟨rfl,rfl⟩ ((Qf6 hr).1 E _ B)
 |node y c a b=>
  obtain⟨h1,J,I⟩:=Qkl E;refine⟨y,c,a,b,rfl,?_⟩;rcases Nat.lt_trichotomy 0 1 with _|h|h
  ·by_cases e:(n,i,y.v)=(n,i,v);·simpa using e
   ·exfalso;have:klt (n,i,y.v) (n,i,v)∨klt (n,i,v) (n,i,y.v):=by
     obtain⟨j,q⟩:=List.mem_iff_getElem.1 B;obtain⟨k,u⟩:=List.mem_iff_getElem.1 I;obtain⟨q,z⟩:=q;obtain⟨u,d⟩:=u;rcases Nat.lt_trichotomy j k with h'|h'|h';·have:=List.pairwise_iff_getElem.1 hr j k q u h';rw[z,d]at this;exact .inr this
     ·subst h';rw[z]at d;exact absurd d.symm e
     ·have:=List.pairwise_iff_getElem.1 hr k j u q h';rw[z,d]at this;exact .inl this
    unfold klt at this;dsimp only at this;omega
  ·cases h
  ·omega
theorem Qkr{w:World}{n:Nat}{i:Int}:∀{t:Tr},Jk w t→Jk w (t.at n i)
 | .nil,_=>trivial
 | .node x c l r,h=>by
  rw[Tr.at];split;·exact h
  ·split;·exact Qkr h.2.1
   ·exact Qkr h.2.2
theorem Qti{w:World}{F:Fp}{T:Nat}{l:List J6}(h:V0 w F T l)(n:Nat)(i:Int)(v:Nat)(E:(n,i,v)∈l):
  Cl 171 #[ptr T,Xi n i] w fun e w'=>e=.returned (.tuple #[.int .u64 (v:Int),.bool true])∧Qc Qb w w':=by
 obtain⟨t,h⟩:=h;obtain⟨y,c,a,b,d,rfl⟩:=at_mem (t:=t) (by rw[h.flat];exact h.ris) (by rw[h.flat];exact E);have R:=O (show Jk w (.node y c a b)from d▸Qkr (n:=n) (i:=i) h.sub.at');have H:=O h;obtain⟨k,B⟩:=Zx (w.heap.size);have u:=O (Qh.new w #[.int .u64 (n:Int),.int .i64 i] 204);have z:=O ((Qc.refl Qb w).alloc (.cells #[.int .u64 (n:Int),.int .i64 i] 204));simp only[←B]at u;have q:=O (fun w F(h:Qb7 w F T t l)=>Qkq h n i);simp only[d,Tr.ptrV]at q;unfold ptr Xi at*;clear h d E;go_enter func171,ntmps171;go_wp2_with fail;rw[←B];obtain⟨W,hW⟩:=Zx (w.alloc (.cells #[.int .u64 (n:Int),.int .i64 i] 204));rw[←hW]at u z⊢;clear hW B;have J:=q.out _ _ (H.out.keep z.out (Je.none F));obtain⟨k0,k1⟩:=Qz u.out;refine J.mono ?_;rintro e w2⟨rfl,I⟩;have K:=O (z.out.trans' I);obtain⟨b0,b1,b2,U,b4,b5,V,Z⟩:=Q7 (K.out.blk R.out.1 (fun h=>h));clear k0 k1 J R I;go_wp2;go_ret2;exact⟨rfl,K.out⟩
def V2(s:Nat×Int):Value:=.agg #[.int .u64 (s.1:Int),.int .i64 s.2]
theorem Qtj{w:World}{F:Fp}{T:Nat}{l:List J6}(h:V0 w F T l):
  Cl 172 #[ptr T] w fun e w'=>e=.returned (.tuple #[V2 ((low l).getD (0,0)),.bool (low l).isSome])∧Qc Qb w w':=by
 obtain⟨t,h⟩:=h;have d:=Qb5 t h.even;rw[h.flat]at d;rw[←d];obtain⟨k,E⟩:=Zx (w.heap.size);have B:=O ((Qc.refl Qb w).alloc (.cells #[.int .u64 0,.int .i64 0] 201));have J:=O (Qh.new w #[.int .u64 0,.int .i64 0] 201);simp only[←E]at J;have u:=O (h.keep B.out (Je.none F));have I:=O (Hr ⟨_,_,u.out.top⟩);have Z:=J.out.frozen;unfold ptr at*;clear h d;cases t with
 |nil=>
  obtain⟨K,a1,z,R⟩:=Xt u.out.top;have q:Tr.nil.ptrV=.pointer none:=rfl;rw[q]at z;clear q;go_enter func172,ntmps172;go_wp2_with fail;rw[←E];refine I.out.mono ?_;rintro e w1⟨rfl,rfl⟩;go_wp2;refine bodyPost_ret (v:=.tuple #[V2 (0,0),.bool false]) ?_ rfl ⟨rfl,?_⟩;·simp[*,results,Tryz.results172,go_sem,V2]
  ·have:=B.out;(repeat' (first|(with_reducible first|exact Zg _ _|assumption|refine Zh ?_ _|refine Zi ?_ _|refine Zj ?_ |refine Zk ?_ _ ?_ |(apply Or.inl;rfl))|(apply Or.inl;simp;done)|(apply Or.inr;simp;first|done|omega)))
 |node x c a b=>
  obtain⟨K,a1,z,R⟩:=Xt u.out.top;have q:(Tr.node x c a b).ptrV=.pointer (some ⟨x.a,0,none⟩):=rfl;rw[q]at z;obtain⟨b0,b1,b2,U,b4,b5,V,b7⟩:=Q7 u.out.sub.at'.1;clear q;go_enter func172,ntmps172;go_wp2_with fail;rw[←E];refine I.out.mono ?_;rintro e w1⟨rfl,rfl⟩;go_wp2;refine bodyPost_ret (v:=.tuple #[V2 (x.sv,x.si),.bool true]) ?_ rfl ⟨rfl,?_⟩;·simp[*,results,Tryz.results172,go_sem,V2]
  ·have hc:=B.out;(repeat' (first|(with_reducible first|exact Zg _ _|assumption|refine Zh ?_ _|refine Zi ?_ _|refine Zj ?_ |refine Zk ?_ _ ?_ |(apply Or.inl;rfl))|(apply Or.inl;simp;done)|(apply Or.inr;simp;first|done|omega)))
theorem Qx2(s a:Nat×Int):jn (some s) (some a)=some (Jp s a):=rfl
theorem Qdc{W:World}{q0 q1 q2 T:Nat}(o:Option (Nat×Int))(a:Nat×Int)(h0:Qh W q0 #[.pointer (some ⟨T,0,none⟩)] 195)(h1:Qh W q1 (Xz (o.getD (0,0))) 201)
  (h2:Qh W q2 #[.bool o.isSome] 4) (hT:Qms W T) (Z:q1≠q2):
  Cl 210 #[V2 a,ptr q2,ptr q0,ptr q1] W fun e w'=>e=.returned (.tuple #[])∧Qh w' q1 (Xz ((jn o (some a)).getD (0,0))) 201∧Qh w' q2 #[.bool (jn o (some a)).isSome] 4∧Qc (fun k=>k=q1∨k=q2) W w':=by
 obtain⟨k,hk⟩:=Zx (W.heap.size);have R:=O (Qh.new W (Xz a) 201);have c:=O ((Qc.refl Qb W).alloc (.cells (Xz a) 201));simp only[←hk]at R;have l1:=h1.lt;have l2:=h2.lt;have m1:q1≠k:=by omega
 have m2:q2≠k:=by omega
 have HK:Hid (W.heap.size≤k):=O (by omega);have q:=O Z;have M1:=O m1;have M2:=O m2;have ae:=Ne.symm Z;have ac:=Ne.symm m1;have af:=Ne.symm m2;have H0:=O h0;have H1:=O h1;have H2:=O h2;have HT:=O hT;clear h0 h1 h2 hT l1 l2;have B:Hid (∀(w3 w':World)(s:Nat×Int),Qc Qb W w3→w'=((w3.setCell ⟨q1,0,none⟩ (.int .u64 (s.1:Int))).setCell ⟨q1,1,none⟩ (.int .i64 s.2)).setCell ⟨q2,0,none⟩ (.bool true)→
   Qh w' q1 (Xz s) 201∧Qh w' q2 #[.bool true] 4∧Qc (fun k=>k=q1∨k=q2) W w'):=O fun w3 w' s hc hw=>by
  subst hw;exact⟨(((hc.blk H1.out (fun h=>h)).set' 0 _ rfl).set' 1 _ rfl).other _ (Ne.symm q.out),(((hc.blk H2.out (fun h=>h)).other _ q.out).other _ q.out).set' 0 _ rfl,((hc.none.setCell (a:=⟨q1,0,none⟩) _ (.inl (.inl rfl))).setCell (a:=⟨q1,1,none⟩) _ (.inl (.inl rfl))).setCell (a:=⟨q2,0,none⟩) _ (.inl (.inr rfl))⟩
 cases o with
 |none=> rw[show jn none (some a)=some a from rfl];have d:=c.out.blk H1.out (fun h=>h);have u:=c.out.blk H2.out (fun h=>h);dsimp only[Xz,V2,Option.getD,Option.isSome]at*;have f1:=d.frozen;have f2:=u.frozen;obtain⟨a0,a1⟩:=Qz d;have b0:=Zv u;obtain⟨k0,k1⟩:=Qz R.out;unfold ptr at*;clear d u;go_enter func210,ntmps210;go_wp2_with fail;rw[←hk];go_wp2;refine bodyPost_end (by simp[*,results,Tryz.results210,go_sem]) rfl ⟨rfl,?_⟩;exact B.out _ _ a c.out rfl
 |some s=>
  have HL:=O (fun w=>Qga s a w);rw[Qx2];have b0:=Zv (c.out.blk H2.out (fun h=>h));obtain⟨W1,hW1⟩:=Zx (W.alloc (.cells (Xz a) 201));rw[←hW1]at R c;have ab:=O hW1;have B0:=O (c.out.blk H0.out (fun h=>h));have d:=O (c.out.blk H1.out (fun h=>h));have u:=O (c.out.blk H2.out (fun h=>h));have BT:=O (HT.out.keep c.out (fun h=>h));dsimp only[Xz,V2,Option.getD,Option.isSome]at*;obtain⟨pT,nT,z⟩:=BT.out;have V:=O z;unfold ptr O0 Vw at*;clear z;go_enter func210,ntmps210;go_wp2_with fail;rw[←hk,←hW1];have E0:=fun x=>Zv (Qk (S:=Qb) B0.out (fun h=>h) x);have E1:=fun x=>Qz (Qk (S:=Qb) d.out (fun h=>h) x);have E2:=fun x=>Qz (Qk (S:=Qb) R.out (fun h=>h) x);have E3:=fun x=>Xt (Qk (S:=Qb) V.out (fun h=>h) x);clear hk hW1;refine Qr [] [0,1,2,3,4,5] [6] [7] (Qw (Qb) (W1)) (by kernel_rfl) (by kernel_rfl) ?_ (Qd (by(repeat' (first|(with_reducible first|exact Zg _ _|assumption|refine Zh ?_ _|refine Zi ?_ _|refine Zj ?_ |refine Zk ?_ _ ?_ |(apply Or.inl;rfl))|(apply Or.inl;simp;done)|(apply Or.inr;simp;first|done|omega))))) ?_;·exact fun _ _ _ _ _ h=>h
  simp only[pick,Zf,Ze,Zd];refine Qf ?_;iterate 6 (refine Ql (fun K hK=>?_);go_simp;refine hK _ ?_;clear hK K)
  refine Qf ?_;intro _ aa;obtain⟨xo,I⟩:=aa;subst I;simp only[Zn];have c3:=O (Qu Qb W1 xo);generalize Qw Qb W1 xo=w3 at c3⊢;clear E0 E1 E2 E3 b0;go_wp2_with fail;with_reducible refine(HL.out _).mono ?_
  rintro e w4⟨rfl,d4⟩;have E:=O (c3.out.trans' d4);clear d4;go_wp2;refine⟨Qd E.out,?_⟩;have J:=O (E.out.blk d.out (fun h=>h));have U:=O (E.out.blk u.out (fun h=>h));have K4:=O (E.out.blk R.out (fun h=>h));have f1:=J.out.frozen;have f2:=U.out.frozen;have f3:=K4.out.frozen;obtain⟨a0,a1⟩:=Qz J.out;have b0:=Zv U.out;obtain⟨k0,k1⟩:=Qz K4.out;have F2:=O (fun w' hw=>B.out ((w4.setCell ⟨k,0,none⟩ (.int .u64 ((Jp s a).1:Int))).setCell ⟨k,1,none⟩ (.int .i64 (Jp s a).2)) w' (Jp s a) (((c.out.trans' E.out).setCell (a:=⟨k,0,none⟩) _ (.inr HK.out)).setCell (a:=⟨k,1,none⟩) _ (.inr HK.out)) hw);clear B0 d u BT V c3;go_wp2;refine bodyPost_end (by simp[*,results,Tryz.results210,go_sem]) rfl ⟨rfl,?_⟩;exact F2.out _ rfl
def Tr.is:Tr→Bool
 | .nil=>false
 | .node _ _ _ _=>true
theorem Qtk{n:Nat}{x:Nd}{c:Bool}{l r:Tr}(o:Option (Nat×Int))(h:n<x.n):(Tr.node x c l r).upto n o=l.upto n o:=by rw[Tr.upto,if_pos h]
theorem Qpx{n:Nat}{x:Nd}{c:Bool}{l r:Tr}(o:Option (Nat×Int))(h:¬n<x.n):(Tr.node x c l r).upto n o=r.upto n (jn (jn o l.sum) (some (x.v,x.i))):=by rw[Tr.upto,if_neg h]
theorem Qh.same{w w':World}{S:Fp}{b:Nat}{cs:Array Value}{t:TypeId}(hc:Qc S w w')(h:Qh w' b cs t)(i:Nat)(v:Value)(B:cs[i]? =some v):Qc S w (w'.setCell ⟨b,i,none⟩ v)∧Qh (w'.setCell ⟨b,i,none⟩ v) b cs t:=by
 have d:cs.setIfInBounds i v=cs:=by
  apply Array.ext_getElem?;intro j;rw[Array.getElem?_setIfInBounds];split
  ·rename_i e;subst e;split;·exact B.symm
   ·rename_i E;rw[Array.getElem?_eq_none (by omega)]
  ·rfl
 have z:Qh (w'.setCell ⟨b,i,none⟩ v) b cs t:=h.set' i v d;have c:Qc (fun k=>k=b) w' (w'.setCell ⟨b,i,none⟩ v):=(Qc.refl _ _).setCell (a:=⟨b,i,none⟩) _ (.inl rfl);refine⟨⟨c.os.trans hc.os,c.tape.trans hc.tape,c.output.trans hc.output,Nat.le_trans hc.size c.size,fun k q u=>?_⟩,z⟩;by_cases e:k=b;·subst e;have h1:=hc.block k q u;rw[←h1];exact z.trans (Eq.symm h)
 ·exact(c.block k (Nat.lt_of_lt_of_le q hc.size) e).trans (hc.block k q u)
structure Qpy(W:World)(q1 q2:Nat)(o:Option (Nat×Int))(wr:World):Prop where
 b1:Qh wr q1 (Xz (o.getD (0,0))) 201
 b2:Qh wr q2 #[.bool o.isSome] 4
 c:Qc (fun k=>k=q1∨k=q2) W wr
theorem Qpy.later{W wr w':World}{q1 q2:Nat}{o:Option (Nat×Int)}(h:Qpy W q1 q2 o wr)(hc:Qc Qb wr w'):Qpy W q1 q2 o w':=⟨hc.blk h.b1 (fun h=>h),hc.blk h.b2 (fun h=>h),h.c.trans' hc.none⟩
theorem Qpz{w:World}{F:Fp}{T:Nat}{l:List J6}(h:V0 w F T l)(n:Nat):
  Cl 158 #[ptr T,.int .u64 (n:Int)] w fun e w'=>e=.returned (.tuple #[V2 ((low (l.filter fun e=>decide (e.1≤n))).getD (0,0)),.bool (low (l.filter fun e=>decide (e.1≤n))).isSome])∧Qc Qb w w':=by
 obtain⟨t,h⟩:=h;have ag:=Qf7 n t none h.even (by rw[h.flat];exact h.ris);rw[h.flat]at ag;rw[show jn none (low (l.filter fun e=>decide (e.1≤n)))=low (l.filter fun e=>decide (e.1≤n)) by cases low (l.filter fun e=>decide (e.1≤n))<;>rfl]at ag;rw[←ag];obtain⟨R,hR⟩:=Zx (t.upto n none);rw[←hR];have HR:=O hR;obtain⟨d,B⟩:=Zx (w.heap.size);obtain⟨W,hW⟩:=Zx (((w.alloc (.cells #[.pointer (some ⟨T,0,none⟩)] 195)).alloc (.cells #[.int .u64 0,.int .i64 0] 201)).alloc (.cells #[.bool false] 4));have C0:Hid (Qc Qb w W):=O (by rw[hW];exact(((Qc.refl _ _).alloc _).alloc _).alloc _);have B0:Hid (Qh W d #[.pointer (some ⟨T,0,none⟩)] 195):=O (by rw[hW,B];exact((Qh.new _ _ _).alloc _).alloc _);have B1:Hid (Qh W (d+1) #[.int .u64 0,.int .i64 0] 201):=O (by rw[hW,B];exact(Qh.new' _ _ (by simp)).alloc _);have B2:Hid (Qh W (d+1+1) #[.bool false] 4):=O (by rw[hW,B];exact Qh.new' _ _ (by simp));have HQ:=O B;have H:=O (h.keep C0.out (Je.none F));have ac:=O (fun a(ha:a∈T::t.addrs)=>show a<d from B▸h.bd a (h.fp a ha));unfold ptr at*;clear h ag hR;go_enter func158,ntmps158;go_wp2_with fail;rw[←B,←hW];clear B hW;have HN:=Hr ⟨_,_,H.out.top⟩;unfold ptr at HN;have b0:=Zv B0.out;obtain⟨a0,a1,a2,a3⟩:=Xt H.out.top;obtain⟨pt,al⟩:=t.ptrV_any;have a4:=O al;rw[al]at a2;clear al;go_wp2_with fail;refine HN.mono ?_;rintro e w1⟨rfl,rfl⟩;go_wp2_with fail;clear a0 a1 a2 a3 HN b0;go_loopg [7] t.size (fun g v wr=>∃(s:Tr)(o:Option (Nat×Int)),v=s.ptrV∧s.size=g∧Jk W s∧(∀a∈s.addrs,a∈t.addrs)∧s.upto n o=R∧Qpy W (d+1) (d+1+1) o wr);case atStart=>exact⟨t,none,a4.out.symm,rfl,H.out.sub.at',fun _ h=>h,HR.out.symm,B1.out,B2.out,Qc.refl _ _⟩
 case round=>
  obtain⟨s,o,rfl,af,I,U,ah,aj⟩:=hrel;have HF:=O ah;have z:=O aj;cases s with
  |nil=>
   have ho:o=R:=ah;rw[ho]at z;dsimp only[Tr.ptrV];clear af I U ah aj ho HF;have E1:=fun x=>Qz (Qk (S:=Qb) z.out.b1 (fun h=>h) x);have E2:=fun x=>Zv (Qk (S:=Qb) z.out.b2 (fun h=>h) x);go_wp2_with fail;refine Qr [] [0,1] [2,3] [] (Qw (Qb) (wr)) (by kernel_rfl) (by kernel_rfl) ?_ (Qd (by(repeat' (first|(with_reducible first|exact Zg _ _|assumption|refine Zh ?_ _|refine Zi ?_ _|refine Zj ?_ |refine Zk ?_ _ ?_ |(apply Or.inl;rfl))|(apply Or.inl;simp;done)|(apply Or.inr;simp;first|done|omega))))) ?_;·exact fun _ _ _ _ _ h=>h
   simp only[pick,Zf,Ze,Zd];refine Qf ?_;iterate 2 (refine Ql (fun K E=>?_);go_simp;refine E _ ?_;clear E K)
   refine Qf ?_;intro _ ab;obtain⟨xo,q⟩:=ab;subst q;simp only[Zn];have c5:=O (Qu Qb wr xo);generalize Qw Qb wr xo=w5 at c5⊢;clear E1 E2;have ai:=O (z.out.later c5.out);have f1:=ai.out.b1.frozen;have X1:=O (Qh.same c5.out ai.out.b1 0 (.int .u64 ((R.getD (0,0)).1:Int)) rfl);have X2:=O (Qh.same X1.out.1 X1.out.2 1 (.int .i64 (R.getD (0,0)).2) rfl);obtain⟨w6,ar⟩:=Zx ((w5.setCell ⟨d+1,0,none⟩ (.int .u64 ((R.getD (0,0)).1:Int))).setCell ⟨d+1,1,none⟩ (.int .i64 (R.getD (0,0)).2));rw[←ar]at X2;clear X1;obtain⟨e0,e1⟩:=Qz ai.out.b1;go_wp2_with fail;rw[←ar];refine⟨Qd X2.out.1,?_⟩;have ae:=O (z.out.later X2.out.1);have X3:=O (Qh.same X2.out.1 ae.out.b2 0 (.bool R.isSome) rfl);have f2:=ae.out.b2.frozen;clear f1 ar ai c5 e0 e1;have e0:=Zv ae.out.b2;obtain⟨w7,ap⟩:=Zx (w6.setCell ⟨d+1+1,0,none⟩ (.bool R.isSome));rw[←ap]at X3;go_wp2;rw[←ap];refine⟨Qd X3.out.1,?_⟩;clear e0;have ao:=O (z.out.later X3.out.1);obtain⟨e0,e1⟩:=Qz ao.out.b1;have e2:=Zv ao.out.b2;have az:=O (show Qc Qb w w7 from C0.out.trans ao.out.c fun k hk=>.inr (by have:=HQ.out;omega));clear z X2 X3 ae f2 ap;go_wp2;refine bodyPost_ret (v:=.tuple #[V2 (R.getD (0,0)),.bool R.isSome]) ?_ rfl ⟨rfl,?_⟩;·simp[*,results,Tryz.results158,go_sem,V2]
   ·exact az.out
  |node u cu ul ur=>
   have HA:=O (Jk.keep aj.c _ I (fun a ha h=>by have:=ac.out a (List.mem_cons_of_mem _ (U a ha));omega));have HU:=O (show Qh W u.a (ndC u cu ul.ptrV ur.ptrV) 258∧u.a<d from⟨I.1,ac.out u.a (List.mem_cons_of_mem _ (U u.a (by simp[Tr.addrs])))⟩);have ay:=O I.2.1;have av:=O I.2.2;have a5:=O (fun a(ha:a∈ul.addrs)=>U a (by simp[Tr.addrs,ha]));have aw:=O (fun a(ha:a∈ur.addrs)=>U a (by simp[Tr.addrs,ha]));obtain⟨b0,b1,b2,b3,b4,b5,b6,b7⟩:=Q7 HA.out.1;dsimp only[Tr.ptrV];have gl:ul.size<gk:=by rw[←af];simp[Tr.size];omega
   have gr:ur.size<gk:=by rw[←af];simp[Tr.size];omega
   obtain⟨pl,au⟩:=ul.ptrV_any;obtain⟨pr,am⟩:=ur.ptrV_any;have aq:=O au;have J:=O am;rw[au]at b6;rw[am]at b7;clear af I U ah aj au am;by_cases hx:n<u.n
   ·have hd:decide ((n:Int)<(u.n:Int))=true:=by simp;omega
    have a6:decide (n<u.n)=true:=by simp;omega
    have HX:=O (Qtk (c:=cu) (l:=ul) (r:=ur) o hx);clear hx;go_wp2_with fail;go_roundg ul.size;case rel=>exact⟨ul,o,aq.out.symm,rfl,ay.out,a5.out,by rw[←HX.out];exact HF.out,z.out⟩
    case measure=>exact gl
   ·have hd:decide ((n:Int)<(u.n:Int))=false:=by simp;omega
    have a6:decide (n<u.n)=false:=by simp;omega
    have HX:=O (Qpx (c:=cu) (l:=ul) (r:=ur) o hx);clear hx;cases ul with
    |nil=>
     have an:pl=none:=by have:=aq.out;simpa[Tr.ptrV]using this.symm
     subst an;have aa:jn (jn o Tr.nil.sum) (some (u.v,u.i))=jn o (some (u.v,u.i)):=by rw[show Tr.nil.sum=none from rfl,Qr5]
     rw[aa]at HX;have Z:=O z.out;clear aa z;obtain⟨w3,ax⟩:=Zx wr;rw[←ax]at Z HA b0 b1 b2 b3 b4 b5 b6 b7⊢;clear ax;obtain⟨o1,V⟩:=Zx o;rw[←V]at HX Z HF;clear V;go_wp2_with fail;have A3:=O (show Qh w3 u.a (ndC u cu Tr.nil.ptrV ur.ptrV) 258 from Z.out.c.blk HU.out.1 (fun h=>by have:=HU.out.2;omega));have T3:=O (Z.out.c.blk H.out.top (fun h=>by have:=ac.out T (by simp);omega));have Q3:=O (Z.out.c.blk B0.out (fun h=>by omega));have E1:=fun x=>Zv (Qk (S:=Qb) Q3.out (fun h=>h) x);have E2:=fun x=>Xt (Qk (S:=Qb) T3.out (fun h=>h) x);have E3:=fun x=>Q7 (Qk (S:=Qb) A3.out (fun h=>h) x);unfold O0 Vw at E2;rw[J.out]at E3;clear b0 b1 b2 b3 b4 b5 b6 b7 HA;refine Qr [0] [1,2,3,4,5,6,7,8,9,10,11,12] [13] [14] (Qw (Qb) (w3)) (by kernel_rfl) (by kernel_rfl) ?_ (Qd (by(repeat' (first|(with_reducible first|exact Zg _ _|assumption|refine Zh ?_ _|refine Zi ?_ _|refine Zj ?_ |refine Zk ?_ _ ?_ |(apply Or.inl;rfl))|(apply Or.inl;simp;done)|(apply Or.inr;simp;first|done|omega))))) ?_;·exact fun _ _ _ _ _ h=>h
     simp only[pick,Zf,Ze,Zd];iterate 1 (refine Ql (fun K E=>?_);go_simp;refine E _ ?_;clear E K)
     refine Qf ?_;iterate 12 (refine Ql (fun K E=>?_);go_simp;refine E _ ?_;clear E K)
     refine Qf ?_;intro _ ab;obtain⟨xo,q⟩:=ab;subst q;simp only[Zn];have c5:=O (Qu Qb w3 xo);generalize Qw Qb w3 xo=w5 at c5⊢;clear E1 E2 E3;have HO:=O (fun w=>E6 u.n u.i u.v w);unfold Xi at HO;go_wp2_with fail;refine(HO.out _).mono ?_;rintro e w6⟨rfl,d6⟩;have c6:=O (c5.out.trans' d6);clear d6;go_wp2;refine⟨Qd c6.out,?_⟩;have S6:=O (Z.out.later c6.out);have HC:=O (Qdc (q1:=d+1) (q2:=d+1+1) o1 (u.v,u.i) (c6.out.blk Q3.out (fun h=>h)) S6.out.b1 S6.out.b2 ⟨_,_,c6.out.blk T3.out (fun h=>h)⟩ (by omega));unfold ptr V2 at HC;have A6:=c6.out.blk A3.out (fun h=>h);have ak:=O A6;clear A3 T3 Q3 Z c5 A6;go_wp2_with fail;refine HC.out.mono ?_;rintro e w7⟨rfl,k1,k2,k3⟩;have S7:Hid (Qpy W (d+1) (d+1+1) (jn o1 (some (u.v,u.i))) w7):=O ⟨k1,k2,S6.out.c.trans' k3⟩;have A7:=k3.blk ak.out (fun h=>by have:=HU.out.2;omega);rw[J.out]at A7;obtain⟨b0,b1,b2,b3,b4,b5,b6,b7⟩:=Q7 A7;clear k1 k2 k3 A7;go_wp2_with fail;go_roundg ur.size;case rel=>exact⟨ur,_,J.out.symm,rfl,av.out,aw.out,by rw[←HX.out];exact HF.out,S7.out⟩
     case measure=>exact gr
    |node y cy yl yr=>
     have an:pl=some ⟨y.a,0,none⟩:=by have:=aq.out;simpa[Tr.ptrV]using this.symm
     subst an;obtain⟨d0,d1,d2,d3,d4,d5,d6,d7⟩:=Q7 HA.out.2.1.1;have HC:=O (Qdc (q1:=d+1) (q2:=d+1+1) o (y.sv,y.si) (z.out.c.blk B0.out (fun h=>by omega)) z.out.b1 z.out.b2 ⟨_,_,z.out.c.blk H.out.top (fun h=>by have:=ac.out T (by simp);omega)⟩ (by omega));unfold ptr V2 at HC;obtain⟨o1,V⟩:=Zx (jn o (some (y.sv,y.si)));have aa:jn (jn o (Tr.node y cy yl yr).sum) (some (u.v,u.i))=jn o1 (some (u.v,u.i)):=by rw[V];rfl
     rw[aa]at HX;rw[←V]at HC;clear aa V;go_wp2_with fail;refine HC.out.mono ?_;rintro e w3⟨rfl,k1,k2,k3⟩;have Z:Hid (Qpy W (d+1) (d+1+1) o1 w3):=O ⟨k1,k2,z.out.c.trans' k3⟩;clear k1 k2 k3 d0 d1 d2 d3 d4 d5 d6 d7 z HC;have A3:=O (show Qh w3 u.a (ndC u cu (Tr.node y cy yl yr).ptrV ur.ptrV) 258 from Z.out.c.blk HU.out.1 (fun h=>by have:=HU.out.2;omega));have T3:=O (Z.out.c.blk H.out.top (fun h=>by have:=ac.out T (by simp);omega));have Q3:=O (Z.out.c.blk B0.out (fun h=>by omega));have E1:=fun x=>Zv (Qk (S:=Qb) Q3.out (fun h=>h) x);have E2:=fun x=>Xt (Qk (S:=Qb) T3.out (fun h=>h) x);have E3:=fun x=>Q7 (Qk (S:=Qb) A3.out (fun h=>h) x);unfold O0 Vw at E2;rw[J.out]at E3;clear b0 b1 b2 b3 b4 b5 b6 b7 HA;go_wp2_with fail;refine Qr [0] [1,2,3,4,5,6,7,8,9,10,11,12] [13] [14] (Qw (Qb) (w3)) (by kernel_rfl) (by kernel_rfl) ?_ (Qd (by(repeat' (first|(with_reducible first|exact Zg _ _|assumption|refine Zh ?_ _|refine Zi ?_ _|refine Zj ?_ |refine Zk ?_ _ ?_ |(apply Or.inl;rfl))|(apply Or.inl;simp;done)|(apply Or.inr;simp;first|done|omega))))) ?_;·exact fun _ _ _ _ _ h=>h
     simp only[pick,Zf,Ze,Zd];iterate 1 (refine Ql (fun K E=>?_);go_simp;refine E _ ?_;clear E K)
     refine Qf ?_;iterate 12 (refine Ql (fun K E=>?_);go_simp;refine E _ ?_;clear E K)
     refine Qf ?_;intro _ ab;obtain⟨xo,q⟩:=ab;subst q;simp only[Zn];have c5:=O (Qu Qb w3 xo);generalize Qw Qb w3 xo=w5 at c5⊢;clear E1 E2 E3;have HO:=O (fun w=>E6 u.n u.i u.v w);unfold Xi at HO;go_wp2_with fail;refine(HO.out _).mono ?_;rintro e w6⟨rfl,d6⟩;have c6:=O (c5.out.trans' d6);clear d6;go_wp2;refine⟨Qd c6.out,?_⟩;have S6:=O (Z.out.later c6.out);have HC:=O (Qdc (q1:=d+1) (q2:=d+1+1) o1 (u.v,u.i) (c6.out.blk Q3.out (fun h=>h)) S6.out.b1 S6.out.b2 ⟨_,_,c6.out.blk T3.out (fun h=>h)⟩ (by omega));unfold ptr V2 at HC;have A6:=c6.out.blk A3.out (fun h=>h);have ak:=O A6;clear A3 T3 Q3 Z c5 A6;go_wp2_with fail;refine HC.out.mono ?_;rintro e w7⟨rfl,k1,k2,k3⟩;have S7:Hid (Qpy W (d+1) (d+1+1) (jn o1 (some (u.v,u.i))) w7):=O ⟨k1,k2,S6.out.c.trans' k3⟩;have A7:=k3.blk ak.out (fun h=>by have:=HU.out.2;omega);rw[J.out]at A7;obtain⟨b0,b1,b2,b3,b4,b5,b6,b7⟩:=Q7 A7;clear k1 k2 k3 A7;go_wp2_with fail;go_roundg ur.size;case rel=>exact⟨ur,_,J.out.symm,rfl,av.out,aw.out,by rw[←HX.out];exact HF.out,S7.out⟩
     case measure=>exact gr
end
section
attribute [local go_sem] Qq
attribute [local go_sem ↓] Kl Km
attribute [local go_sem] U5 Ub
theorem Qgf(k:Fn)(c d:Array Value)(w:World):(binOp .eql 225 (.func k c d) .nilFunc).run prog w=.ok (.bool false) w:=Gz w _ _ _ _ underlying225 k c d
attribute [local go_sem] Qgf
theorem L8{W:World}{q:Nat}(a:Nat×Int)(v:Nat)(h:Qh W q #[.int .u64 (v:Int)] 29):
  Cl 160 #[V2 a,ptr q] W fun e w'=>e=.returned (.bool (decide (a.1≤v)))∧Qc Qb W w':=by
 have c:=O ((Qc.refl Qb W).alloc (.cells (Xz a) 201));have d:=Zv (c.out.blk h (fun h=>h));obtain⟨k0,k1⟩:=Qz (Qh.new W (Xz a) 201);dsimp only[Xz,V2]at*;unfold ptr;clear h;go_enter func160,ntmps160;go_wp2;go_ret;refine⟨?_,c.out⟩;congr 2
theorem Qm1{v:Nat}{x:Nd}{c:Bool}{r:Tr}:(Tr.node x c .nil r).within v=if x.v≤v then some (x.n,x.i,x.v)else r.within v:=rfl
theorem Qm2{v:Nat}{x y:Nd}{c cy:Bool}{yl yr r:Tr}:(Tr.node x c (.node y cy yl yr) r).within v=if y.sv≤v then(Tr.node y cy yl yr).within v else if x.v≤v then some (x.n,x.i,x.v)else r.within v:=rfl
def Qv9(o:Option J6):Value:=match o with
 |none=>Xi 0 0
 |some e=>Xi e.1 e.2.1
theorem Qp0{w:World}{F:Fp}{T q:Nat}{l:List J6}(h:V0 w F T l)(v:Nat)(hq:Qh w q #[.int .u64 (v:Int)] 29):
  Cl 159 #[ptr T,.func (.func 160) #[] #[ptr q]] w fun e w'=>e=.returned (.tuple #[Qv9 (Xf v l),.bool (Xf v l).isSome])∧Qc Qb w w':=by
 obtain⟨t,h⟩:=h;have am:=Lx v t h.even;rw[h.flat]at am;obtain⟨R,hR⟩:=Zx (Xf v l);rw[←hR];have HR:Hid (t.within v=R):=O (am.trans hR.symm);obtain⟨U,ag⟩:=Zx (w.heap.size);obtain⟨W,hW⟩:=Zx (w.alloc (.cells #[.int .u64 0,.int .i64 0] 204));have C0:Hid (Qc Qb w W):=O (by rw[hW];exact(Qc.refl _ _).alloc _);have B0:Hid (Qh W U #[.int .u64 0,.int .i64 0] 204):=O (by rw[hW,ag];exact Qh.new _ _ _);have BQ:=O (C0.out.blk hq (fun h=>h));have HQ:=O ag;have H:=O (h.keep C0.out (Je.none F));unfold ptr at*;clear h am hR hq;go_enter func159,ntmps159;go_wp2_with fail;rw[←ag,←hW];clear ag hW;have HN:=Hr ⟨_,_,H.out.top⟩;unfold ptr at HN;obtain⟨a0,a1,a2,a3⟩:=Xt H.out.top;obtain⟨pt,aj⟩:=t.ptrV_any;have aw:=O aj;rw[aj]at a2;clear aj;refine HN.mono ?_;rintro e w1⟨rfl,rfl⟩;go_wp2_with fail;clear a0 a1 a2 a3 HN;go_loopg [6] t.size (fun g vv wr=>∃s:Tr,vv=s.ptrV∧s.size=g∧Jk W s∧s.within v=R∧Qc Qb W wr);case atStart=>exact⟨t,aw.out.symm,rfl,H.out.sub.at',HR.out,Qc.refl _ _⟩
 case round=>
  obtain⟨s,rfl,ae,ac,af,V⟩:=hrel;have HF:=O af;have CR:=O V;cases s with
  |nil=>
   have ho:R=none:=af.symm;subst ho;have BR:=CR.out.blk B0.out (fun h=>h);obtain⟨e0,e1⟩:=Qz BR;have f1:=BR.frozen;have aa:=O (show Qc Qb w ((wr.setCell ⟨U,0,none⟩ (.int .u64 0)).setCell ⟨U,1,none⟩ (.int .i64 0))from((C0.out.trans' CR.out).setCell (a:=⟨U,0,none⟩) _ (.inr (by have:=HQ.out;simp;omega))).setCell (a:=⟨U,1,none⟩) _ (.inr (by have:=HQ.out;simp;omega)));dsimp only[Tr.ptrV];clear ae ac af V BR;go_wp2;refine bodyPost_ret (v:=.tuple #[.agg #[.int .u64 0,.int .i64 0],.bool false]) ?_ rfl ⟨rfl,?_⟩;·simp[*,results,Tryz.results159,go_sem]
   ·exact aa.out
  |node u cu ul ur=>
   have HA:=O (Jk.keep V _ ac (fun a ha h=>h));have ai:=O ac;have T3:=O (V.blk H.out.top (fun h=>h));have Q3:=O (V.blk BQ.out (fun h=>h));obtain⟨b0,b1,b2,b3,b4,b5,E,b7⟩:=Q7 HA.out.1;dsimp only[Tr.ptrV];have gl:ul.size<gk:=by rw[←ae];simp[Tr.size];omega
   have gr:ur.size<gk:=by rw[←ae];simp[Tr.size];omega
   obtain⟨pr,ak⟩:=ur.ptrV_any;have I:=O ak;rw[ak]at b7;clear ae ac af V ak;cases ul with
   |nil=>
    have Z:Tr.nil.ptrV=.pointer none:=rfl;rw[Z]at E;clear Z;have HX:=O (Qm1 (v:=v) (x:=u) (c:=cu) (r:=ur));obtain⟨w3,ar⟩:=Zx wr;rw[←ar]at CR HA T3 Q3 b0 b1 b2 b3 b4 b5 E b7⊢;clear ar;go_wp2_with fail;have E2:=fun x=>Xt (Qk (S:=Qb) T3.out (fun h=>h) x);have E3:=fun x=>Q7 (Qk (S:=Qb) HA.out.1 (fun h=>h) x);unfold O0 Vw at E2;rw[I.out]at E3;clear b0 b1 b2 b3 b4 b5 E b7;refine Qr [0] [1,2,3,4,5,6,7,8,9,10,11,12] [13,14,15] [] (Qw (Qb) (w3)) (by kernel_rfl) (by kernel_rfl) ?_ (Qd (by(repeat' (first|(with_reducible first|exact Zg _ _|assumption|refine Zh ?_ _|refine Zi ?_ _|refine Zj ?_ |refine Zk ?_ _ ?_ |(apply Or.inl;rfl))|(apply Or.inl;simp;done)|(apply Or.inr;simp;first|done|omega))))) ?_;·exact fun _ _ _ _ _ h=>h
    simp only[pick,Zf,Ze,Zd];iterate 1 (refine Ql (fun K hK=>?_);go_simp;refine hK _ ?_;clear hK K)
    refine Qf ?_;iterate 12 (refine Ql (fun K hK=>?_);go_simp;refine hK _ ?_;clear hK K)
    refine Qf ?_;intro _ al;obtain⟨xo,ab⟩:=al;subst ab;simp only[Zn];have c5:=O (Qu Qb w3 xo);generalize Qw Qb w3 xo=w5 at c5⊢;clear E2 E3;have HO:=O (fun w=>E6 u.n u.i u.v w);unfold Xi at HO;go_wp2_with fail;refine(HO.out _).mono ?_;rintro e w6⟨rfl,d6⟩;have c6:=O (c5.out.trans' d6);clear d6;go_wp2;refine⟨Qd c6.out,?_⟩;have d:=O (L8 (u.v,u.i) v (c6.out.blk Q3.out (fun h=>h)));unfold ptr V2 at d;by_cases J:u.v≤v
    ·rw[decide_eq_true J]at d;have ao:R=some (u.n,u.i,u.v):=by have:=HF.out;rw[HX.out,if_pos J]at this;exact this.symm
     subst ao;clear J;go_wp2_with fail;refine d.out.mono ?_;rintro e w7⟨rfl,z⟩;have k:=O (c6.out.trans' z);clear z;go_wp2;refine⟨Qd k.out,?_⟩;go_wp2;refine⟨Qd k.out,?_⟩;have B:=k.out.blk HA.out.1 (fun h=>h);have C7:=O (CR.out.trans' k.out);have B7:=C7.out.blk B0.out (fun h=>h);obtain⟨b0,b1,b2,b3,b4,b5,E,b7⟩:=Q7 B;obtain⟨e0,e1⟩:=Qz B7;have f1:=B7.frozen;have aa:=O (show Qc Qb w ((w7.setCell ⟨U,0,none⟩ (.int .u64 (u.n:Int))).setCell ⟨U,1,none⟩ (.int .i64 u.i))from((C0.out.trans' C7.out).setCell (a:=⟨U,0,none⟩) _ (.inr (by have:=HQ.out;simp;omega))).setCell (a:=⟨U,1,none⟩) _ (.inr (by have:=HQ.out;simp;omega)));clear B B7;go_wp2;refine bodyPost_ret (v:=.tuple #[.agg #[.int .u64 (u.n:Int),.int .i64 u.i],.bool true]) ?_ rfl ⟨rfl,?_⟩;·simp[*,results,Tryz.results159,go_sem]
     ·exact aa.out
    ·rw[decide_eq_false J]at d;have ap:Hid (ur.within v=R):=O (by have:=HF.out;rw[HX.out,if_neg J]at this;exact this);clear J;go_wp2_with fail;refine d.out.mono ?_;rintro e w7⟨rfl,z⟩;have k:=O (c6.out.trans' z);clear z;go_wp2;refine⟨Qd k.out,?_⟩;go_wp2;refine⟨Qd k.out,?_⟩;have B:=k.out.blk HA.out.1 (fun h=>h);rw[I.out]at B;obtain⟨b0,b1,b2,b3,b4,b5,E,b7⟩:=Q7 B;have C7:=O (CR.out.trans' k.out);clear B;go_wp2_with fail;go_roundg ur.size;case rel=>exact⟨ur,I.out.symm,rfl,ai.out.2.2,ap.out,C7.out⟩
     case measure=>exact gr
   |node y cy yl yr=>
    have Z:(Tr.node y cy yl yr).ptrV=.pointer (some ⟨y.a,0,none⟩):=rfl;have au:=O Z;rw[Z]at E;clear Z;have an:=O (Qm2 (v:=v) (x:=u) (y:=y) (c:=cu) (cy:=cy) (yl:=yl) (yr:=yr) (r:=ur));obtain⟨d0,d1,d2,d3,d4,d5,d6,z⟩:=Q7 HA.out.2.1.1;have HW:=O (L8 (y.sv,y.si) v Q3.out);unfold ptr V2 at HW;by_cases hy:y.sv≤v
    ·rw[decide_eq_true hy]at HW;have HY:=O hy;clear hy;go_wp2_with fail;refine HW.out.mono ?_;rintro e w3⟨rfl,c3⟩;have A3:=c3.blk HA.out.1 (fun h=>h);rw[au.out]at A3;clear b0 b1 b2 b3 b4 b5 E b7 d0 d1 d2 d3 d4 d5 d6 z;obtain⟨b0,b1,b2,b3,b4,b5,E,b7⟩:=Q7 A3;have C3:=O (CR.out.trans' c3);clear c3 A3;go_wp2_with fail;go_roundg (Tr.node y cy yl yr).size;case rel=>exact⟨_,au.out.symm,rfl,ai.out.2.1,by have:=HF.out;rw[an.out,if_pos HY.out]at this;exact this,C3.out⟩
     case measure=>exact gl
    ·rw[decide_eq_false hy]at HW;have HX:Hid ((Tr.node u cu (.node y cy yl yr) ur).within v=if u.v≤v then some (u.n,u.i,u.v)else ur.within v):=O (by rw[an.out,if_neg hy]);clear hy;go_wp2_with fail;refine HW.out.mono ?_;rintro e w3⟨rfl,c3⟩;have ah:=O (Jk.keep c3 _ HA.out (fun a ha h=>h));have av:=O (c3.blk T3.out (fun h=>h));have ax:=O (c3.blk Q3.out (fun h=>h));have aq:=O (CR.out.trans' c3);clear b0 b1 b2 b3 b4 b5 E b7 d0 d1 d2 d3 d4 d5 d6 z HA T3 Q3 CR c3 an;obtain⟨b0,b1,b2,b3,b4,b5,E,b7⟩:=Q7 ah.out.1;go_wp2_with fail;have E2:=fun x=>Xt (Qk (S:=Qb) av.out (fun h=>h) x);have E3:=fun x=>Q7 (Qk (S:=Qb) ah.out.1 (fun h=>h) x);unfold O0 Vw at E2;rw[I.out]at E3;clear b0 b1 b2 b3 b4 b5 E b7;refine Qr [0] [1,2,3,4,5,6,7,8,9,10,11,12] [13,14,15] [] (Qw (Qb) (w3)) (by kernel_rfl) (by kernel_rfl) ?_ (Qd (by(repeat' (first|(with_reducible first|exact Zg _ _|assumption|refine Zh ?_ _|refine Zi ?_ _|refine Zj ?_ |refine Zk ?_ _ ?_ |(apply Or.inl;rfl))|(apply Or.inl;simp;done)|(apply Or.inr;simp;first|done|omega))))) ?_;·exact fun _ _ _ _ _ h=>h
     simp only[pick,Zf,Ze,Zd];iterate 1 (refine Ql (fun K hK=>?_);go_simp;refine hK _ ?_;clear hK K)
     refine Qf ?_;iterate 12 (refine Ql (fun K hK=>?_);go_simp;refine hK _ ?_;clear hK K)
     refine Qf ?_;intro _ al;obtain⟨xo,ab⟩:=al;subst ab;simp only[Zn];have c5:=O (Qu Qb w3 xo);generalize Qw Qb w3 xo=w5 at c5⊢;clear E2 E3;have HO:=O (fun w=>E6 u.n u.i u.v w);unfold Xi at HO;go_wp2_with fail;refine(HO.out _).mono ?_;rintro e w6⟨rfl,d6⟩;have c6:=O (c5.out.trans' d6);clear d6;go_wp2;refine⟨Qd c6.out,?_⟩;have d:=O (L8 (u.v,u.i) v (c6.out.blk ax.out (fun h=>h)));unfold ptr V2 at d;by_cases J:u.v≤v
     ·rw[decide_eq_true J]at d;have ao:R=some (u.n,u.i,u.v):=by have:=HF.out;rw[HX.out,if_pos J]at this;exact this.symm
      subst ao;clear J;go_wp2_with fail;refine d.out.mono ?_;rintro e w7⟨rfl,z⟩;have k:=O (c6.out.trans' z);clear z;go_wp2;refine⟨Qd k.out,?_⟩;go_wp2;refine⟨Qd k.out,?_⟩;have B:=k.out.blk ah.out.1 (fun h=>h);have C7:=O (aq.out.trans' k.out);have B7:=C7.out.blk B0.out (fun h=>h);obtain⟨b0,b1,b2,b3,b4,b5,E,b7⟩:=Q7 B;obtain⟨e0,e1⟩:=Qz B7;have f1:=B7.frozen;have aa:=O (show Qc Qb w ((w7.setCell ⟨U,0,none⟩ (.int .u64 (u.n:Int))).setCell ⟨U,1,none⟩ (.int .i64 u.i))from((C0.out.trans' C7.out).setCell (a:=⟨U,0,none⟩) _ (.inr (by have:=HQ.out;simp;omega))).setCell (a:=⟨U,1,none⟩) _ (.inr (by have:=HQ.out;simp;omega)));clear B B7;go_wp2;refine bodyPost_ret (v:=.tuple #[.agg #[.int .u64 (u.n:Int),.int .i64 u.i],.bool true]) ?_ rfl ⟨rfl,?_⟩;·simp[*,results,Tryz.results159,go_sem]
      ·exact aa.out
     ·rw[decide_eq_false J]at d;have ap:Hid (ur.within v=R):=O (by have:=HF.out;rw[HX.out,if_neg J]at this;exact this);clear J;go_wp2_with fail;refine d.out.mono ?_;rintro e w7⟨rfl,z⟩;have k:=O (c6.out.trans' z);clear z;go_wp2;refine⟨Qd k.out,?_⟩;go_wp2;refine⟨Qd k.out,?_⟩;have B:=k.out.blk ah.out.1 (fun h=>h);rw[I.out]at B;obtain⟨b0,b1,b2,b3,b4,b5,E,b7⟩:=Q7 B;have C7:=O (aq.out.trans' k.out);clear B;go_wp2_with fail;go_roundg ur.size;case rel=>exact⟨ur,I.out.symm,rfl,ai.out.2.2,ap.out,C7.out⟩
      case measure=>exact gr
end
end Go.Proofs.YtnnhmpehkbihnaaGreat
