/- A part of the proof: no condition. -/
import Derived.Test.YtnnhmpehkbihnaaGreatPp05
import Init
namespace Go.Proofs.YtnnhmpehkbihnaaGreat
set_option linter.unusedVariables false
set_option maxRecDepth 100000
set_option maxHeartbeats 4000000
open Go.RowKit
open Go.Proofs.Tryz
section
attribute [local go_sem] Qq
structure Yx(w:World)(F:Fp)(b:Nat)(r:Jo):Prop where
  bd:Bd F w
  own:F b
  may:r.c.May
  ok:Vv r.l
  rise:Gm r.l
  ex:∃(k:Nat)(G:Fp),(∀x,G x→F x∧x≠b)∧
    ((r.c.r<r.c.f∧Hg w G k r∧Qh w b #[.int .u64 (r.c.f:Int),.int .u64 (r.c.l:Int),.int .u64 (r.c.r:Int),.iface 271 (.agg #[.pointer (some ⟨k,0,none⟩)])] 219)∨
     (¬r.c.r<r.c.f∧Uj w G k r∧Qh w b #[.int .u64 (r.c.f:Int),.int .u64 (r.c.l:Int),.int .u64 (r.c.r:Int),.iface 276 (.agg #[.pointer (some ⟨k,0,none⟩)])] 219))
theorem runP:Ky Yx where
 bd h:=h.bd
 own h:=h.own
 keep h hc hd:=⟨h.bd.later hc,h.own,h.may,h.ok,h.rise,by
  obtain⟨k,G,q,h1⟩:=h.ex;refine⟨k,G,q,?_⟩;have d:=Je.subL hd fun x u=>(q x u).1;rcases h1 with⟨c,h1,z⟩|⟨c,h1,z⟩;·exact .inl ⟨c,bentP.keep h1 hc d,hc.blk z (hd _ h.own)⟩
  ·exact .inr ⟨c,sagP.keep h1 hc d,hc.blk z (hd _ h.own)⟩⟩
 more h hs c:=⟨c,hs _ h.own,h.may,h.ok,h.rise,by
  obtain⟨k,G,q,h1⟩:=h.ex;exact⟨k,G,fun x u=>⟨hs x (q x u).1,(q x u).2⟩,h1⟩⟩
theorem Qbw{w:World}{b:Nat}{v0 v1 v2:Value}{t:TypeId}{v:Value}(c:Qh w b #[v0,v1,v2,.iface t v] 219):
  Cl 190 #[ptr b] w fun e w'=>e=.returned (.iface t v)∧w=w':=by
 obtain⟨d,a1,k,q⟩:=Xt c;unfold ptr;clear c;go_enter func190,ntmps190;go_wp2;go_ret;exact⟨rfl,rfl⟩
theorem Qxv(k:Nat)(w:World):(method 481 271 (.agg #[.pointer (some ⟨k,0,none⟩)]) "Start").run prog w=.ok (304,.pointer (some ⟨k,0,none⟩)) w:=by kernel_rfl
theorem Qxw(k:Nat)(w:World):(method 481 276 (.agg #[.pointer (some ⟨k,0,none⟩)]) "Start").run prog w=.ok (327,.pointer (some ⟨k,0,none⟩)) w:=by kernel_rfl
theorem Qr1(k:Nat)(w:World):(method 481 271 (.agg #[.pointer (some ⟨k,0,none⟩)]) "Reach").run prog w=.ok (303,.pointer (some ⟨k,0,none⟩)) w:=by kernel_rfl
theorem Qr2(k:Nat)(w:World):(method 481 276 (.agg #[.pointer (some ⟨k,0,none⟩)]) "Reach").run prog w=.ok (326,.pointer (some ⟨k,0,none⟩)) w:=by kernel_rfl
attribute [local go_sem] Qxv Qxw Qr1 Qr2
theorem Yx.bent'{w:World}{F G:Fp}{b k:Nat}{r:Jo}(u:Bd F w)(c:F b)(h:Hg w G k r)(d:∀x,G x→F x∧x≠b)(q:Qh w b #[.int .u64 (r.c.f:Int),.int .u64 (r.c.l:Int),.int .u64 (r.c.r:Int),.iface 271 (.agg #[.pointer (some ⟨k,0,none⟩)])] 219):Yx w F b r:=
 ⟨u,c,h.may,h.ok,h.rise,k,G,d,.inl ⟨h.bent,h,q⟩⟩
theorem Yx.sag'{w:World}{F G:Fp}{b k:Nat}{r:Jo}(u:Bd F w)(c:F b)(h:Uj w G k r)(d:∀x,G x→F x∧x≠b)(q:Qh w b #[.int .u64 (r.c.f:Int),.int .u64 (r.c.l:Int),.int .u64 (r.c.r:Int),.iface 276 (.agg #[.pointer (some ⟨k,0,none⟩)])] 219):Yx w F b r:=
 ⟨u,c,h.may,h.ok,h.rise,k,G,d,.inr ⟨h.sag,h,q⟩⟩
theorem Lv{w:World}{F:Fp}{b:Nat}{r:Jo}(h:Yx w F b r)(hn:r.l.length<549755813888)(x y:Nat)(c:x<18446744073709551616)(R:y<18446744073709551616):
  Cl 132 #[ptr b,.int .u64 (x:Int),.int .u64 (y:Int)] w fun e w'=>e=.returned (.tuple #[])∧Yx w' (Qn F w w') b (r.start x y)∧Qc F w w':=by
 obtain⟨k,G,B,h1⟩:=h.ex;have I:=runP.lt h;have z:=h.bd;have d:=h.own;rcases h1 with⟨hb,h1,E⟩|⟨hb,h1,E⟩
 ·have U:=O (Qbw E);have HS:=O (Qpi h1 (by omega) x y c R);have u:∀w',Hg w' (Qn G w w') k (r.start x y)→Qc G w w'→Yx w' (Qn F w w') b (r.start x y)∧Qc F w w':=fun w' hi hc=>by have q:Qc F w w':=hc.sub fun x c=>(B x c).1;exact⟨Yx.bent' (z.ext q) (.inl d) hi (fun x c=>c.elim (fun c=>⟨.inl (B x c).1,(B x c).2⟩) (fun c=>⟨.inr c,by omega⟩)) (hc.blk E fun c=>(B b c).2 rfl),q⟩
  have V:=O u;unfold ptr at*;clear hn c R h h1 E u I z d;go_enter func132,ntmps132;go_wp2_with fail;refine U.out.mono ?_;rintro e w1⟨rfl,rfl⟩;go_wp2_with fail;refine HS.out.mono ?_;rintro e w2⟨rfl,K,J⟩;have Z:=O (V.out _ K J);clear K J;go_wp2;exact bodyPost_end (results_none rfl _ _ _) rfl ⟨rfl,Z.out⟩
 ·have U:=O (Qbw E);have HS:=O (Qml h1 hn x y c R);have u:∀w',Uj w' (Qn G w w') k (r.start x y)→Qc G w w'→Yx w' (Qn F w w') b (r.start x y)∧Qc F w w':=fun w' hi hc=>by have q:Qc F w w':=hc.sub fun x c=>(B x c).1;exact⟨Yx.sag' (z.ext q) (.inl d) hi (fun x c=>c.elim (fun c=>⟨.inl (B x c).1,(B x c).2⟩) (fun c=>⟨.inr c,by omega⟩)) (hc.blk E fun c=>(B b c).2 rfl),q⟩
  have V:=O u;unfold ptr at*;clear hn c R h h1 E u I z d;go_enter func132,ntmps132;go_wp2_with fail;refine U.out.mono ?_;rintro e w1⟨rfl,rfl⟩;go_wp2_with fail;refine HS.out.mono ?_;rintro e w2⟨rfl,K,J⟩;have Z:=O (V.out _ K J);clear K J;go_wp2;exact bodyPost_end (results_none rfl _ _ _) rfl ⟨rfl,Z.out⟩
end
section
attribute [local go_sem] Qq Qr1 Qr2
theorem Qvo(k:Nat)(w:World):(method 481 271 (.agg #[.pointer (some ⟨k,0,none⟩)]) "distributary/run.eligible").run prog w=.ok (320,.agg #[.pointer (some ⟨k,0,none⟩)]) w:=by kernel_rfl
theorem Qvp(k:Nat)(w:World):(method 481 276 (.agg #[.pointer (some ⟨k,0,none⟩)]) "distributary/run.eligible").run prog w=.ok (340,.agg #[.pointer (some ⟨k,0,none⟩)]) w:=by kernel_rfl
theorem Qyz(k:Nat)(w:World):(method 481 271 (.agg #[.pointer (some ⟨k,0,none⟩)]) "distributary/run.own").run prog w=.ok (321,.agg #[.pointer (some ⟨k,0,none⟩)]) w:=by kernel_rfl
theorem Qy0(k:Nat)(w:World):(method 481 276 (.agg #[.pointer (some ⟨k,0,none⟩)]) "distributary/run.own").run prog w=.ok (341,.agg #[.pointer (some ⟨k,0,none⟩)]) w:=by kernel_rfl
attribute [local go_sem] Qvo Qvp Qyz Qy0
theorem Qfw{w:World}{F:Fp}{b:Nat}{r:Jo}(h:Hg w F b r)(y:Nat)(c:y<18446744073709551616):Cl 303 #[ptr b,.int .u64 (y:Int)] w fun e w'=>e=.returned (.int .u64 (r.reach y:Nat))∧Qc Qb w w':=by
 by_cases hl:r.l=[];·exact Ql9 h hl y
 ·exact Qma h hl y c
theorem Qmm{w:World}{F:Fp}{k:Nat}{r:Jo}(h:Hg w F k r)(y:Nat)(c:y<18446744073709551616):Cl 320 #[.agg #[.pointer (some ⟨k,0,none⟩)],.int .u64 (y:Int)] w fun e w'=>e=.returned (.int .u64 (r.elig y:Nat))∧Qc Qb w w':=by
 have d:=O (Qfw (bentP.keep h ((Qc.refl Qb w).alloc (.cells #[.pointer (some ⟨k,0,none⟩)] 271)) (Je.none F)) y c);have e:r.elig y=r.reach y:=by unfold Jo.elig Jo.reach;rw[if_pos h.bent]
 rw[e];unfold ptr at d;clear h c e;go_enter func320,ntmps320;go_wp2_with fail;refine d.out.mono ?_;rintro e w1⟨rfl,q⟩;have u:=O (((Qc.refl Qb w).alloc _).trans' q);clear q;go_wp2;go_ret;exact⟨rfl,u.out⟩
theorem Qmn{w:World}{F:Fp}{k:Nat}{r:Jo}(h:Uj w F k r)(hn:r.l.length<1099511627776)(y:Nat):Cl 340 #[.agg #[.pointer (some ⟨k,0,none⟩)],.int .u64 (y:Int)] w fun e w'=>e=.returned (.int .u64 (r.elig y:Nat))∧Qc Qb w w':=by have c:=O (Qmj (sagP.keep h ((Qc.refl Qb w).alloc (.cells #[.pointer (some ⟨k,0,none⟩)] 276)) (Je.none F)) hn y);unfold ptr at c;clear h hn;go_enter func340,ntmps340;go_wp2_with fail;refine c.out.mono ?_;rintro e w1⟨rfl,d⟩;have q:=O (((Qc.refl Qb w).alloc _).trans' d);clear d;go_wp2;go_ret;exact⟨rfl,q.out⟩
theorem Lw{w:World}{F:Fp}{b:Nat}{r:Jo}(h:Yx w F b r)(hn:r.l.length<1099511627776)(y:Nat)(q:y<18446744073709551616):
  Cl 194 #[ptr b,.int .u64 (y:Int)] w fun e w'=>e=.returned (.int .u64 (r.reach y:Nat))∧Qc Qb w w':=by
 obtain⟨k,G,E,h1⟩:=h.ex;rcases h1 with⟨B,h1,c⟩|⟨B,h1,c⟩;all_goals have z:=O (Qbw c)
 case inl=> have u:=O (Qfw h1 y q);unfold ptr at*;clear hn q h h1 c;go_enter func194,ntmps194;go_wp2_with fail;refine z.out.mono ?_;rintro e w1⟨rfl,rfl⟩;go_wp2_with fail;refine u.out.mono ?_;rintro e w2⟨rfl,d⟩;go_wp2;go_ret;exact⟨rfl,d⟩
 case inr=> have u:=O (Qmi h1 hn y);unfold ptr at*;clear hn q h h1 c;go_enter func194,ntmps194;go_wp2_with fail;refine z.out.mono ?_;rintro e w1⟨rfl,rfl⟩;go_wp2_with fail;refine u.out.mono ?_;rintro e w2⟨rfl,d⟩;go_wp2;go_ret;exact⟨rfl,d⟩
theorem Qpm{w:World}{F:Fp}{b:Nat}{r:Jo}(h:Yx w F b r)(hn:r.l.length<1099511627776)(y:Nat)(q:y<18446744073709551616):
  Cl 192 #[ptr b,.int .u64 (y:Int)] w fun e w'=>e=.returned (.int .u64 (r.elig y:Nat))∧Qc Qb w w':=by
 obtain⟨k,G,E,h1⟩:=h.ex;rcases h1 with⟨B,h1,c⟩|⟨B,h1,c⟩;all_goals have z:=O (Qbw c)
 case inl=> have u:=O (Qmm h1 y q);unfold ptr at*;clear hn q h h1 c;go_enter func192,ntmps192;go_wp2_with fail;refine z.out.mono ?_;rintro e w1⟨rfl,rfl⟩;go_wp2_with fail;refine u.out.mono ?_;rintro e w2⟨rfl,d⟩;go_wp2;go_ret;exact⟨rfl,d⟩
 case inr=> have u:=O (Qmn h1 hn y);unfold ptr at*;clear hn q h h1 c;go_enter func192,ntmps192;go_wp2_with fail;refine z.out.mono ?_;rintro e w1⟨rfl,rfl⟩;go_wp2_with fail;refine u.out.mono ?_;rintro e w2⟨rfl,d⟩;go_wp2;go_ret;exact⟨rfl,d⟩
end
section
attribute [local go_sem] Qq Qvo Qvp Qyz Qy0
theorem Qvq(c:Z6)(hc:c.May)(q:¬c.r<c.f)(w:World):Cl 220 #[cV c] w fun e w'=>e=.returned (.tuple #[.pointer none,.int .i64 30])∧Qc Qb w w':=by have z:=O (Y0 c);have u:=O (Dz c);rw[decide_eq_true hc]at z;rw[decide_eq_false q]at u;obtain⟨f,l,r⟩:=c;unfold cV at*;have B:=O (Qh.new w #[.int .u64 (f:Int),.int .u64 (l:Int),.int .u64 (r:Int)] 38);have C:=O ((Qc.refl Qb w).alloc (.cells #[.int .u64 (f:Int),.int .u64 (l:Int),.int .u64 (r:Int)] 38));clear hc q;go_enter func220,ntmps220;go_wp2_with fail;refine(z.out _).mono ?_;rintro e w1⟨rfl,d⟩;have R:=O (C.out.trans' d);have K:=O (d.blk B.out (fun h=>h));clear d;obtain⟨E,a1,I⟩:=Dy K.out;go_wp2_with fail;refine(u.out _).mono ?_;rintro e w2⟨rfl,k⟩;have J:=O (R.out.trans' k);clear k E a1 I;go_wp2;go_ret2;exact⟨rfl,J.out⟩
theorem Qc3(c:Z6)(hc:c.May)(w:World):Cl 188 #[cV c] w fun e w'=>∃b,e=.returned (ptr b)∧Yx w' (Qn Qb w w') b ⟨c,[]⟩∧Qc Qb w w':=by
 have Z:=O (Y0 c);rw[decide_eq_true hc]at Z;by_cases J:c.r<c.f
 ·have HN:=O (Qsy c hc J);have d:∀(w0 w1 w2:World)(k:Nat),Qc Qb w w0→Hg w1 (Qn Qb w0 w1) k ⟨c,[]⟩→Qc Qb w0 w1→w2=w1.alloc (.cells #[.int .u64 (c.f:Int),.int .u64 (c.l:Int),.int .u64 (c.r:Int),.iface 271 (.agg #[.pointer (some ⟨k,0,none⟩)])] 219)→Yx w2 (Qn Qb w w2) w1.heap.size ⟨c,[]⟩∧Qc Qb w w2:=by
   rintro w0 w1 w2 k h0 h1 K rfl;have e0:=h0.size;have e1:=K.size;refine⟨Yx.bent' (G:=Qn Qb w0 w1) (fun x hx=>hx.elim (fun h=>h.elim) (fun h=>h.2)) (.inr ⟨by omega,by simp⟩) (bentP.keep h1 ((Qc.refl Qb w1).alloc _) (Je.none _)) ?_ (Qh.new _ _ _),((h0.trans' K).alloc _)⟩;rintro x(h|⟨h3,h4⟩);·exact h.elim
   ·exact⟨.inr ⟨by omega,by simp;omega⟩,by omega⟩
  have HF:=O d;obtain⟨f,l,r⟩:=c;unfold cV at*;dsimp only at*;have B:=O (Qh.new w #[.int .u64 (f:Int),.int .u64 (l:Int),.int .u64 (r:Int)] 38);have C:=O ((Qc.refl Qb w).alloc (.cells #[.int .u64 (f:Int),.int .u64 (l:Int),.int .u64 (r:Int)] 38));clear hc J d;unfold ptr at*;go_enter func188,ntmps188;go_wp2_with fail;refine(Z.out _).mono ?_;rintro e w1⟨rfl,E⟩;have U:=O (C.out.trans' E);have I:=O (E.blk B.out (fun h=>h));clear E;obtain⟨q,a1,u⟩:=Dy I.out;go_wp2_with fail;refine(HN.out _).mono ?_;rintro e w2⟨k,rfl,i2,z⟩;have R:=O (z.blk I.out (fun h=>h));have H2:=O (HF.out _ _ _ _ U.out i2 z rfl);clear i2 z q a1 u;obtain⟨q,a1,u⟩:=Dy R.out;go_wp2;go_ret;exact⟨_,rfl,H2.out⟩
 ·have HN:=O (Qvq c hc J);have HS:=O (Qs0 c hc J);have d:∀(w0 w1 w2:World)(k:Nat),Qc Qb w w0→Uj w1 (Qn Qb w0 w1) k ⟨c,[]⟩→Qc Qb w0 w1→w2=w1.alloc (.cells #[.int .u64 (c.f:Int),.int .u64 (c.l:Int),.int .u64 (c.r:Int),.iface 276 (.agg #[.pointer (some ⟨k,0,none⟩)])] 219)→Yx w2 (Qn Qb w w2) w1.heap.size ⟨c,[]⟩∧Qc Qb w w2:=by
   rintro w0 w1 w2 k h0 h1 K rfl;have e0:=h0.size;have e1:=K.size;refine⟨Yx.sag' (G:=Qn Qb w0 w1) (fun x hx=>hx.elim (fun h=>h.elim) (fun h=>h.2)) (.inr ⟨by omega,by simp⟩) (sagP.keep h1 ((Qc.refl Qb w1).alloc _) (Je.none _)) ?_ (Qh.new _ _ _),((h0.trans' K).alloc _)⟩;rintro x(h|⟨h3,h4⟩);·exact h.elim
   ·exact⟨.inr ⟨by omega,by simp;omega⟩,by omega⟩
  have HF:=O d;obtain⟨f,l,r⟩:=c;unfold cV at*;dsimp only at*;have B:=O (Qh.new w #[.int .u64 (f:Int),.int .u64 (l:Int),.int .u64 (r:Int)] 38);have C:=O ((Qc.refl Qb w).alloc (.cells #[.int .u64 (f:Int),.int .u64 (l:Int),.int .u64 (r:Int)] 38));clear hc J d;unfold ptr at*;go_enter func188,ntmps188;go_wp2_with fail;refine(Z.out _).mono ?_;rintro e w1⟨rfl,E⟩;have U:=O (C.out.trans' E);have I:=O (E.blk B.out (fun h=>h));clear E;obtain⟨q,a1,u⟩:=Dy I.out;go_wp2_with fail;refine(HN.out _).mono ?_;rintro e w2⟨rfl,z⟩;have C2:=O (U.out.trans' z);have R:=O (z.blk I.out (fun h=>h));clear z q a1 u;obtain⟨q,a1,u⟩:=Dy R.out;go_wp2_with fail;refine(HS.out _).mono ?_;rintro e w3⟨k,rfl,i3,V⟩;have B3:=O (V.blk R.out (fun h=>h));have H3:=O (HF.out _ _ _ _ C2.out i3 V rfl);clear i3 V q a1 u;obtain⟨q,a1,u⟩:=Dy B3.out;go_wp2;go_ret;exact⟨_,rfl,H3.out⟩
end
structure Nd where
 a:Nat
 n:Nat
 i:Int
 v:Nat
 sv:Nat
 si:Int
inductive Tr where
 |nil
 |node(x:Nd)(c:Bool)(l r:Tr)
namespace Tr
def red:Tr→Bool
 |nil=>false
 |node _ c _ _=>c
def left:Tr→Tr
 |nil=>nil
 |node _ _ l _=>l
def right:Tr→Tr
 |nil=>nil
 |node _ _ _ r=>r
def size:Tr→Nat
 |nil=>0
 |node _ _ l r=>l.size+r.size+1
def flat:Tr→List (Nat×Int×Nat)
 |nil=>[]
 |node x _ l r=>l.flat++(x.n,x.i,x.v)::r.flat
def addrs:Tr→List Nat
 |nil=>[]
 |node x _ l r=>l.addrs++x.a::r.addrs
end Tr
def Jp(a b:Nat×Int):Nat×Int:=if a=b∨a.1<b.1∨a.1=b.1∧a.2<b.2 then a else b
def Tr.sumJ(t:Tr)(s:Nat×Int):Nat×Int:=match t with
 | .nil=>s
 | .node y _ _ _=>Jp (y.sv,y.si) s
def Tr.jSum(s:Nat×Int)(t:Tr):Nat×Int:=match t with
 | .nil=>s
 | .node y _ _ _=>Jp s (y.sv,y.si)
def E5(x:Nd)(l r:Tr):Nat×Int:=Tr.jSum (l.sumJ (x.v,x.i)) r
def Nd.re(x:Nd)(l r:Tr):Nd:={x with sv:=(E5 x l r).1,si:=(E5 x l r).2}
def mk(x:Nd)(c:Bool)(l r:Tr):Tr:=.node (x.re l r) c l r
def Qbx:Tr→Tr
 | .node h c l (.node x _ xl xr)=>mk x c (mk h true l xl) xr
 |t=>t
def Qa1:Tr→Tr
 | .node h c (.node x _ xl xr) r=>mk x c xl (mk h true xr r)
 |t=>t
def Qc4:Tr→Tr
 | .node h c (.node y cy yl yr) (.node z cz zl zr)=>.node h (!c) (.node y (!cy) yl yr) (.node z (!cz) zl zr)
 |t=>t
def fin:Tr→Tr
 | .node h c l r=>mk h c l r
 |t=>t
def s1(t:Tr):Tr:=if t.right.red&&!t.left.red then Qbx t else t
def s2(t:Tr):Tr:=if t.left.red&&t.left.left.red then Qa1 t else t
def s3(t:Tr):Tr:=if t.left.red&&t.right.red then Qc4 t else t
def On(t:Tr):Tr:=fin (s3 (s2 (s1 t)))
theorem Kb(x:Nd)(c:Bool)(l r:Tr):(mk x c l r).flat=l.flat++(x.n,x.i,x.v)::r.flat:=rfl
theorem Qs3(t:Tr):(Qbx t).flat=t.flat:=by
 unfold Qbx;split;·simp[Kb,Tr.flat]
 ·rfl
theorem Qs4(t:Tr):(Qa1 t).flat=t.flat:=by
 unfold Qa1;split;·simp[Kb,Tr.flat]
 ·rfl
theorem Qs5(t:Tr):(Qc4 t).flat=t.flat:=by
 unfold Qc4;split;·simp[Tr.flat]
 ·rfl
theorem Qvr(t:Tr):(fin t).flat=t.flat:=by unfold fin;split<;>rfl
theorem Yn(t:Tr):(On t).flat=t.flat:=by
 have h1:(s1 t).flat=t.flat:=by unfold s1;split;exact Qs3 t;rfl
 have d:(s2 (s1 t)).flat=(s1 t).flat:=by unfold s2;split;exact Qs4 _;rfl
 have c:(s3 (s2 (s1 t))).flat=(s2 (s1 t)).flat:=by unfold s3;split;exact Qs5 _;rfl
 rw[On,Qvr,c,d,h1]
theorem D7(x:Nd)(c:Bool)(l r:Tr):(mk x c l r).addrs=l.addrs++x.a::r.addrs:=rfl
theorem Qa2(t:Tr):(Qbx t).addrs=t.addrs:=by
 unfold Qbx;split;·simp[D7,Tr.addrs]
 ·rfl
theorem Gx(t:Tr):(Qa1 t).addrs=t.addrs:=by
 unfold Qa1;split;·simp[D7,Tr.addrs]
 ·rfl
theorem Qfx(t:Tr):(Qc4 t).addrs=t.addrs:=by
 unfold Qc4;split;·simp[Tr.addrs]
 ·rfl
theorem Qs6(t:Tr):(fin t).addrs=t.addrs:=by unfold fin;split<;>rfl
theorem Yi(t:Tr):(On t).addrs=t.addrs:=by
 have h1:(s1 t).addrs=t.addrs:=by unfold s1;split;exact Qa2 t;rfl
 have d:(s2 (s1 t)).addrs=(s1 t).addrs:=by unfold s2;split;exact Gx _;rfl
 have c:(s3 (s2 (s1 t))).addrs=(s2 (s1 t)).addrs:=by unfold s3;split;exact Qfx _;rfl
 rw[On,Qs6,c,d,h1]
def Tr.bh:Tr→Nat
 | .nil=>0
 | .node _ c l _=>l.bh+if c then 0 else 1
def Tr.even:Tr→Prop
 | .nil=>True
 | .node x c l r=>l.even∧r.even∧l.bh=r.bh∧(x.sv,x.si)=E5 x l r
def Tr.ok:Tr→Prop
 | .nil=>True
 | .node _ c l r=>l.ok∧r.ok∧r.red=false∧(c=true→l.red=false)
def Xo(t:Tr)(n:Nat):Prop:=t.ok∧t.even∧t.bh=n
theorem Vs{x:Nd}{c:Bool}{l r:Tr}(hl:l.even)(hr:r.even)(h:l.bh=r.bh):(mk x c l r).even:=⟨hl,hr,h,rfl⟩
theorem Qfy(x:Nd)(c:Bool)(l r:Tr):(mk x c l r).bh=l.bh+if c then 0 else 1:=rfl
theorem Qxx(x:Nd)(c:Bool)(l r:Tr):(mk x c l r).left=l:=rfl
theorem Qvs(x:Nd)(c:Bool)(l r:Tr):(mk x c l r).right=r:=rfl
theorem Kc(x:Nd)(c:Bool)(l r:Tr):(Tr.node x c l r).left=l:=rfl
theorem Us(x:Nd)(c:Bool)(l r:Tr):(Tr.node x c l r).right=r:=rfl
theorem Qa3(x:Nd)(c:Bool)(l r:Tr):(Tr.node x c l r).red=c:=rfl
theorem Xa{t:Tr}(h:t.red=true):∃x l r,t=.node x true l r:=by
 cases t with
 |nil=>cases h
 |node x c l r=>obtain rfl:c=true:=h;exact⟨x,l,r,rfl⟩
theorem Qby{h:Nd}{c:Bool}{l r:Tr}(hr:r.red=false)(hl:l.red=true→l.left.red=false):On (.node h c l r)=mk h c l r:=by
 have e1:s1 (.node h c l r)=.node h c l r:=by simp[s1,Us,hr]
 have k:s2 (.node h c l r)=.node h c l r:=by
  cases hc:l.red with
  |false=>simp[s2,Kc,hc]
  |true=>simp[s2,Kc,hc,hl hc]
 have d:s3 (.node h c l r)=.node h c l r:=by simp[s3,Kc,Us,hr]
 rw[On,e1,k,d];rfl
theorem Qfz{h x:Nd}{c:Bool}{l k d:Tr}(hl:l.red=false)(z:d.red=false):On (.node h c l (.node x true k d))=mk x c (mk h true l k) d:=by
 have e1:s1 (.node h c l (.node x true k d))=mk x c (mk h true l k) d:=by simp[s1,Us,Kc,Qa3,hl,Qbx]
 have u:s2 (mk x c (mk h true l k) d)=mk x c (mk h true l k) d:=by simp[s2,Qxx,hl]
 have q:s3 (mk x c (mk h true l k) d)=mk x c (mk h true l k) d:=by simp[s3,Qvs,z]
 rw[On,e1,u,q];rfl
theorem Qmo{h y z:Nd}{c:Bool}{yl yr d k:Tr}(h1:yl.red=false):
  On (.node h c (.node y true yl yr) (.node z true d k))=mk h (!c) (.node y false yl yr) (.node z false d k):=by
 have e1:s1 (.node h c (.node y true yl yr) (.node z true d k))=.node h c (.node y true yl yr) (.node z true d k):=by simp[s1,Kc,Qa3]
 have u:s2 (.node h c (.node y true yl yr) (.node z true d k))=.node h c (.node y true yl yr) (.node z true d k):=by simp[s2,Kc,h1]
 have q:s3 (.node h c (.node y true yl yr) (.node z true d k))=.node h (!c) (.node y false yl yr) (.node z false d k):=by simp[s3,Kc,Us,Qa3,Qc4]
 rw[On,e1,u,q];rfl
theorem Qs7{h x y:Nd}{c:Bool}{yl yr d r:Tr}(hr:r.red=false):
  On (.node h c (.node x true (.node y true yl yr) d) r)=mk (x.re (.node y true yl yr) (mk h true d r)) (!c) (.node y false yl yr) (.node (h.re d r) false d r):=by
 have e1:s1 (.node h c (.node x true (.node y true yl yr) d) r)=.node h c (.node x true (.node y true yl yr) d) r:=by simp[s1,Us,hr]
 have q:s2 (.node h c (.node x true (.node y true yl yr) d) r)=mk x c (.node y true yl yr) (mk h true d r):=by simp[s2,Kc,Qa3,Qa1]
 have k:s3 (mk x c (.node y true yl yr) (mk h true d r))=.node (x.re (.node y true yl yr) (mk h true d r)) (!c) (.node y false yl yr) (.node (h.re d r) false d r):=by simp[s3,mk,Kc,Us,Qa3,Qc4]
 rw[On,e1,q,k];rfl
def lt(n:Nat)(i:Int)(x:Nd):Bool:=decide (n<x.n∨n=x.n∧i<x.i)
def Tr.put(n:Nat)(i:Int)(v a:Nat):Tr→Tr
 | .nil=>.node ⟨a,n,i,v,v,i⟩ true .nil .nil
 | .node h c l r=>if lt n i h then On (.node h c (l.put n i v a) r)else On (.node h c l (r.put n i v a))
def Qz7(t:Tr)(n:Nat):Prop:=t.even∧t.bh=n∧t.left.ok∧t.right.ok∧t.right.red=false∧t.red=true
theorem Qf0(n:Nat)(i:Int)(v a:Nat):∀(t:Tr)(m:Nat),Xo t m→(t.red=false→Xo (t.put n i v a) m)∧(t.red=true→Qz7 (t.put n i v a) m)
 | .nil,m,h=>⟨fun _=>⟨⟨trivial,trivial,rfl,fun _=>rfl⟩,⟨trivial,trivial,rfl,rfl⟩,h.2.2⟩,nofun⟩
 | .node x c l r,m,⟨hok,hev,hbh⟩=>by
  obtain⟨I,J,hr,Z⟩:=hok;obtain⟨el,er,V,hs⟩:=hev;have Il:=Qf0 n i v a l l.bh ⟨I,el,rfl⟩;have Ir:=Qf0 n i v a r r.bh ⟨J,er,rfl⟩;simp only[Tr.bh]at hbh;simp only[Tr.put,Tr.red];by_cases hk:lt n i x=true
  ·simp only[hk,if_true];generalize l.put n i v a=l' at Il;cases k:l.red with
   |false=>
    obtain⟨u,q,d⟩:=Il.1 k;have R:l'.red=true→l'.left.red=false:=by intro h;obtain⟨y,yl,yr,rfl⟩:=Xa h;exact u.2.2.2 rfl
    rw[Qby hr R];cases c with
    |false=>exact⟨fun _=>⟨⟨u,J,hr,nofun⟩,Vs q er (d.trans V),by rw[Qfy,d];exact hbh⟩,nofun⟩
    |true=>exact⟨nofun,fun _=>⟨Vs q er (d.trans V),by rw[Qfy,d];exact hbh,u,J,hr,rfl⟩⟩
   |true=>
    obtain⟨q,d,h1,h2,h3,h4⟩:=Il.2 k;have hc:c=false:=by
     cases c with
     |false=>rfl
     |true=>rw[Z rfl]at k;cases k
    subst hc;refine⟨fun _=>?_,nofun⟩;obtain⟨y,yl,yr,rfl⟩:=Xa h4;cases U:yl.red with
    |false=> rw[Qby hr (fun _=>by exact U)];exact⟨⟨⟨h1,h2,h3,fun _=>U⟩,J,hr,nofun⟩,Vs q er (d.trans V),by rw[Qfy,d];exact hbh⟩
    |true=>
     obtain⟨z,zl,zr,rfl⟩:=Xa U;rw[Qs7 hr];obtain⟨ez,ey,eb,es⟩:=q;simp only[Tr.left,Tr.right]at h1 h2 h3;obtain⟨z1,z2,z3,z4⟩:=h1;simp only[Tr.bh,if_true,Nat.add_zero]at d eb;refine⟨⟨⟨z1,z2,z3,nofun⟩,⟨h2,J,hr,nofun⟩,rfl,fun _=>rfl⟩,⟨ez,⟨ey,er,by omega,rfl⟩,?_,rfl⟩,?_⟩;·simp[Tr.bh];omega
     ·simp[mk,Tr.bh];simp at hbh;omega
  ·simp only[hk,if_false,Bool.false_eq_true];generalize r.put n i v a=r' at Ir;obtain⟨u,q,d⟩:=Ir.1 hr;cases K:r'.red with
   |false=>
    have R:l.red=true→l.left.red=false:=by intro h;obtain⟨y,yl,yr,rfl⟩:=Xa h;exact I.2.2.2 rfl
    rw[Qby K R];cases c with
    |false=>exact⟨fun _=>⟨⟨I,u,K,nofun⟩,Vs el q (V.trans d.symm),by rw[Qfy];exact hbh⟩,nofun⟩
    |true=>exact⟨nofun,fun _=>⟨Vs el q (V.trans d.symm),by rw[Qfy];exact hbh,I,u,K,rfl⟩⟩
   |true=>
    obtain⟨y,yl,yr,rfl⟩:=Xa K;obtain⟨y1,y2,y3,y4⟩:=u;obtain⟨e1,e2,e3,e4⟩:=q;simp only[Tr.bh,if_true,Nat.add_zero]at d;have y4:=y4 rfl;cases k:l.red with
    |false=>
     rw[Qfz k y3];have E:(mk y c (mk x true l yl) yr).even:=Vs (Vs el e1 (by omega)) e2 (by simp[mk,Tr.bh];omega);have B:(mk y c (mk x true l yl) yr).bh=m:=by simp only[mk,Tr.bh];simpa using hbh
     cases c with
     |false=>exact⟨fun _=>⟨⟨⟨I,y1,y4,fun _=>k⟩,y2,y3,nofun⟩,E,B⟩,nofun⟩
     |true=>exact⟨nofun,fun _=>⟨E,B,⟨I,y1,y4,fun _=>k⟩,y2,y3,rfl⟩⟩
    |true=>
     have hc:c=false:=by
      cases c with
      |false=>rfl
      |true=>rw[Z rfl]at k;cases k
     subst hc;obtain⟨z,zl,zr,rfl⟩:=Xa k;obtain⟨z1,z2,z3,z4⟩:=I;rw[Qmo (z4 rfl)];refine⟨fun _=>⟨⟨⟨z1,z2,z3,nofun⟩,⟨y1,y2,y3,nofun⟩,rfl,fun _=>rfl⟩,Vs el ⟨e1,e2,e3,e4⟩ ?_,?_⟩,nofun⟩;·simp[Tr.bh]at V⊢;omega
     ·simp[mk,Tr.bh]at hbh⊢;omega
def Tr.first:Tr→Nat×Int×Nat
 | .nil=>(0,0,0)
 | .node x _ .nil _=>(x.n,x.i,x.v)
 | .node _ _ l _=>l.first
def Nd.as(x:Nd)(e:Nat×Int×Nat):Nd:={x with n:=e.1,i:=e.2.1,v:=e.2.2}
inductive DropFirst:Tr→Tr→Prop
 |last (x:Nd) (c:Bool) (r:Tr):DropFirst (.node x c .nil r) .nil
 |stay (x:Nd) (c:Bool) (l r l':Tr):(l.red||l.left.red)=true→DropFirst l l'→DropFirst (.node x c l r) (On (.node x c l' r))
 |turnA (x y z:Nd) (yl yr zl zr l':Tr):yl.red=false→zl.red=false→DropFirst (.node y true yl yr) l'→
   DropFirst (.node x true (.node y false yl yr) (.node z false zl zr)) (On (.node x false l' (.node z true zl zr)))
 |turnB (x y z u:Nd) (yl yr ul ur zr l':Tr):yl.red=false→DropFirst (mk x false (.node y true yl yr) ul) l'→
   DropFirst (.node x true (.node y false yl yr) (.node z false (.node u true ul ur) zr)) (On (.node (u.re (mk x true (.node y true yl yr) ul) (mk z true ur zr)) true l' (mk z false ur zr)))
inductive Drop(n:Nat)(i:Int):Tr→Tr→Prop
 |stay (x:Nd) (c:Bool) (l r l':Tr):lt n i x=true→(l.red||l.left.red)=true→Drop n i l l'→Drop n i (.node x c l r) (On (.node x c l' r))
 |turnA (x y z:Nd) (yl yr zl zr l':Tr):lt n i x=true→yl.red=false→zl.red=false→Drop n i (.node y true yl yr) l'→
   Drop n i (.node x true (.node y false yl yr) (.node z false zl zr)) (On (.node x false l' (.node z true zl zr)))
 |turnB (x y z u:Nd) (yl yr ul ur zr l':Tr):lt n i x=true→yl.red=false→Drop n i (mk x false (.node y true yl yr) ul) l'→
   Drop n i (.node x true (.node y false yl yr) (.node z false (.node u true ul ur) zr)) (On (.node (u.re (mk x true (.node y true yl yr) ul) (mk z true ur zr)) true l' (mk z false ur zr)))
 |right (x y:Nd) (c:Bool) (yl yr r r':Tr):lt n i x=false→¬(y.n=n∧y.i=i)→Drop n i (mk x true yr r) r'→
   Drop n i (.node x c (.node y true yl yr) r) (On (.node (y.re yl (mk x true yr r)) c yl r'))
 |here (x:Nd) (c:Bool) (l:Tr):lt n i x=false→l.red=false→(x.n=n∧x.i=i)→Drop n i (.node x c l .nil) .nil
 |passA (x y z:Nd) (yl yr zl zr r':Tr):lt n i x=false→¬(x.n=n∧x.i=i)→yl.red=false→zl.red=false→Drop n i (.node z true zl zr) r'→
   Drop n i (.node x true (.node y false yl yr) (.node z false zl zr)) (On (.node x false (.node y true yl yr) r'))
 |takeA (x y z:Nd) (yl yr zl zr r':Tr):lt n i x=false→(x.n=n∧x.i=i)→yl.red=false→zl.red=false→DropFirst (.node z true zl zr) r'→
   Drop n i (.node x true (.node y false yl yr) (.node z false zl zr)) (On (.node (x.as (Tr.first (.node z true zl zr))) false (.node y true yl yr) r'))
 |passB (x y z u:Nd) (ul ur yr zl zr r':Tr):lt n i x=false→¬(y.n=n∧y.i=i)→zl.red=false→Drop n i (mk x false yr (.node z true zl zr)) r'→
   Drop n i (.node x true (.node y false (.node u true ul ur) yr) (.node z false zl zr)) (On (.node (y.re (.node u true ul ur) (mk x true yr (.node z true zl zr))) true (.node u false ul ur) r'))
 |passC (x:Nd) (c:Bool) (l r r':Tr):lt n i x=false→l.red=false→¬(x.n=n∧x.i=i)→(r.red||r.left.red)=true→Drop n i r r'→Drop n i (.node x c l r) (On (.node x c l r'))
 |takeC (x:Nd) (c:Bool) (l r r':Tr):lt n i x=false→l.red=false→(x.n=n∧x.i=i)→(r.red||r.left.red)=true→DropFirst r r'→Drop n i (.node x c l r) (On (.node (x.as r.first) c l r'))
theorem Hy{x:Nd}{c:Bool}{l r:Tr}{m:Nat}(hl:Xo l m)(hr:Xo r m)(h1:r.red=false)(k:c=true→l.red=false):Xo (On (.node x c l r)) (m+if c then 0 else 1)∧(On (.node x c l r)).red=c:=by
 have d:l.red=true→l.left.red=false:=by intro h;obtain⟨y,yl,yr,rfl⟩:=Xa h;exact hl.1.2.2.2 rfl
 rw[Qby h1 d];exact⟨⟨⟨hl.1,hr.1,h1,k⟩,Vs hl.2.1 hr.2.1 (hl.2.2.trans hr.2.2.symm),by rw[Qfy,hl.2.2]⟩,rfl⟩
theorem Qvt{x:Nd}{l r:Tr}{m:Nat}(hl:Xo l m)(hr:Xo r m)(h1:r.red=true):Xo (On (.node x false l r)) (m+1):=by
 obtain⟨z,zl,zr,rfl⟩:=Xa h1;obtain⟨⟨E,I,q,d⟩,⟨e1,B,J,Z⟩,V⟩:=hr;have d:=d rfl;simp only[Tr.bh,if_true,Nat.add_zero]at V;have k:=hl.2.2;cases c:l.red with
 |false=> rw[Qfz c q];exact⟨⟨⟨hl.1,E,d,fun _=>c⟩,I,q,nofun⟩,Vs (Vs hl.2.1 e1 (by omega)) B (by simp[mk,Tr.bh];omega),by simp[mk,Tr.bh];omega⟩
 |true=> obtain⟨y,yl,yr,rfl⟩:=Xa c;obtain⟨K,U,R,u⟩:=hl.1;have u:=u rfl;rw[Qmo u];simp only[Tr.bh,if_true,Nat.add_zero]at k;exact⟨⟨⟨K,U,R,nofun⟩,⟨E,I,q,nofun⟩,rfl,fun _=>rfl⟩,Vs hl.2.1 ⟨e1,B,J,Z⟩ (by simp[Tr.bh];omega),by simp[mk,Tr.bh];omega⟩
theorem Qbz{x:Nd}{l r:Tr}{m:Nat}(hl:Xo l m)(hr:Xo r m):Xo (On (.node x false l r)) (m+1):=by
 cases h:r.red with
 |true=>exact Qvt hl hr h
 |false=>exact(Hy (c:=false) hl hr h nofun).1
theorem Xo.black{n:Nat}{x:Nd}{l r:Tr}(h:Xo (.node x true l r) n):Xo (.node x false l r) (n+1):=
 ⟨⟨h.1.1,h.1.2.1,h.1.2.2.1,nofun⟩,h.2.1,by have:=h.2.2;simp[Tr.bh]at this⊢;omega⟩
theorem Xo.parts{x:Nd}{c:Bool}{l r:Tr}{n:Nat}(h:Xo (.node x c l r) n):∃m,Xo l m∧Xo r m∧r.red=false∧(c=true→l.red=false)∧n=m+if c then 0 else 1:=
 ⟨l.bh,⟨h.1.1,h.2.1.1,rfl⟩,⟨h.1.2.1,h.2.1.2.1,h.2.1.2.2.1.symm⟩,h.1.2.2.1,h.1.2.2.2,h.2.2.symm⟩
theorem Xo.node{x:Nd}{c:Bool}{l r:Tr}{m:Nat}(hl:Xo l m)(hr:Xo r m)(h1:r.red=false)(d:c=true→l.red=false):Xo (mk x c l r) (m+if c then 0 else 1):=
 ⟨⟨hl.1,hr.1,h1,d⟩,Vs hl.2.1 hr.2.1 (hl.2.2.trans hr.2.2.symm),by rw[Qfy,hl.2.2]⟩
theorem Xo.toRed{x:Nd}{l r:Tr}{n:Nat}(h:Xo (.node x false l r) (n+1))(hl:l.red=false):Xo (.node x true l r) n:=
 ⟨⟨h.1.1,h.1.2.1,h.1.2.2.1,fun _=>hl⟩,h.2.1,by have:=h.2.2;simp[Tr.bh]at this⊢;omega⟩
theorem Xo.nil_of{t:Tr}(h:Xo t 0)(hr:t.red=false):t=.nil:=by
 cases t with
 |nil=>rfl
 |node x c l r=> obtain rfl:c=false:=hr;have:=h.2.2;simp[Tr.bh]at this
theorem Xo.node_of{t:Tr}{n:Nat}(h:Xo t (n+1))(hr:t.red=false):∃x l r,t=.node x false l r:=by
 cases t with
 |nil=>have:=h.2.2;simp[Tr.bh]at this
 |node x c l r=>obtain rfl:c=false:=hr;exact⟨x,l,r,rfl⟩
theorem Kd(x:Nd)(c:Bool)(l r:Tr):(Tr.node x c l r).size=l.size+r.size+1:=rfl
theorem Qkj(x:Nd)(c:Bool)(l r:Tr):(mk x c l r).size=l.size+r.size+1:=rfl
theorem Q8(x:Nd)(c:Bool)(l r:Tr):(Tr.node x c l r).flat=l.flat++(x.n,x.i,x.v)::r.flat:=rfl
theorem Gy:∀{t:Tr},t≠ .nil→t.flat=t.first::t.flat.tail
 | .node x c .nil r,_=>rfl
 | .node x c (.node y d l s) r,_=>by have:=Gy (t:=.node y d l s) nofun;have e:(Tr.node x c (.node y d l s) r).first=(Tr.node y d l s).first:=rfl;rw[e,Tr.flat,this];rfl
theorem Qb0{l r:List (Nat×Int×Nat)}(h:l≠[]):(l++r).tail=l.tail++r:=by
 cases l with
 |nil=>exact absurd rfl h
 |cons a l=>rfl
theorem Qew{x:Nd}{c:Bool}{l r:Tr}:(Tr.node x c l r).flat≠[]:=by simp[Tr.flat]
theorem Qvu{t:Tr}(h:(t.red||t.left.red)=true):t.flat≠[]:=by
 cases t with
 |nil=>simp[Tr.red,Tr.left]at h
 |node x c l r=>exact Qew
theorem Ke:∀(s:Nat)(t:Tr)(n:Nat),t.size≤s→Xo t n→(t.red||t.left.red)=true→
  ∃U,DropFirst t U∧Xo U n∧(t.red=false→U.red=false)∧U.flat=t.flat.tail
 |0,.nil,n,_,_,h=>by cases h
 |s+1,.nil,n,_,_,h=>by cases h
 |s+1,.node x c l r,n,hs,hf,hD=>by
  obtain⟨m,hl,hr,E,aa,rfl⟩:=hf.parts;rw[Kd]at hs;simp only[Qa3,Kc]at hD;by_cases K:l=.nil
  ·subst K;have hc:c=true:=by simpa[Tr.red]using hD
   subst hc;have hm:m=0:=by have:=hl.2.2;simp[Tr.bh]at this;omega
   subst hm;obtain rfl:=hr.nil_of E;exact⟨.nil,.last x true .nil,⟨trivial,trivial,rfl⟩,fun _=>rfl,rfl⟩
  ·cases B:(l.red||l.left.red)with
   |true=> obtain⟨l',d,f,q,e⟩:=Ke s l m (by omega) hl B;have R:c=true→l'.red=false:=fun h=>q (aa h);obtain⟨b1,b2⟩:=Hy (x:=x) f hr E R;refine⟨_,.stay x c l r l' B d,b1,fun h=>b2.trans h,?_⟩;rw[Yn,Tr.flat,Tr.flat,e,Qb0 (Qvu B)]
   |false=>
    simp only[Bool.or_eq_false_iff]at B;have hc:c=true:=by simpa[B.1]using hD
    subst hc;cases m with
    |zero=>exact absurd (hl.nil_of B.1) K
    |succ m=>
     obtain⟨y,yl,yr,rfl⟩:=hl.node_of B.1;obtain⟨z,Z,k,rfl⟩:=hr.node_of E;have V:yl.red=false:=B.2;simp only[Kd]at hs;cases hz:Z.red with
     |false=> obtain⟨l',d,f,q,e⟩:=Ke s (.node y true yl yr) m (by simp only[Kd];omega) (hl.toRed V) rfl;refine⟨_,.turnA x y z yl yr Z k l' V hz d,Qbz f (hr.toRed hz),nofun,?_⟩;rw[Yn,Q8,e,show(Tr.node x true (Tr.node y false yl yr) (Tr.node z false Z k)).flat=(Tr.node y true yl yr).flat++(x.n,x.i,x.v)::(Tr.node z true Z k).flat from rfl,Qb0 Qew]
     |true=>
      obtain⟨u,J,I,rfl⟩:=Xa hz;obtain⟨m',k1,k2,k3,k4,k5⟩:=hr.parts;obtain rfl:m=m':=by simpa using k5
      obtain⟨m',g1,g2,g3,g4,g5⟩:=k1.parts;obtain rfl:m=m':=by simpa using g5
      have g4:=g4 rfl;simp only[Kd]at hs;obtain⟨l',d,f,q,e⟩:=Ke s (mk x false (.node y true yl yr) J) (m+1) (by simp only[Kd,Qkj];omega) (Xo.node (c:=false) (hl.toRed V) g1 g4 nofun) rfl;have ab:Xo (mk z false I k) (m+1):=Xo.node (c:=false) g2 k2 k3 nofun;obtain⟨b1,b2⟩:=Hy (x:=u.re (mk x true (.node y true yl yr) J) (mk z true I k)) (c:=true) f ab rfl (fun _=>q rfl);refine⟨_,.turnB x y z u yl yr J I k l' V d,b1,nofun,?_⟩;rw[Yn,Q8,e,Kb,Kb,Qb0 Qew,show(Tr.node x true (Tr.node y false yl yr) (Tr.node z false (Tr.node u true J I) k)).flat=(Tr.node y true yl yr).flat++(x.n,x.i,x.v)::((J.flat++(u.n,u.i,u.v)::I.flat)++(z.n,z.i,z.v)::k.flat)from rfl,Qb0 Qew];simp[Nd.re]
abbrev J6:=Nat×Int×Nat
def klt(e f:J6):Prop:=e.1<f.1∨e.1=f.1∧e.2.1<f.2.1
abbrev X8(l:List J6):Prop:=l.Pairwise klt
def del(n:Nat)(i:Int)(l:List J6):List J6:=l.filter fun e=>!decide (e.1=n∧e.2.1=i)
theorem Qr3(n:Nat)(i:Int)(a b:List J6):del n i (a++b)=del n i a++del n i b:=by simp[del]
theorem Qf1{n:Nat}{i:Int}{l:List J6}(h:∀e∈l,¬(e.1=n∧e.2.1=i)):del n i l=l:=by refine List.filter_eq_self.2 fun e c=>?_;simp only[Bool.not_eq_true',decide_eq_false_iff_not];exact h e c
theorem Qb1{n:Nat}{i:Int}{a b:List J6}(h:∀e∈b,¬(e.1=n∧e.2.1=i)):del n i (a++b)=del n i a++b:=by rw[Qr3,Qf1 h]
theorem Kf{n:Nat}{i:Int}{a b:List J6}(h:∀e∈a,¬(e.1=n∧e.2.1=i)):del n i (a++b)=a++del n i b:=by rw[Qr3,Qf1 h]
theorem Qb2{n:Nat}{i:Int}{e:J6}{b:List J6}(h:e.1=n∧e.2.1=i)(c:∀f∈b,¬(f.1=n∧f.2.1=i)):del n i (e::b)=b:=by
 have:del n i (e::b)=del n i b:=by simp[del,h]
 rw[this,Qf1 c]
theorem Qja{a b c:J6}(h:klt a b)(h':klt b c):klt a c:=by unfold klt at*;omega
theorem Oy{a b:List J6}{x:J6}(h:X8 (a++x::b)):X8 a∧X8 b∧(∀e∈a,klt e x)∧(∀e∈b,klt x e):=by obtain⟨h1,d,k⟩:=List.pairwise_append.1 h;obtain⟨u,c⟩:=List.pairwise_cons.1 d;exact⟨h1,c,fun e q=>k e q x (by simp),u⟩
theorem Qpn{n:Nat}{i:Int}{x:Nd}:lt n i x=true↔n<x.n∨n=x.n∧i<x.i:=by simp[lt]
theorem Qvv{n:Nat}{i:Int}{x:Nd}:lt n i x=false↔¬(n<x.n∨n=x.n∧i<x.i):=by simp[lt]
theorem Qjb{n:Nat}{i:Int}{x:Nd}(h:lt n i x=true){e:J6}(c:klt (x.n,x.i,x.v) e):¬(e.1=n∧e.2.1=i):=by rw[Qpn]at h;unfold klt at c;dsimp only at c;omega
theorem Qxy{n:Nat}{i:Int}{x:Nd}(h:lt n i x=true):¬(x.n=n∧x.i=i):=by rw[Qpn]at h;omega
theorem Qf2{n:Nat}{i:Int}{x:Nd}(h:lt n i x=false){e:J6}(c:klt e (x.n,x.i,x.v)):¬(e.1=n∧e.2.1=i):=by rw[Qvv]at h;unfold klt at c;dsimp only at c;omega
def Tr.has(t:Tr)(n:Nat)(i:Int):Prop:=∃e∈t.flat,e.1=n∧e.2.1=i
theorem Qc5{x:Nd}{l r:Tr}{m:Nat}(hl:Xo l m)(hr:Xo r m)(d:l.red=false):Xo (On (.node x false l r)) (m+1)∧(On (.node x false l r)).red=false:=by
 refine⟨Qbz hl hr,?_⟩;cases h:r.red with
 |false=>exact(Hy (c:=false) hl hr h nofun).2
 |true=> obtain⟨z,k,q,rfl⟩:=Xa h;rw[Qfz d hr.1.2.2.1];rfl
theorem Qs8{n:Nat}{i:Int}{x:Nd}{l r:Tr}{m:Nat}(hl:Xo l m)(hr:Xo r m)(k:l.red=false)(E:r.red=true)(Z:lt n i x=false)
  (hs:X8 (l.flat++(x.n,x.i,x.v)::r.flat))(ih:r.has n i→∃u,Drop n i r u∧Xo u m∧(r.red=false→u.red=false)∧u.flat=del n i r.flat)
  (hh:(mk x false l r).has n i):∃J,Drop n i (mk x false l r) J∧Xo J (m+1)∧J.red=false∧J.flat=del n i (mk x false l r).flat:=by
 obtain⟨sl,sr,U,K⟩:=Oy hs;have B:∀e∈l.flat,¬(e.1=n∧e.2.1=i):=fun e c=>Qf2 Z (U e c);have hD:(r.red||r.left.red)=true:=by rw[E];rfl
 by_cases I:x.n=n∧x.i=i
 ·obtain⟨u,d,f,q,e⟩:=Ke r.size r m (Nat.le_refl _) hr hD;obtain⟨b1,b2⟩:=Qc5 (x:=(x.re l r).as r.first) hl f k;refine⟨_,.takeC (x.re l r) false l r u Z k I hD d,b1,b2,?_⟩;have V:r≠ .nil:=by rintro rfl;cases E
  rw[Yn,Q8,Kb,e,Kf B,Qb2 I (fun f hf=>?_)];·have:=Gy V;rw[this];rfl
  ·intro aa;have:=K f hf;unfold klt at this;dsimp only at this;omega
 ·have R:r.has n i:=by
   obtain⟨e,c,z⟩:=hh;rw[Kb]at c;rcases List.mem_append.1 c with c|c;·exact absurd z (B e c)
   ·rcases List.mem_cons.1 c with rfl|c;·exact absurd z I
    ·exact⟨e,c,z⟩
  obtain⟨u,d,f,q,e⟩:=ih R;obtain⟨b1,b2⟩:=Qc5 (x:=x.re l r) hl f k;refine⟨_,.passC (x.re l r) false l r u Z k I hD d,b1,b2,?_⟩;rw[Yn,Q8,Kb,e,Kf B];congr 1;rw[show(x.n,x.i,x.v)::r.flat=[(x.n,x.i,x.v)]++r.flat from rfl,Kf (fun f hf=>by
   obtain rfl:f=_:=by simpa using hf
   exact I)]
  rfl
theorem Hp(n:Nat)(i:Int):∀(s:Nat)(t:Tr)(m:Nat),t.size≤s→Xo t m→(t.red||t.left.red)=true→X8 t.flat→t.has n i→
  ∃t',Drop n i t t'∧Xo t' m∧(t.red=false→t'.red=false)∧t'.flat=del n i t.flat
 |0,.nil,m,_,_,h,_,_=>by cases h
 |s+1,.nil,m,_,_,h,_,_=>by cases h
 |s+1,.node x c l r,m0,hs,hf,hD,hsort,hh=>by
  obtain⟨m,hl,hr,aa,ak,rfl⟩:=hf.parts;rw[Kd]at hs;rw[Q8]at hsort;obtain⟨sl,sr,av,aj⟩:=Oy hsort;simp only[Qa3,Kc]at hD;obtain⟨e,he,U⟩:=hh;rw[Q8]at he;cases hx:lt n i x with
  |true=>
   have ap:=Qxy hx;have ar:∀f∈r.flat,¬(f.1=n∧f.2.1=i):=fun f hf=>Qjb hx (aj f hf);have ab:∀f∈(x.n,x.i,x.v)::r.flat,¬(f.1=n∧f.2.1=i):=by
    intro f hf;rcases List.mem_cons.1 hf with rfl|hf;·exact ap
    ·exact ar f hf
   have af:l.has n i:=by
    rcases List.mem_append.1 he with he|he;·exact⟨e,he,U⟩
    ·exact absurd U (ab e he)
   have ao:l≠ .nil:=by rintro rfl;obtain⟨f,hf,_⟩:=af;cases hf
   cases R:(l.red||l.left.red)with
   |true=> obtain⟨l',d,f,q,J⟩:=Hp n i s l m (by omega) hl R sl af;have am:c=true→l'.red=false:=fun h=>q (ak h);obtain⟨b1,b2⟩:=Hy (x:=x) f hr aa am;refine⟨_,.stay x c l r l' hx R d,b1,fun h=>b2.trans h,?_⟩;rw[Yn,Q8,Q8,J,Qb1 ab]
   |false=>
    simp only[Bool.or_eq_false_iff]at R;have hc:c=true:=by simpa[R.1]using hD
    subst hc;cases m with
    |zero=>exact absurd (hl.nil_of R.1) ao
    |succ m=>
     obtain⟨y,yl,yr,rfl⟩:=hl.node_of R.1;obtain⟨z,B,k,rfl⟩:=hr.node_of aa;have hy:yl.red=false:=R.2;simp only[Kd]at hs;cases hz:B.red with
     |false=> obtain⟨l',d,f,q,J⟩:=Hp n i s (.node y true yl yr) m (by simp only[Kd];omega) (hl.toRed hy) rfl sl af;refine⟨_,.turnA x y z yl yr B k l' hx hy hz d,Qbz f (hr.toRed hz),nofun,?_⟩;rw[Yn,Q8,Q8 x true,J,Qb1 ab];rfl
     |true=>
      obtain⟨u,V,ur,rfl⟩:=Xa hz;obtain⟨m',k1,k2,k3,k4,k5⟩:=hr.parts;obtain rfl:m=m':=by simpa using k5
      obtain⟨m',g1,g2,g3,g4,g5⟩:=k1.parts;obtain rfl:m=m':=by simpa using g5
      have g4:=g4 rfl;simp only[Kd]at hs;have eR:(Tr.node z false (Tr.node u true V ur) k).flat=V.flat++((u.n,u.i,u.v)::ur.flat++(z.n,z.i,z.v)::k.flat):=by simp[Q8]
      have I:X8 (mk x false (.node y true yl yr) V).flat:=by
       rw[Kb];rw[eR]at hsort;have:X8 (((Tr.node y false yl yr).flat++(x.n,x.i,x.v)::V.flat)++((u.n,u.i,u.v)::ur.flat++(z.n,z.i,z.v)::k.flat)):=by simpa using hsort
       exact(List.pairwise_append.1 this).1
      obtain⟨l',d,f,q,J⟩:=Hp n i s (mk x false (.node y true yl yr) V) (m+1) (by simp only[Kd,Qkj];omega) (Xo.node (c:=false) (hl.toRed hy) g1 g4 nofun) rfl I (by
       obtain⟨f,hf,an⟩:=af;exact⟨f,by rw[Kb];exact List.mem_append_left _ hf,an⟩)
      have au:Xo (mk z false ur k) (m+1):=Xo.node (c:=false) g2 k2 k3 nofun;obtain⟨b1,b2⟩:=Hy (x:=u.re (mk x true (.node y true yl yr) V) (mk z true ur k)) (c:=true) f au rfl (fun _=>q rfl);refine⟨_,.turnB x y z u yl yr V ur k l' hx hy d,b1,nofun,?_⟩;have aq:∀f∈(x.n,x.i,x.v)::V.flat,¬(f.1=n∧f.2.1=i):=by
       intro f hf;refine ab f ?_;rw[eR];rcases List.mem_cons.1 hf with rfl|hf;·simp
       ·simp[hf]
      rw[Yn,Q8,J,Kb,Kb,Qb1 aq,Q8 x true,Qb1 ab,eR];simp[Nd.re,Tr.flat]
  |false=>
   have Z:∀f∈l.flat,¬(f.1=n∧f.2.1=i):=fun f hf=>Qf2 hx (av f hf);have ac:e∈(x.n,x.i,x.v)::r.flat:=by
    rcases List.mem_append.1 he with he|he;·exact absurd U (Z e he)
    ·exact he
   cases K:l.red with
   |true=>
    obtain⟨y,yl,yr,rfl⟩:=Xa K;have hc:c=false:=by
     cases c with
     |false=>rfl
     |true=>exact absurd (ak rfl) (by simp[Tr.red])
    subst hc;obtain⟨m',k1,k2,k3,k4,k5⟩:=hl.parts;obtain rfl:m=m':=by simpa using k5
    have k4:=k4 rfl;simp only[Kd]at hs;have eL:(Tr.node y true yl yr).flat++(x.n,x.i,x.v)::r.flat=(yl.flat++[(y.n,y.i,y.v)])++(mk x true yr r).flat:=by simp[Q8,Kb]
    have ae:∀f∈yl.flat++[(y.n,y.i,y.v)],¬(f.1=n∧f.2.1=i):=fun f hf=>Z f (by
     rw[Q8];rcases List.mem_append.1 hf with hf|hf;·exact List.mem_append_left _ hf
     ·obtain rfl:f=_:=by simpa using hf
      simp)
    have ag:¬(y.n=n∧y.i=i):=ae (y.n,y.i,y.v) (by simp);have I:X8 (mk x true yr r).flat:=by rw[eL]at hsort;exact(List.pairwise_append.1 hsort).2.1
    obtain⟨r',d,f,q,J⟩:=Hp n i s (mk x true yr r) m (by rw[Qkj];omega) (Xo.node (c:=true) k2 hr aa (fun _=>k3)) rfl I ⟨e,by rw[Kb];exact List.mem_append_right _ ac,U⟩;obtain⟨b1,b2⟩:=Qc5 (x:=y.re yl (mk x true yr r)) k1 f k4;refine⟨_,.right x y false yl yr r r' hx ag d,b1,fun _=>b2,?_⟩;rw[Yn,Q8,Q8 x false,eL,Kf ae,J];simp[Nd.re]
   |false=>
    have hc:c=true:=by simpa[K]using hD
    subst hc;have ah:¬(x.n=n∧x.i=i)→r.has n i:=by
     intro E;rcases List.mem_cons.1 ac with rfl|ac;·exact absurd U E
     ·exact⟨e,ac,U⟩
    have al:(x.n=n∧x.i=i)→∀f∈r.flat,¬(f.1=n∧f.2.1=i):=by intro E f hf an;have:=aj f hf;unfold klt at this;dsimp only at this;omega
    by_cases ai:r=.nil
    ·subst ai;have E:x.n=n∧x.i=i:=Classical.byContradiction fun E=>by obtain⟨f,hf,_⟩:=ah E;cases hf
     have hm:m=0:=by have:=hr.2.2;simp[Tr.bh]at this;omega
     subst hm;obtain rfl:=hl.nil_of K;exact⟨.nil,.here x true .nil hx rfl E,⟨trivial,trivial,rfl⟩,fun _=>rfl,by simp[Tr.flat,del,E]⟩
    ·cases R:(r.red||r.left.red)with
     |true=>
      by_cases E:x.n=n∧x.i=i;·obtain⟨r',d,f,q,J⟩:=Ke r.size r m (Nat.le_refl _) hr R;obtain⟨b1,b2⟩:=Hy (x:=x.as r.first) (c:=true) hl f (q aa) (fun _=>K);refine⟨_,.takeC x true l r r' hx K E R d,b1,nofun,?_⟩;rw[Yn,Q8,Q8 x true,J,Kf Z,Qb2 E (al E),Gy ai];rfl
      ·obtain⟨r',d,f,q,J⟩:=Hp n i s r m (by omega) hr R sr (ah E);obtain⟨b1,b2⟩:=Hy (x:=x) (c:=true) hl f (q aa) (fun _=>K);refine⟨_,.passC x true l r r' hx K E R d,b1,nofun,?_⟩;rw[Yn,Q8,Q8 x true,J,Kf Z,show(x.n,x.i,x.v)::r.flat=[(x.n,x.i,x.v)]++r.flat from rfl,Kf (fun f hf=>by
        obtain rfl:f=_:=by simpa using hf
        exact E)]
       rfl
     |false=>
      simp only[Bool.or_eq_false_iff]at R;cases m with
      |zero=>exact absurd (hr.nil_of R.1) ai
      |succ m=>
       obtain⟨y,yl,yr,rfl⟩:=hl.node_of K;obtain⟨z,B,k,rfl⟩:=hr.node_of R.1;have hz:B.red=false:=R.2;simp only[Kd]at hs;have fz:=hr.toRed hz;have ez:(Tr.node z true B k).flat=(Tr.node z false B k).flat:=rfl;have ih:(Tr.node z true B k).has n i→∃r',Drop n i (.node z true B k) r'∧Xo r' m∧((Tr.node z true B k).red=false→r'.red=false)∧r'.flat=del n i (Tr.node z true B k).flat:=
        fun h=>Hp n i s (.node z true B k) m (by simp only[Kd];omega) fz rfl sr h
       cases hy:yl.red with
       |false=>
        have fy:=hl.toRed hy;by_cases E:x.n=n∧x.i=i;·obtain⟨r',d,f,q,J⟩:=Ke (Tr.node z true B k).size (.node z true B k) m (Nat.le_refl _) fz rfl;refine⟨_,.takeA x y z yl yr B k r' hx E hy hz d,Qbz fy f,nofun,?_⟩;rw[Yn,Q8,Q8 x true,J,Kf Z,Qb2 E (al E),←ez,Gy (t:=Tr.node z true B k) nofun];rfl
        ·obtain⟨r',d,f,q,J⟩:=ih (ah E);refine⟨_,.passA x y z yl yr B k r' hx E hy hz d,Qbz fy f,nofun,?_⟩;rw[Yn,Q8,Q8 x true,J,Kf Z,show(x.n,x.i,x.v)::(Tr.node z false B k).flat=[(x.n,x.i,x.v)]++(Tr.node z true B k).flat from rfl,Kf (fun f hf=>by
          obtain rfl:f=_:=by simpa using hf
          exact E)]
         rfl
       |true=>
        obtain⟨u,V,ur,rfl⟩:=Xa hy;obtain⟨m',k1,k2,k3,k4,k5⟩:=hl.parts;obtain rfl:m=m':=by simpa using k5
        have eL:(Tr.node y false (Tr.node u true V ur) yr).flat++(x.n,x.i,x.v)::(Tr.node z false B k).flat=((Tr.node u true V ur).flat++[(y.n,y.i,y.v)])++(mk x false yr (Tr.node z true B k)).flat:=by simp[Q8,Kb]
        have ae:∀f∈(Tr.node u true V ur).flat++[(y.n,y.i,y.v)],¬(f.1=n∧f.2.1=i):=fun f hf=>Z f (by
         rw[Q8];rcases List.mem_append.1 hf with hf|hf;·exact List.mem_append_left _ hf
         ·obtain rfl:f=_:=by simpa using hf
          simp)
        have ag:¬(y.n=n∧y.i=i):=ae (y.n,y.i,y.v) (by simp);have I:X8 (mk x false yr (Tr.node z true B k)).flat:=by rw[eL]at hsort;exact(List.pairwise_append.1 hsort).2.1
        obtain⟨t',d,f,q,J⟩:=Qs8 (x:=x) k2 fz k3 rfl hx (by rw[Kb]at I;exact I) ih ⟨e,by rw[Kb];exact List.mem_append_right _ ac,U⟩;have fu:Xo (.node u false V ur) (m+1):=k1.black;obtain⟨b1,b2⟩:=Hy (x:=y.re (.node u true V ur) (mk x true yr (.node z true B k))) (c:=true) fu f q (fun _=>rfl);refine⟨_,.passB x y z u V ur yr B k t' hx ag hz d,b1,nofun,?_⟩;rw[Yn,Q8,Q8 x true,eL,Kf ae,J];simp[Nd.re,Q8]
instance(e f:J6):Decidable (klt e f):=by unfold klt;infer_instance
def Vz(e:J6):List J6→List J6
 |[]=>[e]
 |f::l=>if klt e f then e::f::l else f::Vz e l
theorem Qjc{e x:J6}(h:klt e x)(r:List J6):∀l:List J6,Vz e (l++x::r)=Vz e l++x::r
 |[]=>by simp[Vz,h]
 |f::l=>by
  simp only[List.cons_append,Vz];split;·rfl
  ·rw[Qjc h r l];rfl
theorem Qf3{e x:J6}(h:¬klt e x)(r:List J6):∀l:List J6,(∀f∈l,klt f x)→Vz e (l++x::r)=l++x::Vz e r
 |[],_=>by simp[Vz,h]
 |f::l,hl=>by have hf:¬klt e f:=fun hf=>h (Qja hf (hl f (by simp)));simp only[List.cons_append,Vz,hf,if_false];rw[Qf3 h r l (fun g c=>hl g (by simp[c]))]
theorem Oz{e g:J6}:∀{l:List J6},g∈Vz e l↔g=e∨g∈l
 |[]=>by simp[Vz]
 |f::l=>by
  simp only[Vz];split;·simp
  ·simp only[List.mem_cons,Oz (l:=l)];constructor
   ·rintro(h|h|h);·exact .inr (.inl h)
    ·exact .inl h
    ·exact .inr (.inr h)
   ·rintro(h|h|h);·exact .inr (.inl h)
    ·exact .inl h
    ·exact .inr (.inr h)
theorem Qd7{e:J6}:∀{l:List J6},X8 l→(∀f∈l,¬(f.1=e.1∧f.2.1=e.2.1))→X8 (Vz e l)
 |[],_,_=>by simp[Vz,X8]
 |f::l,h,hne=>by
  obtain⟨h1,k⟩:=List.pairwise_cons.1 h;simp only[Vz];split
  ·rename_i d;refine List.pairwise_cons.2 ⟨?_,h⟩;intro g c;rcases List.mem_cons.1 c with rfl|c;·exact d
   ·exact Qja d (h1 g c)
  ·rename_i d;refine List.pairwise_cons.2 ⟨?_,Qd7 k fun g c=>hne g (by simp[c])⟩;intro g c;rcases Oz.1 c with rfl|c;·have:=hne f (by simp);unfold klt at d⊢;omega
   ·exact h1 g c
theorem Qvw{n:Nat}{i:Int}{v:Nat}{x:Nd}:lt n i x=true↔klt (n,i,v) (x.n,x.i,x.v):=Qpn
theorem Qf4(n:Nat)(i:Int)(v a:Nat):∀t:Tr,X8 t.flat→(t.put n i v a).flat=Vz (n,i,v) t.flat
 | .nil,_=>rfl
 | .node x c l r,h=>by
  rw[Q8]at h;obtain⟨sl,q,hl,hr⟩:=Oy h;simp only[Tr.put];cases k:lt n i x with
  |true=> simp only[if_true];rw[Yn,Q8,Qf4 n i v a l sl,Q8,Qjc (Qvw.1 k)]
  |false=>
   have d:¬klt (n,i,v) (x.n,x.i,x.v):=fun h'=>by rw[Qvw.2 h']at k;cases k
   simp only[Bool.false_eq_true,if_false];rw[Yn,Q8,Qf4 n i v a r q,Q8,Qf3 d _ _ hl]
theorem Qpo{n:Nat}{i:Int}{l:List J6}(h:X8 l):X8 (del n i l):=h.sublist List.filter_sublist
theorem Qc6(n:Nat)(i:Int)(v a:Nat):∀t:Tr,(t.put n i v a).addrs.Perm (a::t.addrs)
 | .nil=>.refl _
 | .node x c l r=>by
  simp only[Tr.put];split;·rw[Yi];simp only[Tr.addrs];exact((Qc6 n i v a l).append_right _)
  ·rw[Yi];simp only[Tr.addrs];exact(((Qc6 n i v a r).cons x.a).append_left l.addrs).trans (((List.Perm.swap a x.a r.addrs).append_left l.addrs).trans List.perm_middle)
theorem Ve(x:Nd)(c:Bool)(l r:Tr):(Tr.node x c l r).addrs=l.addrs++x.a::r.addrs:=rfl
theorem Ym{t q:Tr}(h:DropFirst t q):q.addrs.Sublist t.addrs:=by
 induction h with
 |last x c r=>exact List.nil_sublist _
 |stay x c l r l' R d k=>rw[Yi];exact k.append (List.Sublist.refl _)
 |turnA x y z yl yr K B l' h1 J d k=>rw[Yi];exact k.append (List.Sublist.refl _)
 |turnB x y z u yl yr I E B l' h1 d k=> rw[Yi];have:=k.append (List.Sublist.refl (u.a::(E.addrs++z.a::B.addrs)));simp only[Ve,D7]at this⊢;simpa[Nd.re]using this
theorem Vf{n:Nat}{i:Int}{t R:Tr}(h:Drop n i t R):R.addrs.Sublist t.addrs:=by
 induction h with
 |stay x c l r l' h0 V d k=>rw[Yi];exact k.append (List.Sublist.refl _)
 |turnA x y z yl yr K B l' h0 h1 q d k=>rw[Yi];exact k.append (List.Sublist.refl _)
 |turnB x y z u yl yr U J B l' h0 h1 d k=> rw[Yi];have:=k.append (List.Sublist.refl (u.a::(J.addrs++z.a::B.addrs)));simp only[Ve,D7]at this⊢;simpa[Nd.re]using this
 |right x y c yl yr r E h0 h1 d k=> rw[Yi];have:=(List.Sublist.refl (yl.addrs++[y.a])).append k;simp only[Ve,D7]at this⊢;simpa[Nd.re]using this
 |here x c l h0 h1 q=>exact List.nil_sublist _
 |passA x y z yl yr K B E h0 h1 q I d k=> rw[Yi];have:=(List.Sublist.refl ((Tr.node y true yl yr).addrs++[x.a])).append k;simp only[Ve]at this⊢;simpa using this
 |takeA x y z yl yr K B E h0 h1 q I d=> rw[Yi];have:=(List.Sublist.refl ((Tr.node y true yl yr).addrs++[x.a])).append (Ym d);simp only[Ve]at this⊢;simpa[Nd.as]using this
 |passB x y z u U J yr K B E h0 h1 q d k=> rw[Yi];have:=(List.Sublist.refl ((Tr.node u true U J).addrs++[y.a])).append k;simp only[Ve,D7]at this⊢;simpa[Nd.re]using this
 |passC x c l r E h0 h1 q I d k=> rw[Yi];have:=(List.Sublist.refl (l.addrs++[x.a])).append k;simp only[Ve]at this⊢;simpa using this
 |takeC x c l r E h0 h1 q I d=> rw[Yi];have:=(List.Sublist.refl (l.addrs++[x.a])).append (Ym d);simp only[Ve]at this⊢;simpa[Nd.as]using this
def Jl(a b:Nat×Int):Prop:=a.1<b.1∨a.1=b.1∧a.2<b.2
theorem Qs9(a b:Nat×Int):Jp a b=a∨Jp a b=b:=by
 unfold Jp;split;·exact .inl rfl
 ·exact .inr rfl
theorem Hq(a1:Nat)(c:Int)(b1:Nat)(b2:Int):Jp (a1,c) (b1,b2)=if a1<b1∨a1=b1∧c≤b2 then(a1,c)else(b1,b2):=by
 unfold Jp;by_cases h:a1<b1∨a1=b1∧c≤b2
 ·have h':(a1,c)=(b1,b2)∨(a1,c).1<(b1,b2).1∨(a1,c).1=(b1,b2).1∧(a1,c).2<(b1,b2).2:=by simp only[Prod.mk.injEq];omega
  rw[if_pos h,if_pos h']
 ·have h':¬((a1,c)=(b1,b2)∨(a1,c).1<(b1,b2).1∨(a1,c).1=(b1,b2).1∧(a1,c).2<(b1,b2).2):=by simp only[Prod.mk.injEq];omega
  rw[if_neg h,if_neg h']
theorem Qb3(a b c:Nat×Int):Jp (Jp a b) c=Jp a (Jp b c):=by
 obtain⟨a1,u⟩:=a;obtain⟨b1,b2⟩:=b;obtain⟨k,q⟩:=c;rw[Hq a1 u b1 b2,Hq b1 b2 k q];by_cases h1:a1<b1∨a1=b1∧u≤b2
 ·rw[if_pos h1];by_cases d:b1<k∨b1=k∧b2≤q;·rw[if_pos d,Hq,Hq,if_pos h1,if_pos (by omega)]
  ·rw[if_neg d]
 ·rw[if_neg h1];by_cases d:b1<k∨b1=k∧b2≤q;·rw[if_pos d,Hq,Hq,if_pos d,if_neg h1]
  ·rw[if_neg d,Hq,Hq,if_neg d,if_neg (by omega)]
def low:List J6→Option (Nat×Int)
 |[]=>none
 |e::l=>match low l with
  |none=>some (e.2.2,e.2.1)
  |some s=>some (Jp (e.2.2,e.2.1) s)
def jn:Option (Nat×Int)→Option (Nat×Int)→Option (Nat×Int)
 |none,b=>b
 |a,none=>a
 |some a,some b=>some (Jp a b)
theorem Qf5(a b c:Option (Nat×Int)):jn (jn a b) c=jn a (jn b c):=by cases a<;>cases b<;>cases c<;>simp[jn,Qb3]
theorem Qb4:∀a b:List J6,low (a++b)=jn (low a) (low b)
 |[],b=>rfl
 |e::a,b=>by rw[List.cons_append,low,Qb4 a b,low];cases ha:low a<;>cases c:low b<;>simp[jn,Qb3]
theorem Qr4(e:J6):low [e]=some (e.2.2,e.2.1):=rfl
def Tr.sum:Tr→Option (Nat×Int)
 | .nil=>none
 | .node x _ _ _=>some (x.sv,x.si)
theorem Qy8(x:Nd)(l r:Tr):some (E5 x l r)=jn (jn l.sum (some (x.v,x.i))) r.sum:=by cases l<;>cases r<;>rfl
theorem Qb5:∀t:Tr,t.even→t.sum=low t.flat
 | .nil,_=>rfl
 | .node x c l r,⟨hl,hr,_,hs⟩=>by
  have e:(Tr.node x c l r).sum=some (E5 x l r):=by rw[←hs];rfl
  rw[e,Qy8,Qb5 l hl,Qb5 r hr,Q8,Qb4,Qf5];congr 1;rw[show(x.n,x.i,x.v)::r.flat=[(x.n,x.i,x.v)]++r.flat from rfl,Qb4,Qr4]
theorem Qvx:∀{l:List J6}{s:Nat×Int},low l=some s→∀e∈l,s.1≤e.2.2
 |e::l,s,h,f,hf=>by
  rw[low]at h;cases hl:low l with
  |none=>
   cases l with
   |nil=>
    rw[hl]at h;obtain rfl:=Option.some.inj h;obtain rfl:f=e:=by simpa using hf
    exact Nat.le_refl _
   |cons g l=>rw[low]at hl;cases c:low l<;>rw[c]at hl<;>cases hl
  |some q=>
   rw[hl]at h;obtain rfl:=Option.some.inj h;rcases List.mem_cons.1 hf with rfl|hf
   ·unfold Jp;split;·exact Nat.le_refl _
    ·rename_i h';simp only[not_or]at h';omega
   ·have:=Qvx hl f hf;unfold Jp;split
    ·rename_i h';rcases h' with h'|h'|h';·have:=congrArg Prod.fst h';simp at this;omega
     ·simp at h';omega
     ·have:=h'.1;simp at this;omega
    ·exact this
theorem Qkk:∀{l:List J6}{s:Nat×Int},low l=some s→∃e∈l,s=(e.2.2,e.2.1)
 |e::l,s,h=>by
  rw[low]at h;cases hl:low l with
  |none=> rw[hl]at h;obtain rfl:=Option.some.inj h;exact⟨e,by simp,rfl⟩
  |some q=>
   rw[hl]at h;obtain rfl:=Option.some.inj h;rcases Qs9 (e.2.2,e.2.1) q with h'|h';·exact⟨e,by simp,h'⟩
   ·obtain⟨f,hf,c⟩:=Qkk hl;exact⟨f,by simp[hf],h'.trans c⟩
end Go.Proofs.YtnnhmpehkbihnaaGreat
