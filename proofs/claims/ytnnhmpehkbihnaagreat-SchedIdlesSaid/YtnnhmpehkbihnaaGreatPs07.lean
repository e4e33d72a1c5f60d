/- A part of the proof: no condition. -/
import Derived.Test.YtnnhmpehkbihnaaGreatPs06
import Derived.Laws.EntriesVeiled
namespace Go.Proofs.YtnnhmpehkbihnaaGreat
set_option linter.unusedVariables false
set_option maxRecDepth 100000
set_option maxHeartbeats 4000000
open Go.RowKit
open Go.Proofs.Tryz
structure O1{X Y:Type}(ty:TypeId)(cells:X→Nat→Array Value)(pr:X→Y)(Is:World→Fp→Nat→Y→Prop)(w:World)(F:Fp)(b:Nat)(x:X):Prop where
 ex:∃p G,Qh w b (cells x p) ty∧Is w G p (pr x)∧∀k,G k→F k∧k≠b
 bd:Bd F w
 own:F b
section
variable{X Y:Type}{ty:TypeId}{cells:X→Nat→Array Value}{pr:X→Y}{Is:World→Fp→Nat→Y→Prop}{w w1 w2:World}{F:Fp}{b:Nat}{x:X}
theorem O1.obj(z:Hf Is):Hf (O1 ty cells pr Is) where
 bd:=fun h=>h.bd
 own:=fun h=>h.own
 aB:=fun h hc u=>by obtain⟨p,G,h1,q,c⟩:=h.ex;exact⟨⟨p,G,hc.blk h1 (u _ h.own),z.aB q hc (u.subL fun k d=>(c k d).1),c⟩,h.bd.later hc,h.own⟩
 more:=fun h hs B=>by obtain⟨p,G,h1,q,c⟩:=h.ex;exact⟨⟨p,G,h1,q,fun k d=>⟨hs k (c k d).1,(c k d).2⟩⟩,B,hs _ h.own⟩
theorem O1.made{p:Nat}{G:Fp}{x':X}(h:O1 ty cells pr Is w F b x)(u:∀k,G k→F k∧k≠b)(z:Hf Is)
  (hc:Qc G w w1)(hi:Is w1 (Qn G w w1) p (pr x'))(q:Qc (fun k=>k=b) w1 w2)(B:Qh w2 b (cells x' p) ty):O1 ty cells pr Is w2 (Qn F w w2) b x'∧Qc F w w2:=by
 have Xg:=h.bd b h.own;have c:Qc F w w2:=(hc.sub fun k d=>(u k d).1).aA (q.sub fun k d=>d▸h.own);refine⟨⟨⟨p,Qn G w w1,B,z.aB hi q ?_,?_⟩,h.bd.ext c,.inl h.own⟩,c⟩
 ·rintro k d rfl;rcases d with d|d;·exact(u _ d).2 rfl
  ·omega
 ·intro k d;rcases d with d|d;·exact⟨.inl (u k d).1,(u k d).2⟩
  ·exact⟨.inr ⟨d.1,Nat.lt_of_lt_of_le d.2 q.size⟩,by omega⟩
theorem O1.cell{p:Nat}{G:Fp}{x':X}(h:O1 ty cells pr Is w F b x)(z:Is w G p (pr x'))(u:∀k,G k→F k∧k≠b)(B:Hf Is)
  (q:Qc (fun k=>k=b) w w2) (E:Qh w2 b (cells x' p) ty):O1 ty cells pr Is w2 (Qn F w w2) b x'∧Qc F w w2:=by
 have c:Qc F w w2:=q.sub fun k d=>d▸h.own;exact⟨⟨⟨p,G,E,B.aB z q (fun k d e=>(u k d).2 e),fun k d=>⟨.inl (u k d).1,(u k d).2⟩⟩,h.bd.ext c,.inl h.own⟩,c⟩
theorem O1.new{p:Nat}{G:Fp}(hi:Is w2 G p (pr x))(q:∀k,G k→w.heap.size≤k)(u:Hf Is)(d:Qh w2 b (cells x p) ty)(z:w.heap.size≤b)(hn:¬G b):O1 ty cells pr Is w2 (Qn Qb w w2) b x:=
 ⟨⟨p,G,d,hi,fun k c=>⟨.inr ⟨q k c,u.bd hi k c⟩,fun e=>hn (e▸c)⟩⟩,fun k c=>c.elim (fun h=>h.elim) (fun h=>h.2),.inr ⟨z,d.lt⟩⟩
theorem Hf.same{Z:Type}{c:World→Fp→Nat→Z→Prop}(d:Hf c){z:Z}(h:c w F b z)(hc:Qc Qb w w1):c w1 (Qn F w w1) b z∧Qc F w w1:=
 ⟨d.more (d.aB h hc (Jl.none F)) (fun k q=>.inl q) ((d.bd h).ext (hc.none (F:=F))),hc.none⟩
theorem Hf.two{Z:Type}{c:World→Fp→Nat→Z→Prop}(q:Hf c){z:Z}(h:c w2 (Qn (Qn F w w1) w1 w2) b z)(u:Bd F w)(d:Qc F w w1)(k:Qc (Qn F w w1) w1 w2):c w2 (Qn F w w2) b z∧Qc F w w2:=
 ⟨q.more h (Qn.trans d.size k.size) (u.ext (d.ext k)),d.ext k⟩
end
section
attribute [local go_sem] Qp
def Fs(d:Ju)(p:Nat):Array Value:=#[ptr p,.int .u64 d.got,.bool d.aL,.int .u64 d.elig,.int .u64 d.due]
abbrev Ye:World→Fp→Nat→Ju→Prop:=O1 150 Fs Ju.run Yv
theorem Ye.obj:Hf Ye:=O1.obj runP
theorem Qrm(len:Int)(w):Cl 161 #[.int .i64 len] w fun e w'=>e=.returned (.int .u64 (Xr len:Nat))∧w=w':=by
 have h1:IntKind.u64.wrap (min (max len 0) 65536)=(((min (max len 0) 65536).toNat:Nat):Int):=by rw[IntWalk.u64_in _ (by omega)];omega
 have d:IntKind.u64.wrap ((((min (max len 0) 65536).toNat:Nat):Int)*256)=(Xr len:Int):=by unfold Xr;rw[IntWalk.u64_in _ (by omega)];omega
 have q:=fun(c:Array TypeId)t k a b(w)=>X8 (P:=prog) c t k a b w;have u:=fun(c:Array TypeId)t k a b(w)=>Yd (P:=prog) c t k a b w;generalize Xr len=g at d⊢;generalize(min (max len 0) 65536).toNat=m at h1 d;generalize B:min (max len 0) 65536=z at h1;go_enter func161,ntmps161;go_wp2;go_ret;exact⟨rfl,rfl⟩
theorem Wt(len:Int):Xr len≤16777216:=by unfold Xr;omega
theorem Ty{w}{b p:Nat}{v1 v2 v3 v4:Value}(h:Qh w b #[ptr p,v1,v2,v3,v4] 150):Cl 88 #[ptr b] w fun e w'=>e=.returned (.bool false)∧w=w':=by have c:=h.cell 0;simp only[Zf,Ze]at c;unfold ptr at*;clear h;go_enter func88,ntmps88;go_wp2;go_ret;exact⟨rfl,rfl⟩
theorem Li{w}{F:Fp}{b:Nat}{d:Ju}(h:Ye w F b d):Cl 99 #[ptr b] w fun e w'=>e=.returned (.bool d.aL)∧w=w':=by obtain⟨p,G,c,_⟩:=h.ex;have k:=O (Ty c);obtain⟨q,a1,u,z,B⟩:=Ym c;unfold ptr at*;clear h c;go_enter func99,ntmps99;go_wp2_with fail;refine Zy k ?_;rintro w1 rfl;go_wp2;go_ret;exact⟨rfl,rfl⟩
theorem Ay{w}{F:Fp}{b:Nat}{d:Ju}(h:Ye w F b d):Cl 46 #[ptr b] w fun e w'=>e=.returned (.int .u64 (d.from_:Nat))∧w=w':=by
 have c:=O (Li h);obtain⟨p,G,k,_⟩:=h.ex;obtain⟨q,a1,u,z,B⟩:=Ym k;unfold ptr Ju.from_ at*;clear h k;cases ha:d.aL;all_goals
  rw[ha]at c;clear ha;go_enter func46,ntmps46;go_wp2_with fail;refine Zy c ?_;rintro w1 rfl;go_wp2;go_ret;exact⟨rfl,rfl⟩
theorem Cb{w}{F:Fp}{b:Nat}{d:Ju}(h:Ye w F b d):Cl 47 #[ptr b] w fun e w'=>e=.returned (.int .u64 (d.dueAt:Nat))∧w=w':=by
 have c:=O (Li h);obtain⟨p,G,k,_⟩:=h.ex;obtain⟨q,a1,u,z,B⟩:=Ym k;unfold ptr Ju.dueAt at*;clear h k;cases ha:d.aL;all_goals
  rw[ha]at c;clear ha;go_enter func47,ntmps47;go_wp2_with fail;refine Zy c ?_;rintro w1 rfl;go_wp2;go_ret;exact⟨rfl,rfl⟩
theorem Qcu{w}{G:Fp}{b p g:Nat}{r:Xh}{v2 v3 v4:Value}(len:Int)(J:Qh w b #[ptr p,.int .u64 g,v2,v3,v4] 150)(U:Yv w G p r)(hn:r.l.length<549755813888)(hg:g≤Xw):
  Cl 191 #[ptr b,.int .i64 len] w fun e w'=>e=.returned (.tuple #[])∧Qh w' b #[ptr p,.int .u64 g,v2,.int .u64 (r.elig g:Nat),v4] 150∧Qc (fun k=>k=b) w w':=by
 have E:=O (fun w'(hc:Qc Qb w w')=>Ql3 (runP.aB U hc (Jl.none G)) (by omega) g (by have:=Yz;omega));have B:=O J;generalize r.elig g=x at E⊢;have Z:=fun x=>Ym (Qk (S:=Qb) B.o (fun h=>h) x);unfold ptr at*;clear J U hn hg;go_enter func191,ntmps191;go_wp2_with fail;refine Qu [] [0,1,2,3,4,5,6,7,8,9] [10] [11,12,13] (Qz (Qb) (w)) Zq (by kernel_rfl) (fun _ _ _ _ _ h=>h) (Qd (Zj (Zg _ _))) ?_;simp only[pick,Zf,Ze,Zd];refine Qg ?_;iterate 10 (refine Ql (fun K R=>?_);go_simp;refine R _ ?_;clear R K)
 refine Qg ?_;intro _ z;obtain⟨V,c⟩:=z;subst c;simp only[Jd];have q:=O (Qv Qb w V);generalize Qz Qb w V=w1 at q⊢;clear Z;go_wp2_with fail;refine Zz (E.o _ q.o) ?_;intro w2 I;have u:=O (q.o.aA I);clear I;go_wp2;refine⟨Qd u.o,?_⟩;have d:=O (u.o.blk B.o (fun h=>h));obtain⟨a0,a1,a2,a3,a4⟩:=Ym d.o;have f2:=d.o.frozen;go_wp2;refine bodyPost_end (by simp[*,results,Tryz.results191,go_sem]) rfl ⟨rfl,d.o.set' 3 _ rfl,u.o.none.setCell (a:=⟨b,3,none⟩) _ (.inl rfl)⟩
theorem By{w}{G:Fp}{b p g:Nat}{r:Xh}{v2 v3 v4:Value}(len:Int)(hB:Qh w b #[ptr p,.int .u64 g,v2,v3,v4] 150)(hR:Yv w G p r)(hn:r.l.length<549755813888)(hg:g≤Xw):
  Cl 193 #[ptr b,.int .i64 len] w fun e w'=>e=.returned (.tuple #[])∧Qh w' b #[ptr p,.int .u64 g,v2,v3,.int .u64 (r.reach (min (g+Xr len) Xw):Nat)] 150∧Qc (fun k=>k=b) w w':=by
 have d:=Yz;have R:=Wt len;have I:=O (fun w'(hc:Qc Qb w w')=>Ru (runP.aB hR hc (Jl.none G)) (by omega) (min (g+Xr len) Xw) (by omega));have Z:=O (fun w=>Qrm len w);have V:=O hB;have hs:IntKind.u64.wrap ((g:Int)+(Xr len:Int))=((g+Xr len:Nat):Int):=by rw[IntWalk.u64_in _ (by omega)];omega
 have q:min ((g+Xr len:Nat):Int) 4611686018427387904=((min (g+Xr len) Xw:Nat):Int):=by omega
 generalize r.reach (min (g+Xr len) Xw)=x at I⊢;generalize min (g+Xr len) Xw=y at I q;generalize g+Xr len=z at hs q;generalize Xr len=u at Z hs;have hm:=fun(ts:Array TypeId)t k a b(w)=>X8 (P:=prog) ts t k a b w;have E1:=fun x=>Ym (Qk (S:=Qb) V.o (fun h=>h) x);unfold ptr at*;clear hB hR hn hg d R;go_enter func193,ntmps193;go_wp2_with fail;refine Qu [] [0,1,2,3,4,5,6,7,8,9,10] [11,12,13,14] [15,16,17] (Qz (Qb) (w)) Zq (by kernel_rfl) (fun _ _ _ _ _ h=>h) (Qd (Zj (Zg _ _))) ?_;simp only[pick,Zf,Ze,Zd];refine Qg ?_;iterate 11 (refine Ql (fun K hK=>?_);go_simp;refine hK _ ?_;clear hK K)
 refine Qg ?_;intro _ U;obtain⟨xo,B⟩:=U;subst B;simp only[Jd];have c:=O (Qv Qb w xo);generalize Qz Qb w xo=w1 at c⊢;clear E1;go_wp2_with fail;refine Zz (Z.o _) ?_;rintro w2 rfl;go_wp2;refine⟨Qd c.o,?_⟩;go_wp2;refine⟨Qd c.o,?_⟩;go_wp2;refine⟨Qd c.o,?_⟩;go_wp2_with fail;refine Zz (I.o _ c.o) ?_;intro w2 d2;have J:=O (c.o.aA d2);clear d2;go_wp2;refine⟨Qd J.o,?_⟩;have E:=O (J.o.blk V.o (fun h=>h));obtain⟨a0,a1,a2,a3,a4⟩:=Ym E.o;have f2:=E.o.frozen;go_wp2;refine bodyPost_end (by simp[*,results,Tryz.results193,go_sem]) rfl ⟨rfl,E.o.set' 4 _ rfl,J.o.none.setCell (a:=⟨b,4,none⟩) _ (.inl rfl)⟩
theorem Gj(r:Xh)(x y:Nat):(r.start x y).l.length=r.l.length+1:=by simp[Xh.start,Dg]
def Qm0:Value:=.agg #[.func (.func 191) #[] #[],.func (.func 193) #[] #[]]
theorem Qgg(w):Cl 133 #[] w fun e w'=>e=.returned Qm0∧Qc Qb w w':=by
 unfold Qm0;have c:Hi (∀w',w'=w.alloc (.cells #[.func (.func 191) #[] #[],.func (.func 193) #[] #[]] 177)→Qc Qb w w'∧Qh w' w.heap.size #[.func (.func 191) #[] #[],.func (.func 193) #[] #[]] 177):=O (by
  rintro w' rfl;exact⟨(Zg _ _).alloc _,Qh.new _ _ _⟩)
 go_enter func133,ntmps133;go_wp2;obtain⟨W,hW⟩:=Zx (w.alloc (.cells #[.func (.func 191) #[] #[],.func (.func 193) #[] #[]] 177));rw[←hW];obtain⟨d,k⟩:=c.o W hW;obtain⟨q,e1⟩:=Q4 k;refine bodyPost_ret (v:=.agg #[.func (.func 191) #[] #[],.func (.func 193) #[] #[]]) ?_ rfl ⟨rfl,d⟩;clear d k hW;simp[*,results,Tryz.results133,go_sem]
theorem Qj6{w}{F:Fp}{b:Nat}{d:Ju}(h:Ye w F b d)(hn:d.run.l.length+1<549755813888)(hg:d.got≤Xw)(now:Nat)(hw:now<18446744073709551616)(len:Int):
  Cl 74 #[ptr b,.int .u64 now,.int .i64 len] w fun e w'=>e=.returned (.tuple #[])∧Ye w' (Qn F w w') b (d.wake now len)∧Qc F w w':=by
 have H:=O h;obtain⟨p,G,V,hR,hG⟩:=h.ex;have HN:=O (Ty V);have ah:=O (runP.bd hR);have z:=Yz;cases ha:d.aL with
 |true=>
  have e:d.wake now len=d:=by unfold Ju.wake;rw[if_pos ha]
  have E:=O (fun w'(hc:Qc Qb w w')=>Ye.obj.same H.o hc);rw[e];have a2:=V.cell 2;simp only[Fs,Zf,Ze,Zd]at a2;rw[ha]at a2;unfold ptr at*;clear h V hR ha e z hn hg;go_enter func74,ntmps74;go_wp2_with fail;refine Zy HN ?_;rintro w1 rfl;go_wp2;refine bodyPost_ret (v:=.tuple #[]) (by simp[results,Tryz.results74,go_sem]) rfl ⟨rfl,E.o _ (Zg _ _)⟩
 |false=>
  have HW:Hi (d.wake now len=⟨d.run.start now d.got,d.got,true,(d.run.start now d.got).elig d.got,(d.run.start now d.got).reach (min (d.got+Xr len) Xw)⟩):=O (by unfold Ju.wake;rw[if_neg (by rw[ha];exact Bool.false_ne_true)]);have HS:=O (fun w'(hc:Qc Qb w w')=>Rv (runP.aB hR hc (Jl.none G)) (by omega) now d.got hw (by omega));have R:Hi ((d.run.start now d.got).l.length<549755813888):=O (by rw[Gj];exact hn);have HB:Hi (Qh w b #[ptr p,.int .u64 d.got,.bool false,.int .u64 d.elig,.int .u64 d.due] 150):=O (by unfold Fs at V;rw[ha]at V;exact V);have J:=O hG;have I:=O hg;obtain⟨g,ae⟩:=Zx (d.got);rw[←ae]at HW HS R HB I;obtain⟨a0,a1,a2,a3,a4⟩:=Ym HB.o;unfold ptr at*;clear h V hR ha z hn hg hG ae;go_enter func74,ntmps74;go_wp2_with fail;refine Zy HN ?_;rintro w1 rfl;go_wp2_with fail;clear a0 a1 a2 a3 a4;have E1:=fun x=>Ym (Qk (S:=Qb) HB.o (fun h=>h) x);refine Qu [] [0,1,2,3,4,5,6,7,8,9] [] [10] (Qz (Qb) (w)) Zq (by kernel_rfl) (fun _ _ _ _ _ h=>h) (Qd (Zj (Zg _ _))) ?_;simp only[pick,Zf,Ze,Zd];refine Qg ?_;iterate 10 (refine Ql (fun K hK=>?_);go_simp;refine hK _ ?_;clear hK K)
  refine Qg ?_;intro _ aj;obtain⟨xo,ag⟩:=aj;subst ag;simp only[Jd];have U:=O (Qv Qb w xo);generalize Qz Qb w xo=w1 at U⊢;clear E1;go_wp2_with fail;refine Zz (HS.o _ U.o) ?_;rintro w2⟨ac,c2⟩;have ab:¬G b:=fun h=>(J.o _ h).2 rfl;have B2:=O (c2.blk (U.o.blk HB.o (fun h=>h)) ab);have C2:=O c2;have R2:=O ac;obtain⟨a0,a1,a2,a3,a4⟩:=Ym B2.o;have f2:=B2.o.frozen;clear c2 ac ab HS;go_upto_region 3 with fail;obtain⟨w3,u⟩:=Zx (w2.setCell ⟨b,2,none⟩ (.bool true));have C3:Hi (Qc (fun k=>k=b) w2 w3):=O (by rw[u];exact(Zg _ _).setCell (a:=⟨b,2,none⟩) _ (.inl rfl));have B3:Hi (Qh w3 b #[.pointer (some ⟨p,0,none⟩),.int .u64 g,.bool true,.int .u64 d.elig,.int .u64 d.due] 150):=O (by rw[u];exact B2.o.set' 2 _ rfl);have B:Jl (Qn G w1 w2) (fun k=>k=b):=by
   rintro k q rfl;rcases q with q|q;·exact(J.o _ q).2 rfl
   ·have:=H.o.bd k H.o.own;have:=U.o.size;omega
  have HD:=O B;rw[←u];have HA:=O (Qgg w3);unfold Qm0 at HA;clear u B a0 a1 a2 a3 a4 f2;go_wp2_with fail;refine Zy HA ?_;intro w4 c4;obtain⟨s,hs⟩:=Zx (w4.heap.size);obtain⟨w5,c⟩:=Zx (w4.alloc (.cells #[.func (.func 191) #[] #[],.func (.func 193) #[] #[]] 177));have C5:Hi (Qc Qb w3 w5):=O (by rw[c];exact c4.alloc _);have S5:Hi (Qh w5 s #[.func (.func 191) #[] #[],.func (.func 193) #[] #[]] 177):=O (by rw[c,hs];exact Qh.new _ _ _);have af:s≠b:=by have:=B3.o.lt;have:=c4.size;omega
  have ai:=O af;have A1:=O (Qcu len (C5.o.blk B3.o (fun h=>h)) (runP.aB (runP.aB R2.o C3.o HD.o) C5.o (Jl.none _)) R.o I.o);obtain⟨s0,s1⟩:=Q4 (show Qh (w4.alloc (.cells #[.func (.func 191) #[] #[],.func (.func 193) #[] #[]] 177)) s _ _ from c▸S5.o);unfold ptr at A1;clear c4 af;go_wp2_with fail;rw[←hs,←c];refine Zy A1 ?_;rintro w6⟨Z,c6⟩;have B6:=O Z;have C6:=O c6;have S6:=O (c6.blk S5.o ai.o);have A2:=O (By len Z (runP.aB (runP.aB (runP.aB R2.o C3.o HD.o) C5.o (Jl.none _)) c6 HD.o) R.o I.o);obtain⟨t0,t1⟩:=Q4 S6.o;unfold ptr at A2;clear Z c6 s0 s1 hs c A1;go_wp2_with fail;refine Zy A2 ?_;rintro w7⟨aa,c7⟩;have E:Hi (Ye w7 (Qn F w w7) b (d.wake now len)∧Qc F w w7):=O (by
   rw[HW.o];refine H.o.made (w1:=w2) (p:=p) (G:=G) J.o runP (U.o.none.aA C2.o) ?_ (((C3.o.aA C5.o.none).aA C6.o).aA c7) aa;exact runP.more R2.o (fun k q=>q.elim .inl (fun q=>.inr ⟨Zp U.o.size q.1,q.2⟩)) (ah.o.ext (U.o.none.aA C2.o)))
  clear aa c7 t0 t1;go_wp2;refine bodyPost_end (by simp[*,results,Tryz.results74,go_sem]) rfl ⟨rfl,E.o⟩
theorem Qgw{w}{F:Fp}{b:Nat}{d:Ju}(h:Ye w F b d)(hn:d.run.l.length<549755813888)(hg:d.got≤Xw)(rule:Nat)(len c:Int):
  Cl 97 #[ptr b,.int .u8 rule,.int .i64 len,.int .i64 c] w fun e w'=>e=.returned (.tuple #[])∧Ye w' (Qn F w w') b (d.serve rule len c)∧Qc F w w':=by
 have H:=O h;have I:=O (Li h);obtain⟨p,G,hB,hR,hG⟩:=h.ex;have aa:=Yz;cases ha:d.aL with
 |false=>
  rw[ha]at I;have e:d.serve rule len c=d:=by unfold Ju.serve;rw[if_pos (by rw[ha];rfl)]
  have E:=O (fun w'(hc:Qc Qb w w')=>Ye.obj.same H.o hc);rw[e];unfold ptr at*;clear h hB hR ha e aa hn hg;go_enter func97,ntmps97;go_wp2_with fail;refine Zy I ?_;rintro w1 rfl;go_wp2;refine bodyPost_ret (v:=.tuple #[]) (by simp[results,Tryz.results97,go_sem]) rfl ⟨rfl,E.o _ (Zg _ _)⟩
 |true=>
  rw[ha]at I;have HR:=O (fun w'(hc:Qc Qb w w')=>runP.aB hR hc (Jl.none G));have ag:=O hR;have ab:=O hn;have HB:Hi (Qh w b #[ptr p,.int .u64 d.got,.bool true,.int .u64 d.elig,.int .u64 d.due] 150):=O (by unfold Fs at hB;rw[ha]at hB;exact hB);have af:=O hG;have ae:=O hg;have am:=Wt len;obtain⟨g,U⟩:=Zx (d.got);rw[←U]at HB ae;have HG:=O (fun w=>Qrm len w);have HD:Hi (Jl G (fun k=>k=b)):=O (fun k hk e=>(hG k hk).2 e);have HA:=O (Qgg w);unfold Qm0 at HA;obtain⟨J,aj⟩:=Zx (min (g+Xr len) Xw);have Z:Hi (J≤Xw):=O (by omega);have hs:IntKind.u64.wrap ((g:Int)+(Xr len:Int))=((g+Xr len:Nat):Int):=by rw[U,IntWalk.u64_in _ (by omega)];omega
  have an:min ((g+Xr len:Nat):Int) 4611686018427387904=(J:Int):=by omega
  have B:Hi (d.serve rule len c=⟨d.run,if rule=1 then J else g,decide (1≤c),if rule=1 then d.run.elig (if rule=1 then J else g)else d.elig,d.run.reach (min ((if rule=1 then J else g)+Xr c) Xw)⟩):=O (by unfold Ju.serve;rw[if_neg (by rw[ha];simp),aj,U]);generalize g+Xr len=z at hs an;generalize Xr len=u at HG hs;have hm:=fun(ts:Array TypeId)t k a b(w)=>X8 (P:=prog) ts t k a b w;unfold ptr at*;clear h hB hR ha aa hn hg hG U am aj;go_enter func97,ntmps97;go_wp2_with fail;refine Zy I ?_;rintro w1 rfl;go_wp2_with fail;refine Zy HA ?_;intro w4 c4;obtain⟨s,ac⟩:=Zx (w4.heap.size);obtain⟨w5,V⟩:=Zx (w4.alloc (.cells #[.func (.func 191) #[] #[],.func (.func 193) #[] #[]] 177));have C0:Hi (Qc Qb w w5):=O (by rw[V];exact c4.alloc _);have S5:Hi (Qh w5 s #[.func (.func 191) #[] #[],.func (.func 193) #[] #[]] 177):=O (by rw[V,ac];exact Qh.new _ _ _);have ak:s≠b:=by have:=HB.o.lt;have:=c4.size;omega
  have ah:=O ak;have B5:=O (C0.o.blk HB.o (fun h=>h));clear c4 ak I HA;go_upto_region 2 with fail;rw[←ac,←V];clear ac V;by_cases hr:rule=1
  ·subst hr;rw[if_pos rfl,if_pos rfl]at B;have HW:=B;clear B;have E1:=fun x=>Ym (Qk (S:=Qb) B5.o (fun h=>h) x);go_wp2_with fail;refine Qu [] [0,1,2,3,4,5] [6,7,8] [9,10,11] (Qz (Qb) (w5)) Zq (by kernel_rfl) (fun _ _ _ _ _ h=>h) (Qd (Zj (Zg _ _))) ?_;simp only[pick,Zf,Ze,Zd];refine Qg ?_;iterate 6 (refine Ql (fun K hK=>?_);go_simp;refine hK _ ?_;clear hK K)
   refine Qg ?_;intro _ ap;obtain⟨xo,al⟩:=ap;subst al;simp only[Jd];have c1:=O (Qv Qb w5 xo);generalize Qz Qb w5 xo=w6 at c1⊢;clear E1;go_wp2_with fail;refine Zz (HG.o _) ?_;rintro w7 rfl;go_wp2;refine⟨Qd c1.o,?_⟩;go_wp2;refine⟨Qd c1.o,?_⟩;go_wp2;refine⟨Qd c1.o,?_⟩;have B6:=O (c1.o.blk B5.o (fun h=>h));have f6:=B6.o.frozen;obtain⟨a0,a1,a2,a3,a4⟩:=Ym B6.o;obtain⟨w8,R⟩:=Zx (w6.setCell ⟨b,1,none⟩ (.int .u64 J));have C8:Hi (Qc (fun k=>k=b) w5 w8):=O (by rw[R];exact c1.o.none.setCell (a:=⟨b,1,none⟩) _ (.inl rfl));have B8:Hi (Qh w8 b #[.pointer (some ⟨p,0,none⟩),.int .u64 J,.bool true,.int .u64 d.elig,.int .u64 d.due] 150):=O (by rw[R];exact B6.o.set' 1 _ rfl);have S8:=O (C8.o.blk S5.o ah.o);have A1:=O (Qcu c B8.o (runP.aB (HR.o _ C0.o) C8.o HD.o) ab.o Z.o);obtain⟨s0,s1⟩:=Q4 (show Qh (w6.setCell ⟨b,1,none⟩ (.int .u64 J)) s _ _ from R▸S8.o);unfold ptr at A1;go_wp2_with fail;rw[←R];refine Zy A1 ?_;rintro w9⟨ai,c9⟩;have B9:=O ai;have C9:=O (C8.o.aA c9);have S6:=O (c9.blk S8.o ah.o);clear ai c9 s0 s1 R A1 a0 a1 a2 a3 a4 f6;have A2:=O (By c B9.o (runP.aB (HR.o _ C0.o) C9.o HD.o) ab.o Z.o);obtain⟨t0,t1⟩:=Q4 S6.o;unfold ptr at A2;go_wp2_with fail;refine Zy A2 ?_;rintro w7⟨q,c7⟩;have B7:=O q;obtain⟨a0,a1,a2,a3,a4⟩:=Ym q;have f7:=q.frozen;have E:Hi (Ye (w7.setCell ⟨b,2,none⟩ (.bool (decide (1≤c)))) (Qn F w (w7.setCell ⟨b,2,none⟩ (.bool (decide (1≤c))))) b (d.serve 1 len c)∧Qc F w (w7.setCell ⟨b,2,none⟩ (.bool (decide (1≤c))))):=O (by
    rw[HW.o];exact H.o.cell (p:=p) (G:=G) (x':=⟨d.run,J,decide (1≤c),d.run.elig J,d.run.reach (min (J+Xr c) Xw)⟩) ag.o af.o runP ((((C0.o.none.aA C9.o).aA c7).setCell (a:=⟨b,2,none⟩) _ (.inl rfl))) (q.set' 2 _ rfl))
   have ao:decide (c≥1)=decide (1≤c):=rfl;clear q c7 t0 t1;go_wp2;refine bodyPost_end (by simp[*,results,Tryz.results97,go_sem]) rfl ⟨rfl,E.o⟩
  ·rw[if_neg hr,if_neg hr]at B;have HW:=B;clear B;have aq:((rule:Int)==1)=false:=by simp;omega
   have S6:=S5;have C9:Hi (Qc (fun k=>k=b) w5 w5):=O (Zg _ _);obtain⟨s0,s1⟩:=Q4 S5.o;clear hr;have A2:=O (By c B5.o (runP.aB (HR.o _ C0.o) C9.o HD.o) ab.o ae.o);obtain⟨t0,t1⟩:=Q4 S6.o;unfold ptr at A2;go_wp2_with fail;refine Zy A2 ?_;rintro w7⟨q,c7⟩;have B7:=O q;obtain⟨a0,a1,a2,a3,a4⟩:=Ym q;have f7:=q.frozen;have E:Hi (Ye (w7.setCell ⟨b,2,none⟩ (.bool (decide (1≤c)))) (Qn F w (w7.setCell ⟨b,2,none⟩ (.bool (decide (1≤c))))) b (d.serve rule len c)∧Qc F w (w7.setCell ⟨b,2,none⟩ (.bool (decide (1≤c))))):=O (by
    rw[HW.o];exact H.o.cell (p:=p) (G:=G) (x':=⟨d.run,g,decide (1≤c),d.elig,d.run.reach (min (g+Xr c) Xw)⟩) ag.o af.o runP ((((C0.o.none.aA C9.o).aA c7).setCell (a:=⟨b,2,none⟩) _ (.inl rfl))) (q.set' 2 _ rfl))
   have ao:decide (c≥1)=decide (1≤c):=rfl;clear q c7 t0 t1;go_wp2;refine bodyPost_end (by simp[*,results,Tryz.results97,go_sem]) rfl ⟨rfl,E.o⟩
end
section
attribute [local go_sem] Qp
def Dd:Value:=.func (.func 177) #[] #[]
def Vv:Value:=.func (.func 178) #[] #[]
def Yo(n:Nat)(i:Int):Value:=.agg #[.int .u64 n,.int .i64 i]
def Tr.aH:Tr→Value
 | .nil=>.pointer none
 | .aD x _ _ _=>.pointer (some ⟨x.a,0,none⟩)
def It(x:Nd)(c:Bool)(p q:Value):Array Value:=#[.int .u64 x.n,.int .i64 x.i,.int .u64 x.v,.int .u64 x.sv,.int .i64 x.si,.bool c,p,q]
def Qgc(w:World)(b:Nat):Prop:=∃(p:Value)(n:Int),Qh w b #[Dd,Vv,p,.int .i64 n] 254
def Jw(w:World):Tr→Prop
 | .nil=>True
 | .aD x c l r=>Qh w x.a (It x c l.aH r.aH) 258∧Jw w l∧Jw w r
structure Kc(w:World)(b:Nat)(t:Tr):Prop where
 top:Qgc w b
 nd:(b::t.aC).Nodup
 at':Jw w t
theorem Jw.aB{w w'}{S:Fp}(hc:Qc S w w'):∀(t:Tr),Jw w t→(∀a∈t.aC,¬S a)→Jw w' t
 | .nil,_,_=>trivial
 | .aD x c l r,⟨h1,h2,h3⟩,hS=>⟨hc.blk h1 (hS x.a (by simp[Tr.aC])),Jw.aB hc l h2 (fun a ha=>hS a (by simp[Tr.aC,ha])),Jw.aB hc r h3 (fun a ha=>hS a (by simp[Tr.aC,ha]))⟩
theorem Jw.lt{w}:∀(t:Tr),Jw w t→∀a∈t.aC,a<w.heap.size
 | .nil,_,a,h=>by simp[Tr.aC]at h
 | .aD x c l r,⟨h1,h2,h3⟩,a,h=>by
  simp only[Tr.aC,Zl,Zu]at h;rcases h with h|rfl|h;·exact Jw.lt l h2 a h
  ·exact h1.lt
  ·exact Jw.lt r h3 a h
theorem Qgc.aB{w w'}{S:Fp}{b:Nat}(h:Qgc w b)(hc:Qc S w w')(c:¬S b):Qgc w' b:=by obtain⟨p,n,h⟩:=h;exact⟨p,n,hc.blk h c⟩
theorem Kc.aB{w w'}{S:Fp}{b:Nat}{t:Tr}(h:Kc w b t)(hc:Qc S w w')(c:∀a∈b::t.aC,¬S a):Kc w' b t:=
 ⟨h.top.aB hc (c b (List.mem_cons_self)),h.nd,Jw.aB hc t h.at' fun a ha=>c a (Zr _ ha)⟩
theorem Su(n:Nat)(i:Int)(v:Nat)(w):Cl 177 #[Yo n i,.int .u64 v] w fun e w'=>e=.returned (.agg #[.int .u64 v,.int .i64 i])∧Qc Qb w w':=by
 unfold Yo;go_enter func177,ntmps177;go_wp2;refine bodyPost_ret (v:=.agg #[.int .u64 v,.int .i64 i]) ?_ rfl ⟨rfl,?_⟩;·simp[*,results,Tryz.results177,go_sem]
 ·exact Zh (Zh (Zg _ _) _) _
section
theorem Qfm(a b c d:Int)(w):(binOp .eql 201 (.agg #[.int .u64 a,.int .i64 b]) (.agg #[.int .u64 c,.int .i64 d])).run prog w=.ok (.bool ((a==c)&&(b==d))) w:=by
 by_cases h:a=c
 ·by_cases k:b=d;·subst h k;go_simp
  ·subst h;have e:(a==a&&b==d)=false:=by simpa using k
   rw[e];go_simp;try simp[k]
 ·have e:(a==c&&b==d)=false:=by simp[h]
  rw[e];go_simp;try simp[h]
end
attribute [local go_sem ↓] Qfm
theorem Qkt(a b:Nat×Int):(a=b∧Xn a b=a)∨(a≠b∧a.1<b.1∧Xn a b=a)∨(a≠b∧a.1=b.1∧a.2<b.2∧Xn a b=a)∨(a.1=b.1∧b.2<a.2∧Xn a b=b)∨(b.1<a.1∧Xn a b=b):=by
 obtain⟨a1,d⟩:=a;obtain⟨b1,b2⟩:=b;unfold Xn;by_cases h:(a1,d)=(b1,b2);·exact .inl ⟨h,if_pos (.inl h)⟩
 ·by_cases h1:a1<b1;·exact .inr (.inl ⟨h,h1,if_pos (.inr (.inl h1))⟩)
  ·by_cases c:a1=b1
   ·by_cases k:d<b2;·exact .inr (.inr (.inl ⟨h,c,k,if_pos (.inr (.inr ⟨c,k⟩))⟩))
    ·refine .inr (.inr (.inr (.inl ⟨c,?_,if_neg (by simp only[not_or];exact⟨h,h1,fun h=>k h.2⟩)⟩)));have:d≠b2:=fun e=>h (by rw[c,e]);dsimp only;omega
   ·exact .inr (.inr (.inr (.inr ⟨by dsimp only;omega,if_neg (by simp only[not_or];exact⟨h,h1,fun h=>c h.1⟩)⟩)))
theorem Qag(a b:Nat×Int)(w):Cl 178 #[.agg #[.int .u64 a.1,.int .i64 a.2],.agg #[.int .u64 b.1,.int .i64 b.2]] w fun e w'=>e=.returned (.agg #[.int .u64 ((Xn a b).1:Int),.int .i64 (Xn a b).2])∧Qc Qb w w':=by
 rcases Qkt a b with⟨h,e⟩|⟨h,h1,e⟩|⟨h,h1,k,e⟩|⟨h1,k,e⟩|⟨h1,e⟩;all_goals
  rw[e];clear e;obtain⟨a1,c⟩:=a;obtain⟨b1,b2⟩:=b;dsimp only at*
 ·obtain⟨rfl,rfl⟩:a1=b1∧c=b2:=by simpa using h
  have d:((a1:Int)==(a1:Int))=true:=by simp
  have u:(c==c)=true:=by simp
  clear h;generalize(a1:Int)=x at*;go_enter func178,ntmps178;go_wp2;refine bodyPost_ret (v:=.agg #[.int .u64 x,.int .i64 c]) ?_ rfl ⟨rfl,?_⟩;·simp[*,results,Tryz.results178,go_sem]
  ·exact Zh (Zh (Zh (Zg _ _) _) _) _
 ·have d:((a1:Int)==(b1:Int))=false:=by simp;omega
  have q:decide ((a1:Int)<(b1:Int))=true:=by simp;omega
  clear h h1;generalize(a1:Int)=x at*;generalize(b1:Int)=y at*;go_enter func178,ntmps178;go_wp2;refine bodyPost_ret (v:=.agg #[.int .u64 x,.int .i64 c]) ?_ rfl ⟨rfl,?_⟩;·simp[*,results,Tryz.results178,go_sem]
  ·exact Zh (Zh (Zh (Zg _ _) _) _) _
 ·subst h1;have d:((a1:Int)==(a1:Int))=true:=by simp
  have u:(c==b2)=false:=by simp;omega
  have q:decide ((a1:Int)<(a1:Int))=false:=by simp
  have z:decide (c<b2)=true:=by simpa using k
  clear h k;generalize(a1:Int)=x at*;go_enter func178,ntmps178;go_wp2;refine bodyPost_ret (v:=.agg #[.int .u64 x,.int .i64 c]) ?_ rfl ⟨rfl,?_⟩;·simp[*,results,Tryz.results178,go_sem]
  ·exact Zh (Zh (Zh (Zg _ _) _) _) _
 ·subst h1;have d:((a1:Int)==(a1:Int))=true:=by simp
  have u:(c==b2)=false:=by simp;omega
  have q:decide ((a1:Int)<(a1:Int))=false:=by simp
  have z:decide (c<b2)=false:=by simp;omega
  clear k;generalize(a1:Int)=x at*;go_enter func178,ntmps178;go_wp2;refine bodyPost_ret (v:=.agg #[.int .u64 x,.int .i64 b2]) ?_ rfl ⟨rfl,?_⟩;·simp[*,results,Tryz.results178,go_sem]
  ·exact Zh (Zh (Zh (Zg _ _) _) _) _
 ·have d:((a1:Int)==(b1:Int))=false:=by simp;omega
  have q:decide ((a1:Int)<(b1:Int))=false:=by simp;omega
  clear h1;generalize(a1:Int)=x at*;generalize(b1:Int)=y at*;go_enter func178,ntmps178;go_wp2;refine bodyPost_ret (v:=.agg #[.int .u64 y,.int .i64 b2]) ?_ rfl ⟨rfl,?_⟩;·simp[*,results,Tryz.results178,go_sem]
  ·exact Zh (Zh (Zh (Zg _ _) _) _) _
theorem Cx{P:Program}(w)(d:Nat)(t:TypeId)(ps q:Array TypeId)(u:Bool)(h:P.underlying t=some (.func ps q u))(k:Fn)(c e:Array Value):(Op.equalIn (d+1) t (.func k c e) .nilFunc).run P w=.ok false w:=by simp[Op.equalIn,run_underlying h]
theorem Pf{P:Program}(w)(t:TypeId)(ps q:Array TypeId)(u:Bool)(h:P.underlying t=some (.func ps q u))(k:Fn)(c d:Array Value):(binOp .eql t (.func k c d) .nilFunc).run P w=.ok (.bool false) w:=by simp only[binOp];simp[Op.equal,Op.maxDepth,Cx w 9999 t ps q u h k c d]
theorem Ds(k:Fn)(c d:Array Value)(w):(binOp .eql 232 (.func k c d) .nilFunc).run prog w=.ok (.bool false) w:=Pf w _ _ _ _ underlying232 k c d
theorem Oy(k:Fn)(c d:Array Value)(w):(binOp .eql 233 (.func k c d) .nilFunc).run prog w=.ok (.bool false) w:=Pf w _ _ _ _ underlying233 k c d
attribute [local go_sem] Ds Oy
theorem Od{w}{b:Nat}(h:Qgc w b):Cl 209 #[ptr b] w fun e w'=>e=.returned (.bool false)∧w=w':=by obtain⟨p,n,h⟩:=h;obtain⟨c,a1,d,k⟩:=X9 h;unfold ptr Dd Vv at*;clear h;go_enter func209,ntmps209;go_wp2;go_ret;exact⟨rfl,rfl⟩
theorem Kf{w}(t:Tr)(h:Jw w t):Cl 235 #[t.aH] w fun e w'=>e=.returned (.bool t.red)∧w=w':=by
 cases t with
 |nil=> unfold Tr.aH;go_enter func235,ntmps235;go_wp2;go_ret;exact⟨rfl,rfl⟩
 |aD x c l r=> obtain⟨d,a1,k,q,u,z,B,E⟩:=Ja h.1;unfold Tr.aH Tr.red;dsimp only;clear h;go_enter func235,ntmps235;go_wp2;go_ret;exact⟨rfl,rfl⟩
theorem Qu2(n:Nat)(i:Int)(x:Nd):(n<x.n∧lt n i x=true)∨(n=x.n∧i<x.i∧lt n i x=true)∨(n=x.n∧¬i<x.i∧lt n i x=false)∨(x.n<n∧lt n i x=false):=by
 unfold lt;by_cases h1:n<x.n;·exact .inl ⟨h1,by simp[h1]⟩
 ·by_cases c:n=x.n
  ·by_cases d:i<x.i;·exact .inr (.inl ⟨c,d,by simp[c,d]⟩)
   ·exact .inr (.inr (.inl ⟨c,d,by simp[c,d]⟩))
  ·exact .inr (.inr (.inr ⟨by omega,by simp[h1,c]⟩))
theorem Gu(n:Nat)(i:Int)(x:Nd)(w):Cl 229 #[Yo n i,Yo x.n x.i] w fun e w'=>e=.returned (.bool (lt n i x))∧Qc Qb w w':=by
 have H:=Qu2 n i x;generalize lt n i x=q at*;generalize x.n=m at*;generalize x.i=j at*;unfold Yo;rcases H with⟨h,rfl⟩|⟨h,c,rfl⟩|⟨h,c,rfl⟩|⟨h,rfl⟩
 ·have d:decide ((n:Int)<(m:Int))=true:=by simp;omega
  clear h;generalize(n:Int)=n at*;generalize(m:Int)=m at*;go_enter func229,ntmps229;go_wp2;go_ret;refine⟨rfl,?_⟩;exact Zh (Zh (Zg _ _) _) _
 ·subst h;have d:decide ((n:Int)<(n:Int))=false:=by simp
  have k:((n:Int)==(n:Int))=true:=by simp
  have u:decide (i<j)=true:=by simpa using c
  clear c;generalize(n:Int)=n at*;go_enter func229,ntmps229;go_wp2;go_ret;refine⟨rfl,?_⟩;exact Zh (Zh (Zg _ _) _) _
 ·subst h;have d:decide ((n:Int)<(n:Int))=false:=by simp
  have k:((n:Int)==(n:Int))=true:=by simp
  have u:decide (i<j)=false:=by simpa using c
  clear c;generalize(n:Int)=n at*;go_enter func229,ntmps229;go_wp2;go_ret;refine⟨rfl,?_⟩;exact Zh (Zh (Zg _ _) _) _
 ·have d:decide ((n:Int)<(m:Int))=false:=by simp;omega
  have k:((n:Int)==(m:Int))=false:=by simp;omega
  clear h;generalize(n:Int)=n at*;generalize(m:Int)=m at*;go_enter func229,ntmps229;go_wp2;go_ret;refine⟨rfl,?_⟩;exact Zh (Zh (Zg _ _) _) _
end
section
attribute [local go_sem] Qp
def Y4(s:Nat×Int):Array Value:=#[.int .u64 s.1,.int .i64 s.2]
theorem Qoz(a b:Nat×Int)(w):Cl 178 #[.agg (Y4 a),.agg (Y4 b)] w fun e w'=>e=.returned (.agg (Y4 (Xn a b)))∧Qc Qb w w':=Qag a b w
theorem El{w}{b:Nat}{x:Nd}{c:Bool}{p q:Value}{n:Int}{pp:Value}(hT:Qh w b #[Dd,Vv,pp,.int .i64 n] 254)(hX:Qh w x.a (It x c p q) 258)(l r:Tr)(hp:p=l.aH)(hq:q=r.aH)(hl:Jw w l)(hr:Jw w r):
  Cl 260 #[ptr b,ptr x.a] w fun e w'=>e=.returned (.agg (Y4 (Pr x l r)))∧Qc Qb w w':=by
 have HO:=O (fun w=>Su x.n x.i x.v w);have HL:=O (fun w y z=>Qoz y z w);obtain⟨s,ae⟩:=Zx (w.heap.size);have S0:=O (Qh.new w #[.int .u64 0,.int .i64 0] 201);have C0:=O ((Zg Qb w).alloc (.cells #[.int .u64 0,.int .i64 0] 201));have T0:=O (hT.alloc (.cells #[.int .u64 0,.int .i64 0] 201));have X0:=O (hX.alloc (.cells #[.int .u64 0,.int .i64 0] 201));have TL:=O (fun w'(h:Qc Qb w w')=>Jw.aB h l hl (fun _ _ h=>h));have TR:=O (fun w'(h:Qc Qb w w')=>Jw.aB h r hr (fun _ _ h=>h));simp only[←ae]at S0;have ao:=hT.lt;have ap:=hX.lt;have am:=O (Jw.lt r hr);unfold ptr Yo at*;clear hl hr hT hX;go_enter func260,ntmps260;go_wp2;rw[←ae];obtain⟨W,hW⟩:=Zx (w.alloc (.cells #[.int .u64 0,.int .i64 0] 201));rw[←hW]at S0 C0 T0 X0⊢;have HS:=O ae;clear hW ae;dsimp only[It,Dd,Vv]at T0 X0;have af:=O (fun(w')(h:Qc Qb W w')=>(⟨(X9 (h.blk T0.o (fun h=>h))).1,(Ja (h.blk X0.o (fun h=>h))).1,(Ja (h.blk X0.o (fun h=>h))).2.1,(Ja (h.blk X0.o (fun h=>h))).2.2.1⟩:w'.cell? ⟨b,0,none⟩=some (.func (.func 177) #[] #[])∧w'.cell? ⟨x.a,0,none⟩=some (.int .u64 x.n)∧w'.cell? ⟨x.a,1,none⟩=some (.int .i64 x.i)∧w'.cell? ⟨x.a,2,none⟩=some (.int .u64 x.v)));go_wp2;go_cut [5] (fun s5 wz=>∃q,s5=.pointer (some ⟨q,0,none⟩)∧W.heap.size≤q∧Qh wz q (Y4 (x.v,x.i)) 201∧Qc Qb W wz)
 case first=>
  go_region_held3 (fun w':World=>w'.cell? ⟨b,0,none⟩=some (.func (.func 177) #[] #[])∧w'.cell? ⟨x.a,0,none⟩=some (.int .u64 x.n)∧w'.cell? ⟨x.a,1,none⟩=some (.int .i64 x.i)∧w'.cell? ⟨x.a,2,none⟩=some (.int .u64 x.v)) (exact af.o _ (by(repeat' (first|(with_reducible first|exact Zg _ _|assumption|refine Zh ?_ _|refine Zi ?_ _|refine Zj ?_|refine Zk ?_ _ ?_|(apply Or.inl;rfl))|(apply Or.inl;simp;done)|(apply Or.inr;simp;first|done|omega))))) (first|(go_at_call 177;with_reducible refine(HO.o _).mono ?_;rintro e w2⟨rfl,d2⟩;have c2:Qc Qb W w2:=Qc.aA (by(repeat' (first|(with_reducible first|exact Zg _ _|assumption|refine Zh ?_ _|refine Zi ?_ _|refine Zj ?_|refine Zk ?_ _ ?_|(apply Or.inl;rfl))|(apply Or.inl;simp;done)|(apply Or.inr;simp;first|done|omega)))) d2;have z2:=c2.size;(try(first|have g2:=d2.blk (Qh.new _ #[.int .u64 0,.int .i64 0] 201) (fun h=>h)|have g2:=d2.blk (Qh.new _ #[.int .u64 0,.int .i64 0] 201).drew (fun h=>h));obtain⟨u2,v2⟩:=Q4 g2;have f2:=g2.frozen);clear d2));all_goals go_wp2_with fail
  all_goals go_meet
  all_goals refine⟨_,rfl,?_,?_,?_⟩
  all_goals first|exact(g2.set' 0 _ rfl).set' 1 _ rfl|exact Qh.new _ _ _|skip
  all_goals first|omega|skip
  all_goals(repeat' (first|(with_reducible first|exact Zg _ _|assumption|refine Zh ?_ _|refine Zi ?_ _|refine Zj ?_|refine Zk ?_ _ ?_|(apply Or.inl;rfl))|(apply Or.inl;simp;done)|(apply Or.inr;simp;first|done|omega)))
 case rest=>
  obtain⟨B,rfl,aj,ag,J⟩:=hcut;obtain⟨W1,hW1⟩:=Zx wc;rw[←hW1]at ag J⊢;clear hW1 af HO;have T1:=O (J.blk T0.o (fun h=>h));have X1:=O (J.blk X0.o (fun h=>h));have S1:=O (J.blk S0.o (fun h=>h));have C1:=O (C0.o.aA J);have Q1:=O ag;have ah:s<B:=Nat.lt_of_lt_of_le S0.o.lt aj;have d:=O ah;have ab:=O (show w.heap.size<B from HS.o▸ah);have al:=O (show¬b=B by have:=ao;have:=ab.o;omega);have aa:=O (show¬x.a=B by have:=ap;have:=ab.o;omega);have ac:=O (show s=w.heap.size from HS.o);clear ag J ah aj T0 X0 S0 C0 HS;subst hp hq;cases l with
  |nil=>
   cases r with
   |nil=>
    unfold Tr.aH at*;obtain⟨V,a1,Z,a3,a4,a5,a6,a7⟩:=Ja X1.o;obtain⟨y0,y1⟩:=Q4 Q1.o;obtain⟨y2,y3⟩:=Q4 S1.o;have y4:=S1.o.frozen;have n1:¬s=B:=by have:=d.o;omega
    have n2:¬B=s:=by have:=d.o;omega
    go_wp2;refine bodyPost_ret (v:=.agg (Y4 ((x.v,x.i)))) ?_ rfl ⟨rfl,?_⟩;·simp[*,results,Tryz.results260,go_sem,Y4]
    ·have cw:=C1.o;have ai:=ac.o;clear y0 y1 y2 y3 y4 n1 n2;exact Zk (Zk cw _ (.inr (by simp;first|done|omega))) _ (.inr (by simp;first|done|omega))
   |aD z zc zl zr=>
    have R1:=O ((TR.o _ C1.o).1);unfold Tr.aH at*;dsimp only[Y4,It]at*;obtain⟨V,a1,Z,a3,a4,a5,a6,a7⟩:=Ja X1.o;have E1:=fun x=>X9 (Qk (S:=Qb) T1.o (fun h=>h) x);have E2:=fun x=>Ja (Qk (S:=Qb) X1.o (fun h=>h) x);have E3:=fun x=>Ja (Qk (S:=Qb) R1.o (fun h=>h) x);have E4:=fun x=>Q4 (Qk (S:=Qb) Q1.o (fun h=>h) x);go_wp2;refine Qu [] [0,1,2,3,4,5,6,7,8,9,10,11] [12] [13] (Qz (Qb) (W1)) Zq (by kernel_rfl) (fun _ _ _ _ _ h=>h) (Qd (Zj (Zg _ _))) ?_;simp only[pick,Zf,Ze,Zd];refine Qg ?_;iterate 12 (refine Ql (fun K hK=>?_);go_simp;refine hK _ ?_;clear hK K)
    refine Qg ?_;intro _ I;obtain⟨xo,E⟩:=I;subst E;simp only[Jd];have c3:=O (Qv Qb W1 xo);generalize Qz Qb W1 xo=U1 at c3⊢;clear E1 E2 E3 E4 V a1 Z a3 a4 a5 a6 a7;go_wp2_with fail;with_reducible refine Zz (HL.o _ (x.v,x.i) (z.sv,z.si)) ?_
    intro Y1 d3;have u:=O (c3.o.aA d3);have R:=O (u.o.blk Q1.o (fun h=>h));obtain⟨y1,y2⟩:=Q4 R.o;have y3:=R.o.frozen;clear d3;dsimp only[Y4];go_wp2;refine⟨Qd u.o,?_⟩;have U:=O (u.o.blk S1.o (fun h=>h));obtain⟨y5,y6⟩:=Q4 U.o;have y7:=U.o.frozen;have n1:¬s=B:=by have:=d.o;omega
    have n2:¬B=s:=by have:=d.o;omega
    go_wp2;refine bodyPost_ret (v:=.agg (Y4 (Xn (x.v,x.i) (z.sv,z.si)))) ?_ rfl ⟨rfl,?_⟩;·simp[*,results,Tryz.results260,go_sem,Y4]
    ·have cw:=C1.o.aA u.o;have ai:=ac.o;have ak:=d.o;clear y1 y2 y3 y5 y6 y7 n1 n2;exact Zk (Zk (Zk (Zk cw _ (.inr (by simp;first|done|omega))) _ (.inr (by simp;first|done|omega))) _ (.inr (by simp;first|done|omega))) _ (.inr (by simp;first|done|omega))
  |aD y yc yl yr=>
   have L1:=O ((TL.o _ C1.o).1);cases r with
   |nil=>
    unfold Tr.aH at*;dsimp only[Y4,It]at*;obtain⟨V,a1,Z,a3,a4,a5,a6,a7⟩:=Ja X1.o;have E1:=fun x=>X9 (Qk (S:=Qb) T1.o (fun h=>h) x);have E2:=fun x=>Ja (Qk (S:=Qb) X1.o (fun h=>h) x);have E3:=fun x=>Ja (Qk (S:=Qb) L1.o (fun h=>h) x);have E4:=fun x=>Q4 (Qk (S:=Qb) Q1.o (fun h=>h) x);go_wp2;refine Qu [] [0,1,2,3,4,5,6,7,8,9,10,11] [12] [13] (Qz (Qb) (W1)) Zq (by kernel_rfl) (fun _ _ _ _ _ h=>h) (Qd (Zj (Zg _ _))) ?_;simp only[pick,Zf,Ze,Zd];refine Qg ?_;iterate 12 (refine Ql (fun K hK=>?_);go_simp;refine hK _ ?_;clear hK K)
    refine Qg ?_;intro _ I;obtain⟨xo,E⟩:=I;subst E;simp only[Jd];have c3:=O (Qv Qb W1 xo);generalize Qz Qb W1 xo=U1 at c3⊢;clear E1 E2 E3 E4 V a1 Z a3 a4 a5 a6 a7;go_wp2_with fail;with_reducible refine Zz (HL.o _ (y.sv,y.si) (x.v,x.i)) ?_
    intro Y1 d3;have u:=O (c3.o.aA d3);have R:=O (u.o.blk Q1.o (fun h=>h));obtain⟨y1,y2⟩:=Q4 R.o;have y3:=R.o.frozen;clear d3;dsimp only[Y4];go_wp2;refine⟨Qd u.o,?_⟩;have U:=O (u.o.blk S1.o (fun h=>h));obtain⟨y5,y6⟩:=Q4 U.o;have y7:=U.o.frozen;have n1:¬s=B:=by have:=d.o;omega
    have n2:¬B=s:=by have:=d.o;omega
    obtain⟨V,a1,Z,a3,a4,a5,a6,a7⟩:=Ja (u.o.blk X1.o (fun h=>h));have n3:¬x.a=B:=aa.o;have n4:¬B=x.a:=fun h=>aa.o h.symm;go_wp2;refine bodyPost_ret (v:=.agg (Y4 (Xn (y.sv,y.si) (x.v,x.i)))) ?_ rfl ⟨rfl,?_⟩;·simp[*,results,Tryz.results260,go_sem,Y4]
    ·have cw:=C1.o.aA u.o;have ai:=ac.o;have ak:=d.o;clear n3 n4 V a1 Z a3 a4 a5 a6 a7 y1 y2 y3 y5 y6 y7 n1 n2;exact Zk (Zk (Zk (Zk cw _ (.inr (by simp;first|done|omega))) _ (.inr (by simp;first|done|omega))) _ (.inr (by simp;first|done|omega))) _ (.inr (by simp;first|done|omega))
   |aD z zc zl zr=>
    have R1:=O ((TR.o _ C1.o).1);have an:=O (show¬z.a=B from fun h=>by have:=ab.o;have:=am.o z.a (by simp[Tr.aC]);omega);unfold Tr.aH at*;dsimp only[Y4,It]at*;obtain⟨V,a1,Z,a3,a4,a5,a6,a7⟩:=Ja X1.o;have E1:=fun x=>X9 (Qk (S:=Qb) T1.o (fun h=>h) x);have E2:=fun x=>Ja (Qk (S:=Qb) X1.o (fun h=>h) x);have E3:=fun x=>Ja (Qk (S:=Qb) L1.o (fun h=>h) x);have E4:=fun x=>Q4 (Qk (S:=Qb) Q1.o (fun h=>h) x);go_wp2;refine Qu [] [0,1,2,3,4,5,6,7,8,9,10,11] [12] [13] (Qz (Qb) (W1)) Zq (by kernel_rfl) (fun _ _ _ _ _ h=>h) (Qd (Zj (Zg _ _))) ?_;simp only[pick,Zf,Ze,Zd];refine Qg ?_;iterate 12 (refine Ql (fun K hK=>?_);go_simp;refine hK _ ?_;clear hK K)
    refine Qg ?_;intro _ I;obtain⟨xo,E⟩:=I;subst E;simp only[Jd];have c3:=O (Qv Qb W1 xo);generalize Qz Qb W1 xo=U1 at c3⊢;clear E1 E2 E3 E4 V a1 Z a3 a4 a5 a6 a7;go_wp2_with fail;with_reducible refine Zz (HL.o _ (y.sv,y.si) (x.v,x.i)) ?_
    intro Y1 d3;have u:=O (c3.o.aA d3);have R:=O (u.o.blk Q1.o (fun h=>h));obtain⟨y1,y2⟩:=Q4 R.o;have y3:=R.o.frozen;clear d3;dsimp only[Y4];go_wp2;refine⟨Qd u.o,?_⟩;have U:=O (u.o.blk S1.o (fun h=>h));obtain⟨y5,y6⟩:=Q4 U.o;have y7:=U.o.frozen;have n1:¬s=B:=by have:=d.o;omega
    have n2:¬B=s:=by have:=d.o;omega
    obtain⟨V,a1,Z,a3,a4,a5,a6,a7⟩:=Ja (u.o.blk X1.o (fun h=>h));have n3:¬x.a=B:=aa.o;have n4:¬B=x.a:=fun h=>aa.o h.symm;go_wp2;clear y1 y2 y3 y5 y6 y7 n1 n2 n3 n4 V a1 Z a3 a4 a5 a6 a7;have Q2:=O ((R.o.set' 0 (.int .u64 ((Xn (y.sv,y.si) (x.v,x.i)).1:Int)) rfl).set' 1 (.int .i64 (Xn (y.sv,y.si) (x.v,x.i)).2) rfl);have D5:=O ((((Zg (fun k=>k=B) Y1).setCell (a:=⟨B,0,none⟩) (.int .u64 ((Xn (y.sv,y.si) (x.v,x.i)).1:Int)) (.inl rfl)).setCell (a:=⟨B,1,none⟩) (.int .i64 (Xn (y.sv,y.si) (x.v,x.i)).2) (.inl rfl)));obtain⟨W2,hW2⟩:=Zx ((Y1.setCell ⟨B,0,none⟩ (.int .u64 ((Xn (y.sv,y.si) (x.v,x.i)).1:Int))).setCell ⟨B,1,none⟩ (.int .i64 (Xn (y.sv,y.si) (x.v,x.i)).2));rw[←hW2]at Q2 D5⊢;clear hW2;have T2:=O (D5.o.blk (u.o.blk T1.o (fun h=>h)) al.o);have X2:=O (D5.o.blk (u.o.blk X1.o (fun h=>h)) aa.o);have R2:=O (D5.o.blk (u.o.blk R1.o (fun h=>h)) an.o);have S2:=O (D5.o.blk U.o (by have:=d.o;omega));have C2:=O (show Qc Qb w W2 from(C1.o.aA u.o).trans D5.o (fun k hk=>.inr (by have:=ab.o;omega)));clear D5 c3 u R U;obtain⟨V,a1,Z,a3,a4,a5,a6,a7⟩:=Ja X2.o;have E1:=fun x=>X9 (Qk (S:=Qb) T2.o (fun h=>h) x);have E2:=fun x=>Ja (Qk (S:=Qb) X2.o (fun h=>h) x);have E3:=fun x=>Ja (Qk (S:=Qb) R2.o (fun h=>h) x);have E4:=fun x=>Q4 (Qk (S:=Qb) Q2.o (fun h=>h) x);go_wp2;refine Qu [] [0,1,2,3,4,5,6,7,8,9,10,11] [12] [13] (Qz (Qb) (W2)) Zq (by kernel_rfl) (fun _ _ _ _ _ h=>h) (Qd (Zj (Zg _ _))) ?_;simp only[pick,Zf,Ze,Zd];refine Qg ?_;iterate 12 (refine Ql (fun K hK=>?_);go_simp;refine hK _ ?_;clear hK K)
    refine Qg ?_;intro _ I;obtain⟨xo,E⟩:=I;subst E;simp only[Jd];have c3:=O (Qv Qb W2 xo);generalize Qz Qb W2 xo=U2 at c3⊢;clear E1 E2 E3 E4 V a1 Z a3 a4 a5 a6 a7;go_wp2_with fail;with_reducible refine Zz (HL.o _ (Xn (y.sv,y.si) (x.v,x.i)) (z.sv,z.si)) ?_
    intro Y2 d3;have u:=O (c3.o.aA d3);have R:=O (u.o.blk Q2.o (fun h=>h));obtain⟨y1,y2⟩:=Q4 R.o;have y3:=R.o.frozen;clear d3;dsimp only[Y4];go_wp2;refine⟨Qd u.o,?_⟩;have U:=O (u.o.blk S2.o (fun h=>h));obtain⟨y5,y6⟩:=Q4 U.o;have y7:=U.o.frozen;have n1:¬s=B:=by have:=d.o;omega
    have n2:¬B=s:=by have:=d.o;omega
    go_wp2;refine bodyPost_ret (v:=.agg (Y4 (Xn (Xn (y.sv,y.si) (x.v,x.i)) (z.sv,z.si)))) ?_ rfl ⟨rfl,?_⟩;·simp[*,results,Tryz.results260,go_sem,Y4]
    ·have cw:=C2.o.aA u.o;have ai:=ac.o;have ak:=d.o;clear y1 y2 y3 y5 y6 y7 n1 n2;exact Zk (Zk (Zk (Zk cw _ (.inr (by simp;first|done|omega))) _ (.inr (by simp;first|done|omega))) _ (.inr (by simp;first|done|omega))) _ (.inr (by simp;first|done|omega))
theorem Me{w}{b:Nat}{h x:Nd}{c xc:Bool}{u d r:Tr}(hs:Kc w b (.aD h c (.aD x xc u d) r)):
  Cl 247 #[ptr b,ptr h.a] w fun e w'=>e=.returned (ptr x.a)∧Kc w' b (Mp (.aD h c (.aD x xc u d) r))∧Qc (fun k=>k=h.a∨k=x.a) w w':=by
 have hN:(b::(Mp (.aD h c (.aD x xc u d) r)).aC).Nodup:=by rw[Ey];exact hs.nd
 have B:=hs.top;obtain⟨⟨pp,nn,hT⟩,ac,hH,hA,hB⟩:=hs;obtain⟨hX,ae,af⟩:=hA;simp only[Tr.aC,List.nodup_cons,Zl,Zu,not_or,List.nodup_append]at ac;have z:h.a≠x.a:=by grind
 have al:b≠h.a:=by grind
 have am:b≠x.a:=by grind
 have sl:∀a∈u.aC,¬(a=h.a∨a=x.a):=by grind
 have sr:∀a∈d.aC,¬(a=h.a∨a=x.a):=by grind
 have so:∀a∈r.aC,¬(a=h.a∨a=x.a):=by grind
 clear ac;have KL:=O (fun w'(hc:Qc (fun k=>k=h.a∨k=x.a) w w')=>Jw.aB hc u ae sl);have KR:=O (fun w'(hc:Qc (fun k=>k=h.a∨k=x.a) w w')=>Jw.aB hc d af sr);have KO:=O (fun w'(hc:Qc (fun k=>k=h.a∨k=x.a) w w')=>Jw.aB hc r hB so);have KT:=O (fun w'(hc:Qc (fun k=>k=h.a∨k=x.a) w w')=>hc.blk hT (fun e=>e.elim al am));have aa:=O (fun w'(hc:Qc (fun k=>k=h.a∨k=x.a) w w')=>B.aB hc (fun e=>e.elim al am));have HN:=O hN;have I:x.a≠h.a:=Ne.symm z;have F1:∀K,K=(((w.setCell ⟨h.a,6,none⟩ d.aH).setCell ⟨x.a,7,none⟩ (.pointer (some ⟨h.a,0,none⟩))).setCell ⟨x.a,5,none⟩ (.bool c)).setCell ⟨h.a,5,none⟩ (.bool true)→Qh K h.a (It h true d.aH r.aH) 258∧Qh K x.a (It x c u.aH (.pointer (some ⟨h.a,0,none⟩))) 258∧Qc (fun k=>k=h.a∨k=x.a) w K:=by
  rintro K rfl;refine⟨?_,?_,?_⟩;·exact(((hH.set' 6 _ rfl).other _ I).other _ I).set' 5 _ rfl
  ·exact(((hX.other _ z).set' 7 _ rfl).set' 5 _ rfl).other _ z
  ·exact((((Zg _ w).setCell _ (.inl (.inl rfl))).setCell _ (.inl (.inr rfl))).setCell _ (.inl (.inr rfl))).setCell _ (.inl (.inl rfl))
 have Z:=O F1;obtain⟨a0,a1,a2,a3,a4,a5,a6,a7⟩:=Ja hH;obtain⟨b0,b1,b2,b3,b4,b5,b6,b7⟩:=Ja hX;have z1:=hH.frozen;have z2:=hX.frozen;have N1:=O z;obtain⟨pm,E⟩:∃pm,d.aH=.pointer pm:=by cases d<;>exact⟨_,rfl⟩
 have ap:=O E;unfold ptr at*;dsimp only[Tr.aH]at a0 a1 a2 a3 a4 a5 a6 a7;rw[E]at Z b7;clear E;clear ae af hB hT hH hX B hN sl sr so F1;go_enter func247,ntmps247;go_wp2_with fail;generalize hW1:(((w.setCell ⟨h.a,6,none⟩ (.pointer pm)).setCell ⟨x.a,7,none⟩ (.pointer (some ⟨h.a,0,none⟩))).setCell ⟨x.a,5,none⟩ (.bool c)).setCell ⟨h.a,5,none⟩ (.bool true)=K;obtain⟨H1,X1,U⟩:=Z.o _ hW1.symm;rw[←ap.o]at H1;have T1:=KT.o _ U;clear hW1 a0 a1 a2 a3 a4 a5 a6 a7 b0 b1 b2 b3 b4 b5 b6 b7 z1 z2;have ag:=KR.o _ U;have aj:=KO.o _ U;refine Zz (El (p:=d.aH) (q:=r.aH) T1 H1 d r rfl rfl ag aj) ?_;intro w2 c2;have H2:=O (c2.blk H1 (fun h=>h));have X2:=O (c2.blk X1 (fun h=>h));have C2:=O (U.trans c2 (fun k h=>h.elim));clear T1 H1 X1 U ag aj c2;dsimp only[Y4];have FX:∀R,R=(w2.setCell ⟨h.a,3,none⟩ (.int .u64 ((Pr h d r).1:Int))).setCell ⟨h.a,4,none⟩ (.int .i64 (Pr h d r).2)→Qh R h.a (It (h.re d r) true d.aH r.aH) 258∧Qh R x.a (It x c u.aH (.pointer (some ⟨h.a,0,none⟩))) 258∧Qc (fun k=>k=h.a∨k=x.a) w R:=by rintro R rfl;exact⟨(H2.o.set' 3 _ rfl).set' 4 _ rfl,(X2.o.other _ N1.o).other _ N1.o,(C2.o.setCell _ (.inl (.inl rfl))).setCell _ (.inl (.inl rfl))⟩
 have an:=O FX;have y1:=H2.o.frozen;obtain⟨a0,a1,a2,a3,a4,a5,a6,a7⟩:=Ja H2.o;clear FX z I;go_wp2_with fail;generalize ab:(w2.setCell ⟨h.a,3,none⟩ (.int .u64 ((Pr h d r).1:Int))).setCell ⟨h.a,4,none⟩ (.int .i64 (Pr h d r).2)=R;obtain⟨H3,X3,J⟩:=an.o _ ab.symm;have T3:=KT.o _ J;clear ab a0 a1 a2 a3 a4 a5 a6 a7 y1 H2 X2 C2;have ah:=KL.o _ J;have ak:=KR.o _ J;have ai:=KO.o _ J;refine Zz (El T3 X3 u (mk h true d r) rfl rfl ah ⟨H3,ak,ai⟩) ?_;intro w4 c4;have H4:=O (c4.blk H3 (fun h=>h));have X4:=O (c4.blk X3 (fun h=>h));have C4:=O (J.trans c4 (fun k h=>h.elim));clear T3 H3 X3 J ah ak ai c4;dsimp only[Y4];have FY:∀W5,W5=(w4.setCell ⟨x.a,3,none⟩ (.int .u64 ((Pr x u (mk h true d r)).1:Int))).setCell ⟨x.a,4,none⟩ (.int .i64 (Pr x u (mk h true d r)).2)→Kc W5 b (Mp (.aD h c (.aD x xc u d) r))∧Qc (fun k=>k=h.a∨k=x.a) w W5:=by rintro W5 rfl;have V:=(C4.o.setCell (a:=⟨x.a,3,none⟩) (.int .u64 ((Pr x u (mk h true d r)).1:Int)) (.inl (.inr rfl))).setCell (a:=⟨x.a,4,none⟩) (.int .i64 (Pr x u (mk h true d r)).2) (.inl (.inr rfl));have X5:=(X4.o.set' 3 (.int .u64 ((Pr x u (mk h true d r)).1:Int)) rfl).set' 4 (.int .i64 (Pr x u (mk h true d r)).2) rfl;have H5:=(H4.o.other (a:=⟨x.a,3,none⟩) (.int .u64 ((Pr x u (mk h true d r)).1:Int)) (Ne.symm N1.o)).other (a:=⟨x.a,4,none⟩) (.int .i64 (Pr x u (mk h true d r)).2) (Ne.symm N1.o);have aq:=KL.o _ V;have au:=KR.o _ V;have ar:=KO.o _ V;exact⟨⟨aa.o _ V,HN.o,X5,aq,H5,au,ar⟩,V⟩
 have ao:=O FY;have y1:=X4.o.frozen;obtain⟨a0,a1,a2,a3,a4,a5,a6,a7⟩:=Ja X4.o;clear FY;go_wp2;go_ret;exact⟨rfl,ao.o _ rfl⟩
theorem Qdr{w}{b:Nat}{h x:Nd}{c xc:Bool}{l d u:Tr}(hs:Kc w b (.aD h c l (.aD x xc d u))):
  Cl 259 #[ptr b,ptr h.a] w fun e w'=>e=.returned (ptr x.a)∧Kc w' b (Nw (.aD h c l (.aD x xc d u)))∧Qc (fun k=>k=h.a∨k=x.a) w w':=by
 have hN:(b::(Nw (.aD h c l (.aD x xc d u))).aC).Nodup:=by rw[Ts];exact hs.nd
 have B:=hs.top;obtain⟨⟨pp,nn,hT⟩,ac,hH,hA,hB⟩:=hs;obtain⟨hX,ae,af⟩:=hB;simp only[Tr.aC,List.nodup_cons,Zl,Zu,not_or,List.nodup_append]at ac;have z:h.a≠x.a:=by grind
 have al:b≠h.a:=by grind
 have am:b≠x.a:=by grind
 have sl:∀a∈d.aC,¬(a=h.a∨a=x.a):=by grind
 have sr:∀a∈u.aC,¬(a=h.a∨a=x.a):=by grind
 have so:∀a∈l.aC,¬(a=h.a∨a=x.a):=by grind
 clear ac;have KL:=O (fun w'(hc:Qc (fun k=>k=h.a∨k=x.a) w w')=>Jw.aB hc d ae sl);have KR:=O (fun w'(hc:Qc (fun k=>k=h.a∨k=x.a) w w')=>Jw.aB hc u af sr);have KO:=O (fun w'(hc:Qc (fun k=>k=h.a∨k=x.a) w w')=>Jw.aB hc l hA so);have KT:=O (fun w'(hc:Qc (fun k=>k=h.a∨k=x.a) w w')=>hc.blk hT (fun e=>e.elim al am));have aa:=O (fun w'(hc:Qc (fun k=>k=h.a∨k=x.a) w w')=>B.aB hc (fun e=>e.elim al am));have HN:=O hN;have I:x.a≠h.a:=Ne.symm z;have F1:∀K,K=(((w.setCell ⟨h.a,7,none⟩ d.aH).setCell ⟨x.a,6,none⟩ (.pointer (some ⟨h.a,0,none⟩))).setCell ⟨x.a,5,none⟩ (.bool c)).setCell ⟨h.a,5,none⟩ (.bool true)→Qh K h.a (It h true l.aH d.aH) 258∧Qh K x.a (It x c (.pointer (some ⟨h.a,0,none⟩)) u.aH) 258∧Qc (fun k=>k=h.a∨k=x.a) w K:=by
  rintro K rfl;refine⟨?_,?_,?_⟩;·exact(((hH.set' 7 _ rfl).other _ I).other _ I).set' 5 _ rfl
  ·exact(((hX.other _ z).set' 6 _ rfl).set' 5 _ rfl).other _ z
  ·exact((((Zg _ w).setCell _ (.inl (.inl rfl))).setCell _ (.inl (.inr rfl))).setCell _ (.inl (.inr rfl))).setCell _ (.inl (.inl rfl))
 have Z:=O F1;obtain⟨a0,a1,a2,a3,a4,a5,a6,a7⟩:=Ja hH;obtain⟨b0,b1,b2,b3,b4,b5,b6,b7⟩:=Ja hX;have z1:=hH.frozen;have z2:=hX.frozen;have N1:=O z;obtain⟨pm,E⟩:∃pm,d.aH=.pointer pm:=by cases d<;>exact⟨_,rfl⟩
 have ap:=O E;unfold ptr at*;dsimp only[Tr.aH]at a0 a1 a2 a3 a4 a5 a6 a7;rw[E]at Z b6;clear E;clear ae af hA hT hH hX B hN sl sr so F1;go_enter func259,ntmps259;go_wp2_with fail;generalize hW1:(((w.setCell ⟨h.a,7,none⟩ (.pointer pm)).setCell ⟨x.a,6,none⟩ (.pointer (some ⟨h.a,0,none⟩))).setCell ⟨x.a,5,none⟩ (.bool c)).setCell ⟨h.a,5,none⟩ (.bool true)=K;obtain⟨H1,X1,U⟩:=Z.o _ hW1.symm;rw[←ap.o]at H1;have T1:=KT.o _ U;clear hW1 a0 a1 a2 a3 a4 a5 a6 a7 b0 b1 b2 b3 b4 b5 b6 b7 z1 z2;have ag:=KO.o _ U;have aj:=KL.o _ U;refine Zz (El (p:=l.aH) (q:=d.aH) T1 H1 l d rfl rfl ag aj) ?_;intro w2 c2;have H2:=O (c2.blk H1 (fun h=>h));have X2:=O (c2.blk X1 (fun h=>h));have C2:=O (U.trans c2 (fun k h=>h.elim));clear T1 H1 X1 U ag aj c2;dsimp only[Y4];have FX:∀R,R=(w2.setCell ⟨h.a,3,none⟩ (.int .u64 ((Pr h l d).1:Int))).setCell ⟨h.a,4,none⟩ (.int .i64 (Pr h l d).2)→Qh R h.a (It (h.re l d) true l.aH d.aH) 258∧Qh R x.a (It x c (.pointer (some ⟨h.a,0,none⟩)) u.aH) 258∧Qc (fun k=>k=h.a∨k=x.a) w R:=by rintro R rfl;exact⟨(H2.o.set' 3 _ rfl).set' 4 _ rfl,(X2.o.other _ N1.o).other _ N1.o,(C2.o.setCell _ (.inl (.inl rfl))).setCell _ (.inl (.inl rfl))⟩
 have an:=O FX;have y1:=H2.o.frozen;obtain⟨a0,a1,a2,a3,a4,a5,a6,a7⟩:=Ja H2.o;clear FX z I;go_wp2_with fail;generalize ab:(w2.setCell ⟨h.a,3,none⟩ (.int .u64 ((Pr h l d).1:Int))).setCell ⟨h.a,4,none⟩ (.int .i64 (Pr h l d).2)=R;obtain⟨H3,X3,J⟩:=an.o _ ab.symm;have T3:=KT.o _ J;clear ab a0 a1 a2 a3 a4 a5 a6 a7 y1 H2 X2 C2;have ah:=KL.o _ J;have ak:=KR.o _ J;have ai:=KO.o _ J;refine Zz (El T3 X3 (mk h true l d) u rfl rfl ⟨H3,ai,ah⟩ ak) ?_;intro w4 c4;have H4:=O (c4.blk H3 (fun h=>h));have X4:=O (c4.blk X3 (fun h=>h));have C4:=O (J.trans c4 (fun k h=>h.elim));clear T3 H3 X3 J ah ak ai c4;dsimp only[Y4];have FY:∀W5,W5=(w4.setCell ⟨x.a,3,none⟩ (.int .u64 ((Pr x (mk h true l d) u).1:Int))).setCell ⟨x.a,4,none⟩ (.int .i64 (Pr x (mk h true l d) u).2)→Kc W5 b (Nw (.aD h c l (.aD x xc d u)))∧Qc (fun k=>k=h.a∨k=x.a) w W5:=by rintro W5 rfl;have V:=(C4.o.setCell (a:=⟨x.a,3,none⟩) (.int .u64 ((Pr x (mk h true l d) u).1:Int)) (.inl (.inr rfl))).setCell (a:=⟨x.a,4,none⟩) (.int .i64 (Pr x (mk h true l d) u).2) (.inl (.inr rfl));have X5:=(X4.o.set' 3 (.int .u64 ((Pr x (mk h true l d) u).1:Int)) rfl).set' 4 (.int .i64 (Pr x (mk h true l d) u).2) rfl;have H5:=(H4.o.other (a:=⟨x.a,3,none⟩) (.int .u64 ((Pr x (mk h true l d) u).1:Int)) (Ne.symm N1.o)).other (a:=⟨x.a,4,none⟩) (.int .i64 (Pr x (mk h true l d) u).2) (Ne.symm N1.o);have aq:=KL.o _ V;have au:=KR.o _ V;have ar:=KO.o _ V;exact⟨⟨aa.o _ V,HN.o,X5,⟨H5,ar,aq⟩,au⟩,V⟩
 have ao:=O FY;have y1:=X4.o.frozen;obtain⟨a0,a1,a2,a3,a4,a5,a6,a7⟩:=Ja X4.o;clear FY;go_wp2;go_ret;exact⟨rfl,ao.o _ rfl⟩
end
end Go.Proofs.YtnnhmpehkbihnaaGreat
