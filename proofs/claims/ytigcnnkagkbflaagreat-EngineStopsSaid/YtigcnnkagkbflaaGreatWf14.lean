/- A part of the proof: no condition. -/
import Derived.Test.YtigcnnkagkbflaaGreatWf09
import Derived.Test.YtigcnnkagkbflaaGreatWf08
import Derived.Test.YtigcnnkagkbflaaGreatWf13
namespace Go.Proofs.YtigcnnkagkbflaaGreat
set_option linter.unusedVariables false
set_option maxRecDepth 100000
set_option maxHeartbeats 4000000
open Go.RowKit
open Go.Proofs.Tryz
attribute [local go_sem] Qp
structure O1{X Y:Type}(ty:TypeId)(cells:X→Nat→Array Value)(pr:X→Y)(Is:World→Fp→Nat→Y→Prop)(w:World)(F:Fp)(b:Nat)(x:X):Prop where
 ex:∃p G,Qh w b (cells x p) ty∧Is w G p (pr x)∧∀k,G k→F k∧k≠b
 bd:Bd F w
 own:F b
section
variable{X Y:Type}{ty:TypeId}{cells:X→Nat→Array Value}{pr:X→Y}{Is:World→Fp→Nat→Y→Prop}{w w1 w2:World}{F:Fp}{b:Nat}{x:X}
theorem O1.obj(I:Hf Is):Hf (O1 ty cells pr Is) where
 bd:=fun h=>h.bd
 own:=fun h=>h.own
 aB:=fun h z B=>by obtain⟨p,G,q,u,c⟩:=h.ex;exact⟨⟨p,G,z.blk q (B _ h.own),I.aB u z (B.subL fun k d=>(c k d).1),c⟩,h.bd.later z,h.own⟩
 more:=fun h E J=>by obtain⟨p,G,q,u,c⟩:=h.ex;exact⟨⟨p,G,q,u,fun k d=>⟨E k (c k d).1,(c k d).2⟩⟩,J,E _ h.own⟩
theorem O1.made{p:Nat}{G:Fp}{x':X}(h:O1 ty cells pr Is w F b x)(u:∀k,G k→F k∧k≠b)(z:Hf Is)
  (E:Qc G w w1)(I:Is w1 (Qn G w w1) p (pr x'))(q:Qc (fun k=>k=b) w1 w2)(B:Qh w2 b (cells x' p) ty):O1 ty cells pr Is w2 (Qn F w w2) b x'∧Qc F w w2:=by
 have Xg:=h.bd b h.own;have c:Qc F w w2:=(E.sub fun k d=>(u k d).1).aA (q.sub fun k d=>d▸h.own);refine⟨⟨⟨p,Qn G w w1,B,z.aB I q ?_,?_⟩,h.bd.ext c,.inl h.own⟩,c⟩
 ·rintro k d rfl;rcases d with d|d;·exact(u _ d).2 rfl
  ·omega
 ·intro k d;rcases d with d|d;·exact⟨.inl (u k d).1,(u k d).2⟩
  ·exact⟨.inr ⟨d.1,Nat.lt_of_lt_of_le d.2 q.size⟩,by omega⟩
theorem O1.cell{p:Nat}{G:Fp}{x':X}(h:O1 ty cells pr Is w F b x)(z:Is w G p (pr x'))(u:∀k,G k→F k∧k≠b)(B:Hf Is)
  (q:Qc (fun k=>k=b) w w2) (E:Qh w2 b (cells x' p) ty):O1 ty cells pr Is w2 (Qn F w w2) b x'∧Qc F w w2:=by
 have c:Qc F w w2:=q.sub fun k d=>d▸h.own;exact⟨⟨⟨p,G,E,B.aB z q (fun k d e=>(u k d).2 e),fun k d=>⟨.inl (u k d).1,(u k d).2⟩⟩,h.bd.ext c,.inl h.own⟩,c⟩
theorem O1.new{p:Nat}{G:Fp}(q:Is w2 G p (pr x))(u:∀k,G k→w.heap.size≤k)(z:Hf Is)(d:Qh w2 b (cells x p) ty)(E:w.heap.size≤b)(B:¬G b):O1 ty cells pr Is w2 (Qn Qb w w2) b x:=
 ⟨⟨p,G,d,q,fun k c=>⟨.inr ⟨u k c,z.bd q k c⟩,fun e=>B (e▸c)⟩⟩,fun k c=>c.elim (fun h=>h.elim) (fun h=>h.2),.inr ⟨E,d.lt⟩⟩
theorem Hf.same{Z:Type}{c:World→Fp→Nat→Z→Prop}(d:Hf c){z:Z}(h:c w F b z)(q:Qc Qb w w1):c w1 (Qn F w w1) b z∧Qc F w w1:=
 ⟨d.more (d.aB h q (Jl.none F)) (fun k u=>.inl u) ((d.bd h).ext (q.none (F:=F))),q.none⟩
theorem Hf.two{Z:Type}{c:World→Fp→Nat→Z→Prop}(q:Hf c){z:Z}(h:c w2 (Qn (Qn F w w1) w1 w2) b z)(u:Bd F w)(d:Qc F w w1)(k:Qc (Qn F w w1) w1 w2):c w2 (Qn F w w2) b z∧Qc F w w2:=
 ⟨q.more h (Qn.trans d.size k.size) (u.ext (d.ext k)),d.ext k⟩
end
def Fs(d:Ju)(p:Nat):Array Value:=#[ptr p,ZU d.got,.bool d.aL,ZU d.elig,ZU d.due]
abbrev Ye:World→Fp→Nat→Ju→Prop:=O1 196 Fs Ju.run Yv
theorem Ye.obj:Hf Ye:=O1.obj runP
theorem Qrm(c:Int)(w):ZW 151 #[ZI c] w (ZU (Xr c:Nat)) fun w'=>w=w':=by
 have q:IntKind.u64.wrap (min (max c 0) 65536)=(((min (max c 0) 65536).toNat:Nat):Int):=by rw[IntWalk.u64_in _ (by omega)];omega
 have u:IntKind.u64.wrap ((((min (max c 0) 65536).toNat:Nat):Int)*256)=(Xr c:Int):=by unfold Xr;rw[IntWalk.u64_in _ (by omega)];omega
 have B:=fun(d:Array TypeId)t k a b(w)=>X8 (P:=prog) d t k a b w;have E:=fun(d:Array TypeId)t k a b(w)=>Yd (P:=prog) d t k a b w;generalize Xr c=g at u⊢;generalize(min (max c 0) 65536).toNat=m at q u;generalize I:min (max c 0) 65536=z at q;go_enter func151,ntmps151;go_wp2;go_ret;exact⟨rfl,rfl⟩
theorem Wt(c:Int):Xr c≤16777216:=by unfold Xr;omega
theorem Ty{w}{b p:Nat}{v1 v2 v3 v4:Value}(h:Qh w b #[ptr p,v1,v2,v3,v4] 196):ZW 128 #[ptr b] w (.bool false) fun w'=>w=w':=by have c:=h.cell 0;simp only[Zf,Ze]at c;clear h;go_enter func128,ntmps128;go_wp2;go_ret;exact⟨rfl,rfl⟩
theorem Li{w}{F:Fp}{b:Nat}{d:Ju}(h:Ye w F b d):ZW 149 #[ptr b] w (.bool d.aL) fun w'=>w=w':=by obtain⟨p,G,c,_⟩:=h.ex;have k:=O (Ty c);obtain⟨q,u,z,B,E⟩:=Ym c;clear h c;go_enter func149,ntmps149;go_wp2_with fail;refine Zy k ?_;rintro w1 rfl;go_wp2;go_ret;exact⟨rfl,rfl⟩
theorem Ay{w}{F:Fp}{b:Nat}{d:Ju}(h:Ye w F b d):ZW 154 #[ptr b] w (ZU (d.from_:Nat)) fun w'=>w=w':=by
 have c:=O (Li h);obtain⟨p,G,k,_⟩:=h.ex;obtain⟨q,u,z,B,E⟩:=Ym k;unfold ptr Ju.from_ at*;clear h k;cases ha:d.aL;all_goals
  rw[ha]at c;clear ha;go_enter func154,ntmps154;go_wp2_with fail;refine Zy c ?_;rintro w1 rfl;go_wp2;go_ret;exact⟨rfl,rfl⟩
theorem Cb{w}{F:Fp}{b:Nat}{d:Ju}(h:Ye w F b d):ZW 97 #[ptr b] w (ZU (d.dueAt:Nat)) fun w'=>w=w':=by
 have c:=O (Li h);obtain⟨p,G,k,_⟩:=h.ex;obtain⟨q,u,z,B,E⟩:=Ym k;unfold ptr Ju.dueAt at*;clear h k;cases ha:d.aL;all_goals
  rw[ha]at c;clear ha;go_enter func97,ntmps97;go_wp2_with fail;refine Zy c ?_;rintro w1 rfl;go_wp2;go_ret;exact⟨rfl,rfl⟩
theorem Qcu{w}{G:Fp}{b p g:Nat}{r:Xh}{v2 v3 v4:Value}(B:Int)(R:Qh w b #[ptr p,ZU g,v2,v3,v4] 196)(V:Yv w G p r)(hn:r.l.length<549755813888)(hg:g≤Xw):
  ZW 204 #[ptr b,ZI B] w (.tuple #[]) fun w'=>Qh w' b #[ptr p,ZU g,v2,ZU (r.elig g:Nat),v4] 196∧Qc (fun k=>k=b) w w':=by
 have I:=O (fun w'(hc:Qc Qb w w')=>Ql3 (runP.aB V hc (Jl.none G)) (by omega) g (by have:=Yz;omega));have E:=O R;generalize r.elig g=x at I⊢;have E1:=fun x=>Ym (Qk (S:=Qb) E.o (fun h=>h) x);clear R V hn hg;go_enter func204,ntmps204;go_wp2_with fail;refine ZE [] [0,1,2,3,4,5,6,7,8,9] [10] [11,12,13] (Qb) w ?_;simp only[pick,Zf,Ze,Zd];refine Qg ?_;iterate 10 (refine Ql (fun K U=>?_);go_simp;refine U _ ?_;clear U K)
 refine Qg ?_;intro _ z;obtain⟨Z,c⟩:=z;subst c;simp only[Jd];have q:=O (Qv Qb w Z);generalize Qz Qb w Z=w1 at q⊢;clear E1;go_wp2_with fail;refine Zz (I.o _ q.o) ?_;intro w2 J;have u:=O (q.o.aA J);clear J;go_wp2;refine⟨Qd u.o,?_⟩;have d:=O (u.o.blk E.o (fun h=>h));obtain⟨a0,a1,a2,a3,a4⟩:=Ym d.o;have f2:=d.o.frozen;go_wp2;refine bodyPost_end (by simp[*,results,Tryz.results204,go_sem]) rfl ⟨rfl,d.o.set' 3 _ rfl,u.o.none.setCell (a:=⟨b,3,none⟩) _ (.inl rfl)⟩
theorem By{w}{G:Fp}{b p g:Nat}{r:Xh}{v2 v3 v4:Value}(c:Int)(hB:Qh w b #[ptr p,ZU g,v2,v3,v4] 196)(hR:Yv w G p r)(hn:r.l.length<549755813888)(hg:g≤Xw):
  ZW 206 #[ptr b,ZI c] w (.tuple #[]) fun w'=>Qh w' b #[ptr p,ZU g,v2,v3,ZU (r.reach (min (g+Xr c) Xw):Nat)] 196∧Qc (fun k=>k=b) w w':=by
 have q:=Yz;have U:=Wt c;have J:=O (fun w'(hc:Qc Qb w w')=>Ru (runP.aB hR hc (Jl.none G)) (by omega) (min (g+Xr c) Xw) (by omega));have HG:=O (fun w=>Qrm c w);have Z:=O hB;have hs:IntKind.u64.wrap ((g:Int)+(Xr c:Int))=((g+Xr c:Nat):Int):=by rw[IntWalk.u64_in _ (by omega)];omega
 have B:min ((g+Xr c:Nat):Int) 4611686018427387904=((min (g+Xr c) Xw:Nat):Int):=by omega
 generalize r.reach (min (g+Xr c) Xw)=x at J⊢;generalize min (g+Xr c) Xw=y at J B;generalize g+Xr c=z at hs B;generalize Xr c=u at HG hs;have hm:=fun(ts:Array TypeId)t k a b(w)=>X8 (P:=prog) ts t k a b w;have E1:=fun x=>Ym (Qk (S:=Qb) Z.o (fun h=>h) x);clear hB hR hn hg q U;go_enter func206,ntmps206;go_wp2_with fail;refine ZE [] [0,1,2,3,4,5,6,7,8,9,10] [11,12,13,14] [15,16,17] (Qb) w ?_;simp only[pick,Zf,Ze,Zd];refine Qg ?_;iterate 11 (refine Ql (fun K hK=>?_);go_simp;refine hK _ ?_;clear hK K)
 refine Qg ?_;intro _ V;obtain⟨xo,E⟩:=V;subst E;simp only[Jd];have d:=O (Qv Qb w xo);generalize Qz Qb w xo=w1 at d⊢;clear E1;go_wp2_with fail;refine Zz (HG.o _) ?_;rintro w2 rfl;go_wp2;refine⟨Qd d.o,?_⟩;go_wp2;refine⟨Qd d.o,?_⟩;go_wp2;refine⟨Qd d.o,?_⟩;go_wp2_with fail;refine Zz (J.o _ d.o) ?_;intro w2 d2;have R:=O (d.o.aA d2);clear d2;go_wp2;refine⟨Qd R.o,?_⟩;have I:=O (R.o.blk Z.o (fun h=>h));obtain⟨a0,a1,a2,a3,a4⟩:=Ym I.o;have f2:=I.o.frozen;go_wp2;refine bodyPost_end (by simp[*,results,Tryz.results206,go_sem]) rfl ⟨rfl,I.o.set' 4 _ rfl,R.o.none.setCell (a:=⟨b,4,none⟩) _ (.inl rfl)⟩
theorem Gj(r:Xh)(x y:Nat):(r.start x y).l.length=r.l.length+1:=by simp[Xh.start,Dg]
def Qm0:Value:=.agg #[.func (.func 204) #[] #[],.func (.func 206) #[] #[]]
theorem Qgg(w):ZW 150 #[] w Qm0 fun w'=>Qc Qb w w':=by
 unfold Qm0;have c:Hi (∀w',w'=w.alloc (.cells #[.func (.func 204) #[] #[],.func (.func 206) #[] #[]] 223)→Qc Qb w w'∧Qh w' w.heap.size #[.func (.func 204) #[] #[],.func (.func 206) #[] #[]] 223):=O (by
  rintro w' rfl;exact⟨(Zg _ _).alloc _,Qh.new _ _ _⟩)
 go_enter func150,ntmps150;go_wp2;obtain⟨W,d⟩:=Zx (w.alloc (.cells #[.func (.func 204) #[] #[],.func (.func 206) #[] #[]] 223));rw[←d];obtain⟨k,q⟩:=c.o W d;obtain⟨u,z⟩:=Q4 q;refine bodyPost_ret (v:=.agg #[.func (.func 204) #[] #[],.func (.func 206) #[] #[]]) ?_ rfl ⟨rfl,k⟩;clear k q d;simp[*,results,Tryz.results150,go_sem]
theorem Qj6{w}{F:Fp}{b:Nat}{d:Ju}(h:Ye w F b d)(hn:d.run.l.length+1<549755813888)(hg:d.got≤Xw)(now:Nat)(hw:now<18446744073709551616)(c:Int):
  ZW 108 #[ptr b,ZU now,ZI c] w (.tuple #[]) fun w'=>Ye w' (Qn F w w') b (d.wake now c)∧Qc F w w':=by
 have H:=O h;obtain⟨p,G,Z,hR,hG⟩:=h.ex;have HN:=O (Ty Z);have ai:=O (runP.bd hR);have B:=Yz;cases ha:d.aL with
 |true=>
  have e:d.wake now c=d:=by unfold Ju.wake;rw[if_pos ha]
  have I:=O (fun w'(hc:Qc Qb w w')=>Ye.obj.same H.o hc);rw[e];have a2:=Z.cell 2;simp only[Fs,Zf,Ze,Zd]at a2;rw[ha]at a2;clear h Z hR ha e B hn hg;go_enter func108,ntmps108;go_wp2_with fail;refine Zy HN ?_;rintro w1 rfl;go_wp2;refine bodyPost_ret (v:=.tuple #[]) (by simp[results,Tryz.results108,go_sem]) rfl ⟨rfl,I.o _ (Zg _ _)⟩
 |false=>
  have HW:Hi (d.wake now c=⟨d.run.start now d.got,d.got,true,(d.run.start now d.got).elig d.got,(d.run.start now d.got).reach (min (d.got+Xr c) Xw)⟩):=O (by unfold Ju.wake;rw[if_neg (by rw[ha];exact Bool.false_ne_true)]);have HS:=O (fun w'(hc:Qc Qb w w')=>Rv (runP.aB hR hc (Jl.none G)) (by omega) now d.got hw (by omega));have U:Hi ((d.run.start now d.got).l.length<549755813888):=O (by rw[Gj];exact hn);have HB:Hi (Qh w b #[ptr p,ZU d.got,.bool false,ZU d.elig,ZU d.due] 196):=O (by unfold Fs at Z;rw[ha]at Z;exact Z);have R:=O hG;have J:=O hg;obtain⟨g,af⟩:=Zx (d.got);rw[←af]at HW HS U HB J;obtain⟨a0,a1,a2,a3,a4⟩:=Ym HB.o;clear h Z hR ha B hn hg hG af;go_enter func108,ntmps108;go_wp2_with fail;refine Zy HN ?_;rintro w1 rfl;go_wp2_with fail;clear a0 a1 a2 a3 a4;have E1:=fun x=>Ym (Qk (S:=Qb) HB.o (fun h=>h) x);refine ZE [] [0,1,2,3,4,5,6,7,8,9] [] [10] (Qb) w ?_;simp only[pick,Zf,Ze,Zd];refine Qg ?_;iterate 10 (refine Ql (fun K hK=>?_);go_simp;refine hK _ ?_;clear hK K)
  refine Qg ?_;intro _ ak;obtain⟨xo,ah⟩:=ak;subst ah;simp only[Jd];have V:=O (Qv Qb w xo);generalize Qz Qb w xo=w1 at V⊢;clear E1;go_wp2_with fail;refine Zz (HS.o _ V.o) ?_;rintro w2⟨ae,c2⟩;have ac:¬G b:=fun h=>(R.o _ h).2 rfl;have B2:=O (c2.blk (V.o.blk HB.o (fun h=>h)) ac);have C2:=O c2;have R2:=O ae;obtain⟨a0,a1,a2,a3,a4⟩:=Ym B2.o;have f2:=B2.o.frozen;clear c2 ae ac;go_upto_region 3 with fail;obtain⟨w3,z⟩:=Zx (w2.setCell ⟨b,2,none⟩ (.bool true));have C3:Hi (Qc (fun k=>k=b) w2 w3):=O (by rw[z];exact(Zg _ _).setCell (a:=⟨b,2,none⟩) _ (.inl rfl));have B3:Hi (Qh w3 b #[ZP p,ZU g,.bool true,ZU d.elig,ZU d.due] 196):=O (by rw[z];exact B2.o.set' 2 _ rfl);have E:Jl (Qn G w1 w2) (fun k=>k=b):=by
   rintro k u rfl;rcases u with u|u;·exact(R.o _ u).2 rfl
   ·have:=H.o.bd k H.o.own;have:=V.o.size;omega
  have HD:=O E;rw[←z];have HA:=O (Qgg w3);unfold Qm0 at HA;clear z E a0 a1 a2 a3 a4 f2;go_wp2_with fail;refine Zy HA ?_;intro w4 c4;obtain⟨s,hs⟩:=Zx (w4.heap.size);obtain⟨w5,q⟩:=Zx (w4.alloc (.cells #[.func (.func 204) #[] #[],.func (.func 206) #[] #[]] 223));have C5:Hi (Qc Qb w3 w5):=O (by rw[q];exact c4.alloc _);have S5:Hi (Qh w5 s #[.func (.func 204) #[] #[],.func (.func 206) #[] #[]] 223):=O (by rw[q,hs];exact Qh.new _ _ _);have ag:s≠b:=by have:=B3.o.lt;have:=c4.size;omega
  have aj:=O ag;have A1:=O (Qcu c (C5.o.blk B3.o (fun h=>h)) (runP.aB (runP.aB R2.o C3.o HD.o) C5.o (Jl.none _)) U.o J.o);obtain⟨s0,s1⟩:=Q4 (show Qh (w4.alloc (.cells #[.func (.func 204) #[] #[],.func (.func 206) #[] #[]] 223)) s _ _ from q▸S5.o);unfold ptr at A1;clear c4 ag;go_wp2_with fail;rw[←hs,←q];refine Zy A1 ?_;rintro w6⟨aa,c6⟩;have B6:=O aa;have C6:=O c6;have S6:=O (c6.blk S5.o aj.o);have A2:=O (By c aa (runP.aB (runP.aB (runP.aB R2.o C3.o HD.o) C5.o (Jl.none _)) c6 HD.o) U.o J.o);obtain⟨t0,t1⟩:=Q4 S6.o;unfold ptr at A2;clear aa c6 s0 s1 hs q;go_wp2_with fail;refine Zy A2 ?_;rintro w7⟨ab,c7⟩;have I:Hi (Ye w7 (Qn F w w7) b (d.wake now c)∧Qc F w w7):=O (by
   rw[HW.o];refine H.o.made (w1:=w2) (p:=p) (G:=G) R.o runP (V.o.none.aA C2.o) ?_ (((C3.o.aA C5.o.none).aA C6.o).aA c7) ab;exact runP.more R2.o (fun k u=>u.elim .inl (fun u=>.inr ⟨Zp V.o.size u.1,u.2⟩)) (ai.o.ext (V.o.none.aA C2.o)))
  clear ab c7 t0 t1;go_wp2;refine bodyPost_end (by simp[*,results,Tryz.results108,go_sem]) rfl ⟨rfl,I.o⟩
theorem Qgw{w}{F:Fp}{b:Nat}{d:Ju}(h:Ye w F b d)(hn:d.run.l.length<549755813888)(hg:d.got≤Xw)(q:Nat)(B c:Int):
  ZW 98 #[ptr b,.int .u8 q,ZI B,ZI c] w (.tuple #[]) fun w'=>Ye w' (Qn F w w') b (d.serve q B c)∧Qc F w w':=by
 have H:=O h;have U:=O (Li h);obtain⟨p,G,hB,hR,hG⟩:=h.ex;have ac:=Yz;cases ha:d.aL with
 |false=>
  rw[ha]at U;have e:d.serve q B c=d:=by unfold Ju.serve;rw[if_pos (by rw[ha];rfl)]
  have I:=O (fun w'(hc:Qc Qb w w')=>Ye.obj.same H.o hc);rw[e];clear h hB hR ha e ac hn hg;go_enter func98,ntmps98;go_wp2_with fail;refine Zy U ?_;rintro w1 rfl;go_wp2;refine bodyPost_ret (v:=.tuple #[]) (by simp[results,Tryz.results98,go_sem]) rfl ⟨rfl,I.o _ (Zg _ _)⟩
 |true=>
  rw[ha]at U;have HR:=O (fun w'(hc:Qc Qb w w')=>runP.aB hR hc (Jl.none G));have ai:=O hR;have ae:=O hn;have HB:Hi (Qh w b #[ptr p,ZU d.got,.bool true,ZU d.elig,ZU d.due] 196):=O (by unfold Fs at hB;rw[ha]at hB;exact hB);have ah:=O hG;have ag:=O hg;have ao:=Wt B;obtain⟨g,Z⟩:=Zx (d.got);rw[←Z]at HB ag;have HG:=O (fun w=>Qrm B w);have HD:Hi (Jl G (fun k=>k=b)):=O (fun k hk e=>(hG k hk).2 e);have HA:=O (Qgg w);unfold Qm0 at HA;obtain⟨J,al⟩:=Zx (min (g+Xr B) Xw);have ab:Hi (J≤Xw):=O (by omega);have hs:IntKind.u64.wrap ((g:Int)+(Xr B:Int))=((g+Xr B:Nat):Int):=by rw[Z,IntWalk.u64_in _ (by omega)];omega
  have ap:min ((g+Xr B:Nat):Int) 4611686018427387904=(J:Int):=by omega
  have V:Hi (d.serve q B c=⟨d.run,if q=1 then J else g,decide (1≤c),if q=1 then d.run.elig (if q=1 then J else g)else d.elig,d.run.reach (min ((if q=1 then J else g)+Xr c) Xw)⟩):=O (by unfold Ju.serve;rw[if_neg (by rw[ha];simp),al,Z]);generalize g+Xr B=z at hs ap;generalize Xr B=u at HG hs;have hm:=fun(ts:Array TypeId)t k a b(w)=>X8 (P:=prog) ts t k a b w;clear h hB hR ha ac hn hg hG Z ao al;go_enter func98,ntmps98;go_wp2_with fail;refine Zy U ?_;rintro w1 rfl;go_wp2_with fail;refine Zy HA ?_;intro w4 c4;obtain⟨s,af⟩:=Zx (w4.heap.size);obtain⟨w5,aa⟩:=Zx (w4.alloc (.cells #[.func (.func 204) #[] #[],.func (.func 206) #[] #[]] 223));have C0:Hi (Qc Qb w w5):=O (by rw[aa];exact c4.alloc _);have S5:Hi (Qh w5 s #[.func (.func 204) #[] #[],.func (.func 206) #[] #[]] 223):=O (by rw[aa,af];exact Qh.new _ _ _);have am:s≠b:=by have:=HB.o.lt;have:=c4.size;omega
  have aj:=O am;have B5:=O (C0.o.blk HB.o (fun h=>h));clear c4 am;go_upto_region 2 with fail;rw[←af,←aa];clear af aa;by_cases hr:q=1
  ·subst hr;rw[if_pos rfl,if_pos rfl]at V;have HW:=V;have E1:=fun x=>Ym (Qk (S:=Qb) B5.o (fun h=>h) x);go_wp2_with fail;refine ZE [] [0,1,2,3,4,5] [6,7,8] [9,10,11] (Qb) w5 ?_;simp only[pick,Zf,Ze,Zd];refine Qg ?_;iterate 6 (refine Ql (fun K hK=>?_);go_simp;refine hK _ ?_;clear hK K)
   refine Qg ?_;intro _ ar;obtain⟨xo,an⟩:=ar;subst an;simp only[Jd];have c1:=O (Qv Qb w5 xo);generalize Qz Qb w5 xo=w6 at c1⊢;clear E1;go_wp2_with fail;refine Zz (HG.o _) ?_;rintro w7 rfl;go_wp2;refine⟨Qd c1.o,?_⟩;go_wp2;refine⟨Qd c1.o,?_⟩;go_wp2;refine⟨Qd c1.o,?_⟩;have B6:=O (c1.o.blk B5.o (fun h=>h));have f6:=B6.o.frozen;obtain⟨a0,a1,a2,a3,a4⟩:=Ym B6.o;obtain⟨w8,R⟩:=Zx (w6.setCell ⟨b,1,none⟩ (ZU J));have C8:Hi (Qc (fun k=>k=b) w5 w8):=O (by rw[R];exact c1.o.none.setCell (a:=⟨b,1,none⟩) _ (.inl rfl));have B8:Hi (Qh w8 b #[ZP p,ZU J,.bool true,ZU d.elig,ZU d.due] 196):=O (by rw[R];exact B6.o.set' 1 _ rfl);have S8:=O (C8.o.blk S5.o aj.o);have A1:=O (Qcu c B8.o (runP.aB (HR.o _ C0.o) C8.o HD.o) ae.o ab.o);obtain⟨s0,s1⟩:=Q4 (show Qh (w6.setCell ⟨b,1,none⟩ (ZU J)) s _ _ from R▸S8.o);unfold ptr at A1;go_wp2_with fail;rw[←R];refine Zy A1 ?_;rintro w9⟨ak,c9⟩;have B9:=O ak;have C9:=O (C8.o.aA c9);have S6:=O (c9.blk S8.o aj.o);clear ak c9 s0 s1 R a0 a1 a2 a3 a4 f6;have A2:=O (By c B9.o (runP.aB (HR.o _ C0.o) C9.o HD.o) ae.o ab.o);obtain⟨t0,t1⟩:=Q4 S6.o;unfold ptr at A2;go_wp2_with fail;refine Zy A2 ?_;rintro w7⟨E,c7⟩;have B7:=O E;obtain⟨a0,a1,a2,a3,a4⟩:=Ym E;have f7:=E.frozen;have I:Hi (Ye (w7.setCell ⟨b,2,none⟩ (.bool (decide (1≤c)))) (Qn F w (w7.setCell ⟨b,2,none⟩ (.bool (decide (1≤c))))) b (d.serve 1 B c)∧Qc F w (w7.setCell ⟨b,2,none⟩ (.bool (decide (1≤c))))):=O (by
    rw[HW.o];exact H.o.cell (p:=p) (G:=G) (x':=⟨d.run,J,decide (1≤c),d.run.elig J,d.run.reach (min (J+Xr c) Xw)⟩) ai.o ah.o runP ((((C0.o.none.aA C9.o).aA c7).setCell (a:=⟨b,2,none⟩) _ (.inl rfl))) (E.set' 2 _ rfl))
   have aq:decide (c≥1)=decide (1≤c):=rfl;clear E c7 t0 t1;go_wp2;refine bodyPost_end (by simp[*,results,Tryz.results98,go_sem]) rfl ⟨rfl,I.o⟩
  ·rw[if_neg hr,if_neg hr]at V;have HW:=V;have au:((q:Int)==1)=false:=by simp;omega
   have S6:=S5;have C9:Hi (Qc (fun k=>k=b) w5 w5):=O (Zg _ _);obtain⟨s0,s1⟩:=Q4 S5.o;clear hr;have A2:=O (By c B5.o (runP.aB (HR.o _ C0.o) C9.o HD.o) ae.o ag.o);obtain⟨t0,t1⟩:=Q4 S6.o;unfold ptr at A2;go_wp2_with fail;refine Zy A2 ?_;rintro w7⟨E,c7⟩;have B7:=O E;obtain⟨a0,a1,a2,a3,a4⟩:=Ym E;have f7:=E.frozen;have I:Hi (Ye (w7.setCell ⟨b,2,none⟩ (.bool (decide (1≤c)))) (Qn F w (w7.setCell ⟨b,2,none⟩ (.bool (decide (1≤c))))) b (d.serve q B c)∧Qc F w (w7.setCell ⟨b,2,none⟩ (.bool (decide (1≤c))))):=O (by
    rw[HW.o];exact H.o.cell (p:=p) (G:=G) (x':=⟨d.run,g,decide (1≤c),d.elig,d.run.reach (min (g+Xr c) Xw)⟩) ai.o ah.o runP ((((C0.o.none.aA C9.o).aA c7).setCell (a:=⟨b,2,none⟩) _ (.inl rfl))) (E.set' 2 _ rfl))
   have aq:decide (c≥1)=decide (1≤c):=rfl;clear E c7 t0 t1;go_wp2;refine bodyPost_end (by simp[*,results,Tryz.results98,go_sem]) rfl ⟨rfl,I.o⟩
abbrev Yq:World→Fp→Nat→List Xu→Prop:=O1 185 (fun _ p=>#[ptr p]) (fun l=>l) Jg
theorem Yq.obj:Hf Yq:=O1.obj Jg.obj
theorem Qod(w):Cl 64 #[] w fun e w'=>∃b,e=.returned (ptr b)∧Yq w' (Qn Qb w w') b []∧Qc Qb w w':=by
 have z:=O (Bw w);go_enter func64,ntmps64;go_wp2_with fail;refine Zo z ?_;rintro e w1⟨p,rfl,u,d⟩;have c:Hi (∀w',w'=w1.alloc (.cells #[ZP p] 185)→Yq w' (Qn Qb w w') w1.heap.size []∧Qc Qb w w'):=O (by
  rintro w' rfl;have q:Qc Qb w1 (w1.alloc (.cells #[ZP p] 185)):=(Zg _ _).alloc _;have s1:=d.size;exact⟨O1.new (p:=p) (Jg.obj.aB u q (Jl.none _)) (fun k B=>B.elim (fun h=>h.elim) (fun h=>h.1)) Jg.obj (Qh.new _ _ _) (by omega) (fun h=>h.elim (fun h=>h.elim) (fun h=>by omega)),d.aA q⟩)
 clear u d;go_wp2;go_ret;exact⟨_,rfl,c.o _ rfl⟩
theorem Qj8{w}{F:Fp}{b:Nat}{l:List Xu}(h:Yq w F b l):Cl 71 #[ptr b] w fun e w'=>∃b',e=.returned (ptr b')∧Yq w' (Qn Qb w w') b' l∧Qc Qb w w':=by
 obtain⟨p,G,z,d,V⟩:=h.ex;have J:=O (Ao d);have R:=Jf z;have K:Hi (Cl 124 #[ptr b,.func (.func 125) #[] #[],.pointer none] w fun e w'=>∃b',e=.returned (ptr b')∧Jg w' (Qn Qb w w') b' l∧Qc Qb w w'):=O (by
  clear h z d;go_enter func124,ntmps124;go_wp2_with fail;refine Zo J ?_;rintro e w1⟨q,rfl,E,c⟩;have I:=O (Zt E c);clear E c;go_wp2;go_ret;exact⟨_,rfl,I.o⟩)
 clear h z d R;go_enter func71,ntmps71;go_wp2_with fail;refine Zo K ?_;rintro e w1⟨q,rfl,d,c⟩;have u:Hi (∀w',w'=w1.alloc (.cells #[ZP q] 185)→Yq w' (Qn Qb w w') w1.heap.size l∧Qc Qb w w'):=O (by
  rintro w' rfl;have B:Qc Qb w1 (w1.alloc (.cells #[ZP q] 185)):=(Zg _ _).alloc _;have s1:=c.size;exact⟨O1.new (p:=q) (Jg.obj.aB d B (Jl.none _)) (fun k U=>U.elim (fun h=>h.elim) (fun h=>h.1)) Jg.obj (Qh.new _ _ _) (by omega) (fun h=>h.elim (fun h=>h.elim) (fun h=>by omega)),c.aA B⟩)
 clear d c;go_wp2;go_ret;exact⟨_,rfl,u.o _ rfl⟩
theorem Qj9{w}{F:Fp}{b:Nat}{l:List Xu}(h:Yq w F b l)(hl:l.length<4611686018427387904)(id:Int):
  ZW 152 #[ptr b,ZI id] w (.bool (On id l).isSome) fun w'=>Yq w' (Qn F w w') b (Xa id l)∧Qc F w w':=by
 obtain⟨q,I⟩:=Zx (w.heap.size);obtain⟨W,u⟩:=Zx (w.alloc (.cells #[ZI id] 3));have K:Hi (Qc Qb w W):=O (by rw[u];exact(Zg _ _).alloc _);have K0:Hi (Qh W q #[ZI id] 3):=O (by rw[u,I];exact Qh.new _ _ _);have Z:=O h.bd;have h:=Yq.obj.aB h K.o (Jl.none F);have H:=O h;obtain⟨p,G,E,R,hG⟩:=h.ex;have HA:=O (Tt R hl id);have B:=O hG;have a0:=Jf E;have HB:=O E;have k0:=Jf K0.o;generalize Xa id l=J at HA⊢;have HC:Hi (ZW 209 #[ptr p,ptr q] W (.bool (On id l).isSome) fun w'=>Jg w' (Qn G W w') p J∧Qc G W w'):=O (by
  clear h E R a0 u I;go_enter func209,ntmps209;go_wp2_with fail;refine Zy HA ?_;rintro w1⟨d,c⟩;have z:=O (Zt d c);clear d c;go_wp2;go_ret;exact⟨rfl,z.o⟩)
 have HK:Hi (ZW 208 #[ptr b,.func (.func 209) #[] #[ptr q],.bool false] W (.bool (On id l).isSome) fun w'=>Jg w' (Qn G W w') p J∧Qc G W w'):=O (by
  clear h E R u I;go_enter func208,ntmps208;go_wp2_with fail;refine Zy HC ?_;rintro w1⟨d,c⟩;have z:=O (Zt d c);clear d c;go_wp2;go_ret;exact⟨rfl,z.o⟩)
 have V:Hi (∀w',Jg w' (Qn G W w') p J→Qc G W w'→Yq w' (Qn F w w') b J∧Qc F w w'):=O (by
  intro w' d c;have hp:=H.o.made (x':=J) B.o Jg.obj c d (Zg _ _) (c.blk HB.o (fun h=>(B.o _ h).2 rfl));exact⟨Yq.obj.more hp.1 (fun k U=>U.elim .inl (fun U=>.inr ⟨Zp K.o.size U.1,U.2⟩)) (Z.o.ext (K.o.none.aA hp.2)),K.o.none.aA hp.2⟩)
 clear h E R a0 k0;go_enter func152,ntmps152;go_wp2_with fail;rw[←I,←u];refine Zy HK ?_;rintro w1⟨d,c⟩;have z:=O (V.o _ d c);clear d c u I;go_wp2;go_ret;exact⟨rfl,z.o⟩
theorem Qoe{w}{F:Fp}{b:Nat}{l:List Xu}(h:Yq w F b l)(hl:l.length<4611686018427387903)(id:Int)(n v:Nat):
  ZW 153 #[ptr b,ZI id,ZU n,ZU v] w (.tuple #[]) fun w'=>Yq w' (Qn F w w') b (Vf id n v l)∧Qc F w w':=by
 obtain⟨q,z⟩:=Zx (w.heap.size);obtain⟨W,u⟩:=Zx (((w.alloc (.cells #[ZI id] 3)).alloc (.cells #[ZU n] 22)).alloc (.cells #[ZU v] 22));have K:Hi (Qc Qb w W):=O (by rw[u];exact(((Zg _ _).alloc _).alloc _).alloc _);have K0:Hi (Qh W q #[ZI id] 3):=O (by rw[u,z];exact((Qh.new _ _ _).alloc _).alloc _);have K1:Hi (Qh W (q+1) #[ZU n] 22):=O (by rw[u,z];exact(Qh.new' _ _ (by simp)).alloc _);have K2:Hi (Qh W (q+1+1) #[ZU v] 22):=O (by rw[u,z];exact Qh.new' _ _ (by simp));have Z:=O h.bd;have h:=Yq.obj.aB h K.o (Jl.none F);have H:=O h;obtain⟨p,G,I,R,hG⟩:=h.ex;have HA:=O (Qct R hl id n v);have E:=O hG;have a0:=Jf I;have HB:=O I;have k0:=Jf K0.o;have k1:=Jf K1.o;have k2:=Jf K2.o;generalize Vf id n v l=J at HA⊢;have HC:Hi (ZW 211 #[ptr p,ptr q,ptr (q+1),ptr (q+1+1)] W (.bool true) fun w'=>Jg w' (Qn G W w') p J∧Qc G W w'):=O (by
  clear h I R a0 u z;go_enter func211,ntmps211;go_wp2_with fail;refine Zy HA ?_;rintro w1⟨d,c⟩;have B:=O (Zt d c);clear d c;go_wp2;go_ret;exact⟨rfl,B.o⟩)
 have HK:Hi (ZW 208 #[ptr b,.func (.func 211) #[] #[ptr q,ptr (q+1),ptr (q+1+1)],.bool false] W (.bool true) fun w'=>Jg w' (Qn G W w') p J∧Qc G W w'):=O (by
  clear h I R u z;go_enter func208,ntmps208;go_wp2_with fail;refine Zy HC ?_;rintro w1⟨d,c⟩;have B:=O (Zt d c);clear d c;go_wp2;go_ret;exact⟨rfl,B.o⟩)
 have V:Hi (∀w',Jg w' (Qn G W w') p J→Qc G W w'→Yq w' (Qn F w w') b J∧Qc F w w'):=O (by
  intro w' d c;have hp:=H.o.made (x':=J) E.o Jg.obj c d (Zg _ _) (c.blk HB.o (fun h=>(E.o _ h).2 rfl));exact⟨Yq.obj.more hp.1 (fun k U=>U.elim .inl (fun U=>.inr ⟨Zp K.o.size U.1,U.2⟩)) (Z.o.ext (K.o.none.aA hp.2)),K.o.none.aA hp.2⟩)
 clear h I R a0 k0 k1 k2;go_enter func153,ntmps153;go_wp2_with fail;rw[←z,←u];refine Zy HK ?_;rintro w1⟨d,c⟩;have B:=O (V.o _ d c);clear d c u z;go_wp2;refine bodyPost_end (by simp[*,results,Tryz.results153,go_sem]) rfl ⟨rfl,B.o⟩
theorem Qka{w}{F:Fp}{b:Nat}{l:List Xu}(h:Yq w F b l)(k:Nat):
  ZW 53 #[ptr b,ZU k] w (.tuple #[ZI ((Jt k l).getD (0,0)).2,.bool (Jt k l).isSome]) fun w'=>Qc Qb w w':=by
 obtain⟨p,G,hB,hA,hG⟩:=h.ex;have HA:=O (fun w'(U:Qc Qb w w')=>Qge (Jg.obj.aB hA U (Jl.none G)) k);obtain⟨d,aa⟩:=Zx (((Jt k l).getD (0,0)).2);obtain⟨u,ab⟩:=Zx ((Jt k l).isSome);rw[←aa,←ab]at HA⊢;have HB:=O hB;clear aa ab h hB hA;have HC:Hi (∀W q,Qc Qb w W→Qh W q #[ZU k] 22→ZW 92 #[ptr p,ptr q] W (.agg #[ZI d,.bool u]) fun w'=>Qc Qb W w'):=O (by
  intro W q U R;obtain⟨s,B⟩:=Zx (W.heap.size);obtain⟨z,c⟩:=Zx (W.alloc (.cells #[ZI 0,.bool false] 160));have I:Hi (Qc Qb W z):=O (by rw[c];exact(Zg _ _).alloc _);have Z:Hi (Qh z s #[ZI 0,.bool false] 160):=O (by rw[c,B];exact Qh.new _ _ _);have HL:=O (HA.o z (U.aA I.o));have HS:=O B;have q0:=Jf (show Qh (W.alloc (.cells #[ZI 0,.bool false] 160)) q _ _ from c▸I.o.blk R (fun h=>h));clear U R;go_enter func92,ntmps92;go_wp2_with fail;rw[←c,←B];refine Zy HL ?_;intro w1 J;have V:=O (J.blk Z.o (fun h=>h));obtain⟨s0,s1⟩:=Q4 V.o;have f1:=V.o.frozen;have E:Hi (Qc Qb W ((((w1.setCell ⟨s,0,none⟩ (ZI d)).setCell ⟨s,1,none⟩ (.bool u)).setCell ⟨s,0,none⟩ (ZI d)).setCell ⟨s,1,none⟩ (.bool u))):=O (by
   have c2:=I.o.aA J;have af:=HS.o;exact(((c2.setCell (a:=⟨s,0,none⟩) _ (.inr (by show W.heap.size≤s;omega))).setCell (a:=⟨s,1,none⟩) _ (.inr (by show W.heap.size≤s;omega))).setCell (a:=⟨s,0,none⟩) _ (.inr (by show W.heap.size≤s;omega))).setCell (a:=⟨s,1,none⟩) _ (.inr (by show W.heap.size≤s;omega)))
  have S9:Hi (Qh ((((w1.setCell ⟨s,0,none⟩ (ZI d)).setCell ⟨s,1,none⟩ (.bool u)).setCell ⟨s,0,none⟩ (ZI d)).setCell ⟨s,1,none⟩ (.bool u)) s #[ZI d,.bool u] 160):=O ((((V.o.set' 0 _ rfl).set' 1 _ rfl).set' 0 _ rfl).set' 1 _ rfl);clear c B q0 J;go_wp2;generalize((((w1.setCell ⟨s,0,none⟩ (ZI d)).setCell ⟨s,1,none⟩ (.bool u)).setCell ⟨s,0,none⟩ (ZI d)).setCell ⟨s,1,none⟩ (.bool u))=w9 at S9 E⊢;obtain⟨e0,e1⟩:=Q4 S9.o;refine bodyPost_ret (v:=.agg #[ZI d,.bool u]) ?_ rfl ⟨rfl,?_⟩;·simp[*,results,Tryz.results92,go_sem]
  ·exact E.o)
 have HK:Hi (∀W q,Qc Qb w W→Qh W q #[ZU k] 22→ZW 91 #[ptr b,.func (.func 92) #[] #[ptr q],.agg #[ZI 0,.bool false]] W (.agg #[ZI d,.bool u]) fun w'=>Qc Qb W w'):=O (by
  intro W q U R;obtain⟨s,B⟩:=Zx (W.heap.size);obtain⟨z,c⟩:=Zx ((W.alloc (.cells #[ZI 0,.bool false] 160)).alloc (.cells #[ZI 0,.bool false] 160));have I:Hi (Qc Qb W z):=O (by rw[c];exact((Zg _ _).alloc _).alloc _);have Z:Hi (Qh z (s+1) #[ZI 0,.bool false] 160):=O (by rw[c,B];exact Qh.new' _ _ (by simp));have HL:=O (HC.o z q (U.aA I.o) (I.o.blk R (fun h=>h)));have HS:=O B;have b0:=Jf (show Qh ((W.alloc (.cells #[ZI 0,.bool false] 160)).alloc (.cells #[ZI 0,.bool false] 160)) b _ _ from c▸(U.aA I.o).blk HB.o (fun h=>h));clear U R;go_enter func91,ntmps91;go_wp2_with fail;rw[←c,←B];refine Zy HL ?_;intro w1 J;have V:=O (J.blk Z.o (fun h=>h));obtain⟨s0,s1⟩:=Q4 V.o;have f1:=V.o.frozen;have E:Hi (Qc Qb W ((w1.setCell ⟨s+1,0,none⟩ (ZI d)).setCell ⟨s+1,1,none⟩ (.bool u))):=O (by
   have c2:=I.o.aA J;have af:=HS.o;exact(c2.setCell (a:=⟨s+1,0,none⟩) _ (.inr (by show W.heap.size≤s+1;omega))).setCell (a:=⟨s+1,1,none⟩) _ (.inr (by show W.heap.size≤s+1;omega)))
  have S9:Hi (Qh ((w1.setCell ⟨s+1,0,none⟩ (ZI d)).setCell ⟨s+1,1,none⟩ (.bool u)) (s+1) #[ZI d,.bool u] 160):=O ((V.o.set' 0 _ rfl).set' 1 _ rfl);clear c B b0 J;go_wp2;generalize((w1.setCell ⟨s+1,0,none⟩ (ZI d)).setCell ⟨s+1,1,none⟩ (.bool u))=w9 at S9 E⊢;obtain⟨e0,e1⟩:=Q4 S9.o;refine bodyPost_ret (v:=.agg #[ZI d,.bool u]) ?_ rfl ⟨rfl,?_⟩;·simp[*,results,Tryz.results91,go_sem]
  ·exact E.o)
 obtain⟨q,R⟩:=Zx (w.heap.size);obtain⟨W,hW⟩:=Zx (w.alloc (.cells #[ZU k] 22));have C0:Hi (Qc Qb w W):=O (by rw[hW];exact(Zg _ _).alloc _);have K0:Hi (Qh W q #[ZU k] 22):=O (by rw[hW,R];exact Qh.new _ _ _);have ae:=O (HK.o W q C0.o K0.o);go_enter func53,ntmps53;go_wp2_with fail;rw[←R,←hW];clear R hW;refine Zy ae ?_;intro w1 J;have I:=O (C0.o.aA J);obtain⟨s,B⟩:=Zx (w1.heap.size);obtain⟨z,c⟩:=Zx (w1.alloc (.cells #[ZI d,.bool u] 160));have C2:Hi (Qc Qb w z):=O (by rw[c];exact I.o.alloc _);have Z:Hi (Qh z s #[ZI d,.bool u] 160):=O (by rw[c,B];exact Qh.new _ _ _);have E1:=fun x=>Q4 (Qk (S:=Qb) Z.o (fun h=>h) x);clear J;go_wp2_with fail;rw[←B,←c];clear B c;refine ZE [] [0,1,2,3] [4,5] [] (Qb) z ?_;simp only[pick,Zf,Ze,Zd];refine Qg ?_;iterate 4 (refine Ql (fun K hK=>?_);go_simp;refine hK _ ?_;clear hK K)
 refine Qg ?_;intro _ ag;obtain⟨xo,ac⟩:=ag;subst ac;simp only[Jd];have c3:=O (Qv Qb z xo);generalize Qz Qb z xo=w3 at c3⊢;clear E1;go_wp2;refine⟨Qd c3.o,?_⟩;go_wp2;refine⟨Qd c3.o,?_⟩;go_wp2;go_ret2;exact⟨rfl,C2.o.aA c3.o⟩
theorem Qj5{w}{F:Fp}{b:Nat}{d:Ju}(h:Ye w F b d)(hn:d.run.l.length<549755813888):
  Cl 74 #[ptr b] w fun e w'=>∃b',e=.returned (ptr b')∧Ye w' (Qn Qb w w') b' d∧Qc Qb w w':=by
 obtain⟨p,G,J,U,hG⟩:=h.ex;have HN:=O (Ty J);obtain⟨k,K⟩:=Zx (w.heap.size);obtain⟨W,B⟩:=Zx (w.alloc (.cells (Fs d p) 196));have I:Hi (Qc Qb w W):=O (by rw[B];exact(Zg _ _).alloc _);have E:Hi (Qh W k (Fs d p) 196):=O (by rw[B,K];exact Qh.new _ _ _);have Z:=O K;have V:=O (Mo (runP.aB U I.o (Jl.none G)) (by omega));obtain⟨a0,a1,a2,a3,a4⟩:=Ym J;obtain⟨e0,e1,e2,e3,e4⟩:=Ym (show Qh (w.alloc (.cells (Fs d p) 196)) b _ _ from B▸I.o.blk J (fun h=>h));unfold Fs ptr at*;clear h J U hG hn;go_enter func74,ntmps74;go_wp2_with fail;refine Zy HN ?_;rintro w1 rfl;go_wp2_with fail;rw[←K,←B];refine Zo V ?_;rintro e w2⟨q,rfl,z,u⟩;have R:Hi (∀w',w'=w2.setCell ⟨k,0,none⟩ (ZP q)→Ye w' (Qn Qb w w') k d∧Qc Qb w w'):=O (by
  rintro w' rfl;have ab:=Z.o;have aa:=E.o.lt;have hc:Qc (fun j=>j=k) w2 (w2.setCell ⟨k,0,none⟩ (ZP q)):=(Zg (fun j=>j=k) w2).setCell (a:=⟨k,0,none⟩) _ (.inl rfl);have s0:=I.o.size;refine⟨O1.new (p:=q) (G:=Qn Qb W w2) (runP.aB z hc ?_) (fun j c=>c.elim (fun h=>h.elim) (fun h=>by omega)) runP ((u.blk E.o (fun h=>h)).set' 0 _ rfl) (by omega) (fun h=>h.elim (fun h=>h) (fun h=>by omega)),(I.o.aA u).setCell (a:=⟨k,0,none⟩) _ (.inr (by show w.heap.size≤k;omega))⟩;rintro j c rfl;rcases c with c|c;·exact c
  ·omega)
 have f2:∀j,w2.frozen? ⟨k,j,none⟩=false:=(u.blk E.o (fun h=>h)).frozen;obtain⟨d0,d1,d2,d3,d4⟩:=Ym (u.blk E.o (fun h=>h));clear K B z u a0 a1 a2 a3 a4 e0 e1 e2 e3 e4;go_wp2;go_ret;exact⟨_,rfl,R.o _ rfl⟩
def Kv(w:World)(F:Fp)(v:Value)(o:Option Ju):Prop:=match o with
 |none=>v=.pointer none∧Bd F w
 |some d=>∃b,v=ptr b∧Ye w F b d
theorem Kv.good(v:Value)(o:Option Ju):Uy (fun w F=>Kv w F v o):=by
 cases o with
 |none=>exact Qop _
 |some d=>exact Qtk (P:=fun b w F=>v=ptr b∧Ye w F b d) (fun b=>⟨fun h=>Ye.obj.bd h.2,fun h k q=>⟨h.1,Ye.obj.aB h.2 k q⟩,fun h u c=>⟨h.1,Ye.obj.more h.2 u c⟩⟩)
theorem Qn8(c:Jy)(d:c.May)(w):Cl 171 #[cV c] w fun e w'=>∃b,e=.returned (ptr b)∧Ye w' (Qn Qb w w') b (Ju.new c)∧Qc Qb w w':=by
 obtain⟨W,k⟩:=Zx (w.alloc (.cells #[ZU c.f,ZU c.l,ZU c.r] 27));have K:Hi (Qc Qb w W):=O (by rw[k];exact(Zg _ _).alloc _);have J:Hi (Qh W w.heap.size #[ZU c.f,ZU c.l,ZU c.r] 27):=O (by rw[k];exact Qh.new _ _ _);have E:=O (fun w=>K8 c w);rw[decide_eq_true d]at E;have R:=O (fun w=>Cv c d w);unfold cV ptr at*;clear d;go_enter func171,ntmps171;go_wp2_with fail;rw[←k];refine Zz (E.o _) ?_;intro w1 u;obtain⟨U,V,Z⟩:=L6 (u.blk J.o (fun h=>h));have B:=O (K.o.aA u);clear u k;go_wp2_with fail;refine(R.o _).mono ?_;rintro e w2⟨p,rfl,I,z⟩;have q:Hi (∀w',w'=w2.alloc (.cells #[ZP p,ZU 0,.bool false,ZU 0,ZU 0] 196)→Ye w' (Qn Qb w w') w2.heap.size (Ju.new c)∧Qc Qb w w'):=O (by
  rintro w' rfl;have d:Qc Qb w2 (w2.alloc (.cells #[ZP p,ZU 0,.bool false,ZU 0,ZU 0] 196)):=(Zg _ _).alloc _;have s1:=B.o.size;have s2:=z.size;exact⟨O1.new (p:=p) (G:=Qn Qb w1 w2) (runP.aB I d (Jl.none _)) (fun j hj=>hj.elim (fun h=>h.elim) (fun h=>by omega)) runP (Qh.new _ _ _) (by omega) (fun h=>h.elim (fun h=>h) (fun h=>by omega)),(B.o.aA z).aA d⟩)
 clear I z U V Z;go_wp2;go_ret;exact⟨_,rfl,q.o _ rfl⟩
theorem Qgx(c:Jy)(E:c.May)(w):Cl 105 #[cV c] w fun e w'=>∃v,e=.returned v∧Kv w' (Qn Qb w w') v (Xl c)∧Qc Qb w w':=by
 obtain⟨W,B⟩:=Zx (w.alloc (.cells #[ZU c.f,ZU c.l,ZU c.r] 27));have K:Hi (Qc Qb w W):=O (by rw[B];exact(Zg _ _).alloc _);have V:Hi (Qh W w.heap.size #[ZU c.f,ZU c.l,ZU c.r] 27):=O (by rw[B];exact Qh.new _ _ _);have J:=O (fun w=>Kz c w);have Z:=O (fun w=>Qn8 c E w);unfold Xl;cases d:c.none with
 |true=> rw[d]at J;have u:=O (fun w'(E:Qc Qb w w')=>show Kv w' (Qn Qb w w') (.pointer none) none∧Qc Qb w w' from⟨⟨rfl,fun k q=>q.elim (fun h=>h.elim) (fun h=>h.2)⟩,E⟩);rw[if_pos rfl];unfold cV ptr at*;clear E d;go_enter func105,ntmps105;go_wp2_with fail;rw[←B];refine Zz (J.o _) ?_;intro w1 z;have I:=O (K.o.aA z);clear z B;go_wp2;go_ret;exact⟨_,rfl,u.o _ I.o⟩
 |false=> rw[d]at J;rw[if_neg Bool.false_ne_true];unfold cV ptr at*;clear E d;go_enter func105,ntmps105;go_wp2_with fail;rw[←B];refine Zz (J.o _) ?_;intro w1 z;obtain⟨a0,a1,a2⟩:=L6 (z.blk V.o (fun h=>h));have I:=O (K.o.aA z);clear z B;go_wp2_with fail;refine(Z.o _).mono ?_;rintro e w2⟨p,rfl,U,R⟩;have u:Hi (Kv w2 (Qn Qb w w2) (ZP p) (some (Ju.new c))∧Qc Qb w w2):=O (⟨⟨p,rfl,Ye.obj.more U (fun k q=>q.elim .inl (fun q=>.inr ⟨Zp I.o.size q.1,q.2⟩)) (fun k q=>q.elim (fun h=>h.elim) (fun h=>h.2))⟩,I.o.aA R⟩);clear U R a0 a1 a2;go_wp2;go_ret;exact⟨_,rfl,u.o⟩
theorem Qkb{w}{F H:Fp}{b q:Nat}{l:List Xu}{d:Ju}(h:Yq w F b l)(u:Ye w H q d)(I:l.length<4611686018427387903)(id:Int):
  ZW 99 #[ptr b,ZI id,ptr q] w (.tuple #[]) fun w'=>Yq w' (Qn F w w') b (Hj l id d)∧Qc F w w':=by
 have z:=O (Li u);have J:=O (Ay u);have K:=O (Cb u);unfold Ju.from_ Ju.dueAt at*;cases ha:d.aL with
 |false=> rw[ha]at z;have E:=O (Qj9 h (by omega) id);rw[show Hj l id d=Xa id l by unfold Hj;rw[ha];rfl];clear h u ha I;go_enter func99,ntmps99;go_wp2_with fail;refine Zy z ?_;rintro w1 rfl;go_wp2_with fail;refine Zy E ?_;rintro w1⟨k,c⟩;have B:=O (Zt k c);clear k c;go_wp2;refine bodyPost_ret (v:=.tuple #[]) (by simp[results,Tryz.results99,go_sem]) rfl ⟨rfl,B.o⟩
 |true=> rw[ha,if_pos rfl]at J K;rw[ha]at z;have E:=O (Qoe h I id d.elig d.due);rw[show Hj l id d=Vf id d.elig d.due l by unfold Hj;rw[ha];rfl];clear h u ha I;go_enter func99,ntmps99;go_wp2_with fail;refine Zy z ?_;rintro w1 rfl;go_wp2_with fail;refine Zy J ?_;rintro w1 rfl;go_wp2_with fail;refine Zy K ?_;rintro w1 rfl;go_wp2_with fail;refine Zy E ?_;rintro w1⟨k,c⟩;have B:=O (Zt k c);clear k c;go_wp2;refine bodyPost_end (by simp[*,results,Tryz.results99,go_sem]) rfl ⟨rfl,B.o⟩
section
abbrev Oj:World→Fp→Nat→Xh→Prop:=O1 252 (fun _ p=>#[.iface 248 (.agg #[ptr p])]) (fun r=>r) Yv
theorem Oj.obj:Hf Oj:=O1.obj runP
def Ho(w:World)(F:Fp)(b:Nat)(l:Kg):Prop:=match l with
 |none=>Tv b #[.iface 293 (.agg #[])] 252 w F
 |some r=>Oj w F b r
theorem Ho.obj:Hf Ho where
 bd:=fun{w F b x}h=>by cases x with|none=>exact(Ks _ _ _).bd h|some r=>exact Oj.obj.bd h
 own:=fun{w F b x}h=>by cases x with|none=>exact h.2.1|some r=>exact Oj.obj.own h
 aB:=fun{w w' F S b x}h d k=>by cases x with|none=>exact(Ks _ _ _).aB h d k|some r=>exact Oj.obj.aB h d k
 more:=fun{w F u b x}h q c=>by cases x with|none=>exact(Ks _ _ _).more h q c|some r=>exact Oj.obj.more h q c
theorem Qbg(v:Value)(w):(Instr.typeAssert (.iface 248 v) 250 248 true).run prog w=.ok (.tuple #[v,.bool true]) w:=by have h:=underlying248;simp[Instr.typeAssert,run_underlying h,go_sem,Result.andThen]
theorem Qck(v:Value)(w):(Instr.typeAssert (.iface 293 v) 250 248 true).run prog w=.ok (.tuple #[.agg #[.pointer none],.bool false]) w:=by
 have h:=underlying248;have c:(zeroValue 248).run prog w=.ok (.agg #[.pointer none]) w:=by go_simp
 simp[Instr.typeAssert,run_underlying h,go_sem,Result.andThen,c]
theorem Iu(v:Value)(w):(Instr.typeAssert (.iface 293 v) 250 293 true).run prog w=.ok (.tuple #[v,.bool true]) w:=by have h:=underlying293;simp[Instr.typeAssert,run_underlying h,go_sem,Result.andThen]
attribute [local go_sem] Qbg Qck Iu
theorem Rg{w}{b p:Nat}(h:Qh w b #[.iface 248 (.agg #[ptr p])] 252):ZW 187 #[ptr b] w (ptr p) fun w'=>Qc Qb w w':=by have c:=Jf h;clear h;go_enter func187,ntmps187;go_wp2;go_ret;refine⟨rfl,?_⟩;(exact Z0)
theorem Mc{w}{b:Nat}(h:Qh w b #[.iface 293 (.agg #[])] 252):ZW 187 #[ptr b] w (.pointer none) fun w'=>Qc Qb w w':=by have c:=Jf h;clear h;go_enter func187,ntmps187;go_wp2;go_ret;refine⟨rfl,?_⟩;(exact Z0)
theorem F8(w):ZW 187 #[.pointer none] w (.pointer none) fun w'=>Qc Qb w w':=by go_enter func187,ntmps187;go_wp2;go_ret;exact⟨rfl,Zg _ _⟩
end
theorem Qkw{w}{F:Fp}{b:Nat}{l:Kg}(h:Ho w F b l)(hn:∀r,l=some r→r.l.length<549755813888)(now c:Nat)(U:now<18446744073709551616)(V:c<18446744073709551616):
  ZW 176 #[ptr b,ZU now,ZU c] w (.tuple #[]) fun w'=>Ho w' (Qn F w w') b (l.wake now c)∧Qc F w w':=by
 have E:=O (fun w'(hc:Qc Qb w w')=>Ho.obj.same h hc);cases l with
 |none=> have I:=O (Mc h.1);rw[show Kg.wake none now c=none from rfl];clear h hn U V;go_enter func176,ntmps176;go_wp2_with fail;refine Zy I ?_;intro w1 u;have d:=O u;clear u;go_wp2;refine bodyPost_end (by simp[*,results,Tryz.results176,go_sem]) rfl ⟨rfl,E.o _ d.o⟩
 |some r=>
  have h:Oj w F b r:=h;have H:=O h;obtain⟨p,G,Z,hR,hG⟩:=h.ex;have I:=O (Rg Z);have J:=O Z;have q:=O hG;have HR:=O (fun w'(hc:Qc Qb w w')=>Rv (runP.aB hR hc (Jl.none G)) (hn r rfl) now c U V);rw[show Kg.wake (some r) now c=some (r.start now c)from rfl];have K:=O (runP.bd hR);clear h hn U V Z hR hG;go_enter func176,ntmps176;go_wp2_with fail;refine Zy I ?_;intro w1 u;have d:=O u;clear u;go_wp2_with fail;refine Zz (HR.o _ d.o) ?_;rintro w2⟨z,c2⟩;have FF:Hi (Oj w2 (Qn F w w2) b (r.start now c)∧Qc F w w2):=O (by
   have R:Qc G w w2:=d.o.none.aA c2;exact H.o.made (x':=r.start now c) q.o runP R (runP.more z (fun k B=>B.elim .inl (fun B=>.inr ⟨Zp d.o.size B.1,B.2⟩)) (K.o.ext R)) (Zg _ _) (R.blk J.o (fun h=>(q.o _ h).2 rfl)))
  clear z c2;go_wp2;refine bodyPost_end (by simp[*,results,Tryz.results176,go_sem]) rfl ⟨rfl,FF.o⟩
theorem Qo1{w}{F:Fp}{b:Nat}{l:Kg}(h:Ho w F b l)(z:∀r,l=some r→r.l.length<549755813888)(c:Nat)(u:c<18446744073709551616):
  ZW 245 #[ptr b,ZU c] w (ZU (l.fit c:Nat)) fun w'=>Qc Qb w w':=by
 cases l with
 |none=> have q:=O (Mc h.1);rw[show Kg.fit none c=0 from rfl];clear h z u;go_enter func245,ntmps245;go_wp2_with fail;refine Zy q ?_;intro w1 d;have k:=O d;clear d;go_wp2;go_ret;exact⟨rfl,k.o⟩
 |some r=> have h:Oj w F b r:=h;obtain⟨p,G,I,J,R⟩:=h.ex;have q:=O (Rg I);have B:=O (fun w'(U:Qc Qb w w')=>Ru (runP.aB J U (Jl.none G)) (by have:=z r rfl;omega) c u);rw[show Kg.fit (some r) c=r.reach c from rfl];generalize r.reach c=x at B⊢;clear h z u I J R;go_enter func245,ntmps245;go_wp2_with fail;refine Zy q ?_;intro w1 d;have k:=O d;clear d;go_wp2_with fail;refine Zz (B.o _ k.o) ?_;intro w2 E;have K:=O (k.o.aA E);clear E;go_wp2;go_ret;exact⟨rfl,K.o⟩
theorem Qku{w}{F:Fp}{b:Nat}{l:Kg}(h:Ho w F b l)(J:∀r,l=some r→r.l.length<549755813888):
  Cl 126 #[ptr b] w fun e w'=>∃b',e=.returned (ptr b')∧Ho w' (Qn Qb w w') b' l∧Qc Qb w w':=by
 cases l with
 |none=>
  have E:=O (Mc h.1);have U:=O h.1;clear h J;go_enter func126,ntmps126;go_wp2_with fail;refine Zy E ?_;intro w1 d;have a0:=Jf (d.blk U.o (fun h=>h));have c:Hi (∀w',w'=w1.alloc (.cells #[.iface 293 (.agg #[])] 252)→Ho w' (Qn Qb w w') w1.heap.size none∧Qc Qb w w'):=O (by
   rintro w' rfl;exact⟨⟨Qh.new _ _ _,.inr ⟨d.size,by simp⟩,fun k hk=>hk.elim (fun h=>h.elim) (fun h=>h.2)⟩,d.alloc _⟩)
  clear d;go_wp2;go_ret;exact⟨_,rfl,c.o _ rfl⟩
 |some r=>
  have h:Oj w F b r:=h;obtain⟨p,G,K,R,Z⟩:=h.ex;have E:=O (Rg K);have V:=O (fun w'(z:Qc Qb w w')=>Mo (runP.aB R z (Jl.none G)) (by have:=J r rfl;omega));clear h J K R Z;go_enter func126,ntmps126;go_wp2_with fail;refine Zy E ?_;intro w1 d;have B:=O d;clear d;go_wp2_with fail;refine(V.o _ B.o).mono ?_;rintro e w2⟨q,rfl,u,I⟩;have c:Hi (∀w',w'=w2.alloc (.cells #[.iface 248 (.agg #[ZP q])] 252)→Ho w' (Qn Qb w w') w2.heap.size (some r)∧Qc Qb w w'):=O (by
   rintro w' rfl;have z:Qc Qb w2 (w2.alloc (.cells #[.iface 248 (.agg #[ZP q])] 252)):=(Zg _ _).alloc _;have s1:=B.o.size;have s2:=I.size;exact⟨O1.new (p:=q) (G:=Qn Qb w1 w2) (runP.aB u z (Jl.none _)) (fun j hj=>hj.elim (fun h=>h.elim) (fun h=>by omega)) runP (Qh.new _ _ _) (by omega) (fun h=>h.elim (fun h=>h) (fun h=>by omega)),(B.o.aA I).aA z⟩)
  clear u I;go_wp2;go_ret;exact⟨_,rfl,c.o _ rfl⟩
theorem Qdj(c:Jy)(w):Cl 168 #[cV c] w fun e w'=>∃b,e=.returned (ptr b)∧Ho w' (Qn Qb w w') b (Ha c)∧Qc Qb w w':=by
 obtain⟨W,E⟩:=Zx (w.alloc (.cells #[ZU c.f,ZU c.l,ZU c.r] 27));have Z:Hi (Qc Qb w W):=O (by rw[E];exact(Zg _ _).alloc _);have B0:Hi (Qh W w.heap.size #[ZU c.f,ZU c.l,ZU c.r] 27):=O (by rw[E];exact Qh.new _ _ _);have K:=O (fun w=>Kz c w);have V:=O (fun w=>K8 c w);have B:Hi (∀w1 w',Qc Qb w w1→w'=w1.alloc (.cells #[.iface 293 (.agg #[])] 252)→Ho w' (Qn Qb w w') w1.heap.size none∧Qc Qb w w'):=O (by
  rintro w1 w' d rfl;exact⟨⟨Qh.new _ _ _,.inr ⟨d.size,by simp⟩,fun k hk=>hk.elim (fun h=>h.elim) (fun h=>h.2)⟩,d.alloc _⟩)
 unfold Ha;cases z:c.none with
 |true=> rw[z]at K;rw[show(if(true||!decide c.May)=true then(none:Kg)else some (Xh.new c))=none from rfl];unfold cV ptr at*;clear z;go_enter func168,ntmps168;go_wp2_with fail;rw[←E];refine Zz (K.o _) ?_;intro w1 d;have J:=O (Z.o.aA d);clear d E;go_wp2;go_ret;exact⟨_,rfl,B.o _ _ J.o rfl⟩
 |false=>
  rw[z]at K;cases u:decide c.May with
  |false=> rw[u]at V;rw[show(if(false||!false)=true then(none:Kg)else some (Xh.new c))=none from rfl];unfold cV ptr at*;clear z u;go_enter func168,ntmps168;go_wp2_with fail;rw[←E];refine Zz (K.o _) ?_;intro w1 d;obtain⟨a0,a1,a2⟩:=L6 (d.blk B0.o (fun h=>h));have J:=O (Z.o.aA d);clear d E;go_wp2_with fail;refine Zz (V.o _) ?_;intro w2 I;have U:=O (J.o.aA I);clear I a0 a1 a2;go_wp2;go_ret;exact⟨_,rfl,B.o _ _ U.o rfl⟩
  |true=>
   have HR:=O (fun w=>Cv c (of_decide_eq_true u) w);rw[u]at V;rw[show(if(false||!true)=true then(none:Kg)else some (Xh.new c))=some (Xh.new c)from rfl];unfold cV ptr at*;clear z u;go_enter func168,ntmps168;go_wp2_with fail;rw[←E];refine Zz (K.o _) ?_;intro w1 d;have B1:=O (d.blk B0.o (fun h=>h));obtain⟨a0,a1,a2⟩:=L6 B1.o;have J:=O (Z.o.aA d);clear d E;go_wp2_with fail;refine Zz (V.o _) ?_;intro w2 I;have U:=O (J.o.aA I);obtain⟨e0,e1,e2⟩:=L6 (I.blk B1.o (fun h=>h));clear I a0 a1 a2;go_wp2_with fail;refine(HR.o _).mono ?_;rintro e w3⟨q,rfl,R,c3⟩;have aa:Hi (∀w',w'=w3.alloc (.cells #[.iface 248 (.agg #[ZP q])] 252)→Ho w' (Qn Qb w w') w3.heap.size (some (Xh.new c))∧Qc Qb w w'):=O (by
    rintro w' rfl;have hc:Qc Qb w3 (w3.alloc (.cells #[.iface 248 (.agg #[ZP q])] 252)):=(Zg _ _).alloc _;have s1:=U.o.size;have s2:=c3.size;exact⟨O1.new (p:=q) (G:=Qn Qb w2 w3) (runP.aB R hc (Jl.none _)) (fun j hj=>hj.elim (fun h=>h.elim) (fun h=>by omega)) runP (Qh.new _ _ _) (by omega) (fun h=>h.elim (fun h=>h) (fun h=>by omega)),(U.o.aA c3).aA hc⟩)
   clear R c3 e0 e1 e2;go_wp2;go_ret;exact⟨_,rfl,aa.o _ rfl⟩
def Pp(m:Jh)(p:Nat):Array Value:=#[ZU m.total,ZU m.v,ptr p,.bool m.aL]
abbrev Vj:World→Fp→Nat→Jh→Prop:=O1 255 Pp Jh.run Yv
theorem Vj.obj:Hf Vj:=O1.obj runP
theorem Sm{X:Type}{key:X→Int}{Is:World→Fp→Nat→X→Prop}(c:Hf Is)(m:Nat)(ad:Int→Nat)(l:List X):Uy (fun w F=>Yn key Is w F m ad l) where
 bd:=fun h=>h.bd
 aB:=fun h k q=>h.aB c k q
 more:=fun h u d=>h.more u d
theorem Mz{X:Type}{key:X→Int}{l c:List X}(k:l.Perm c)(q:(l.map key).Nodup)(i:Int):Hn key i l=Hn key i c:=by
 have E:(c.map key).Nodup:=(k.map _).nodup_iff.1 q;cases h:Hn key i c with
 |some x=> obtain⟨u,d⟩:=Y3 h;exact Ls q (k.mem_iff.2 u) d
 |none=>
  cases d:Hn key i l with
  |none=>rfl
  |some x=> obtain⟨z,B⟩:=Y3 d;exact absurd B (Lz h x (k.mem_iff.1 z))
def Qtj(b m:Nat)(c:Nat)(ad:Int→Nat)(l:List Jh):List Ya:=
 [Tv b #[.map (some m),ZU c] 245,fun w G=>Yn Jh.id Vj w G m ad l]
theorem Yc(b m c:Nat)(ad:Int→Nat)(l:List Jh):∀P∈Qtj b m c ad l,Uy P:=by
 intro P d;simp only[Qtj,Zu,List.not_mem_nil,or_false]at d;rcases d with rfl|rfl;·exact Ks _ _ _
 ·exact Sm Vj.obj _ _ _
def J0(w:World)(F:Fp)(b:Nat)(f:Jc):Prop:=∃m ad l,l.Perm f.all∧Oh (Qtj b m f.mark ad l) w F
theorem J0.obj:Hf J0 where
 bd:=fun⟨m,ad,l,_,h⟩=>(Je (Yc _ m _ ad l)).bd h
 own:=fun⟨m,ad,l,_,h⟩=>by obtain⟨G,d,k⟩:=J6 (Yc _ m _ ad l) 0 rfl h;exact k _ d.2.1
 aB:=fun⟨m,ad,l,c,h⟩u z=>⟨m,ad,l,c,(Je (Yc _ m _ ad l)).aB h u z⟩
 more:=fun⟨m,ad,l,c,h⟩B q=>⟨m,ad,l,c,(Je (Yc _ m _ ad l)).more h B q⟩
theorem J0.opn{w}{F:Fp}{b:Nat}{f:Jc}(h:J0 w F b f):
  ∃m ad l,l.Perm f.all∧Qh w b #[.map (some m),ZU f.mark] 245∧∃G,Yn Jh.id Vj w G m ad l:=by
 obtain⟨m,ad,l,q,h⟩:=h;obtain⟨u,d,_⟩:=J6 (Yc _ m _ ad l) 0 rfl h;obtain⟨c,k,_⟩:=J6 (Yc _ m _ ad l) 1 rfl h;exact⟨m,ad,l,q,d.1,c,k⟩
theorem Jc.at_eq{f:Jc}{l:List Jh}(d:l.Perm f.all)(c:(l.map Jh.id).Nodup)(i:Int):f.at i=Hn Jh.id i l:=(Mz d c i).symm
theorem Qjt(w):(zeroValue 253).run prog w=.ok (.pointer none) w:=by go_simp
def atP(ad:Int→Nat)(i:Int)(o:Option Jh):Value:=match o with
 |none=>.pointer none
 |some _=>ptr (ad i)
theorem Qb2{w}{G:Fp}{b m:Nat}{v:Value}{ad:Int→Nat}{l:List Jh}(q:Qh w b #[.map (some m),v] 245)(d:Yn Jh.id Vj w G m ad l)(i:Int):
  ZW 213 #[ptr b,ZI i] w (atP ad i (Hn Jh.id i l)) fun w'=>w=w':=by
 have c:=d.look i;have k:=Du (P:=prog) d.map underlying243 underlying3 (Qjt w) i;rw[c]at k;have u:((Hn Jh.id i l).map fun _=>ptr (ad i)).getD (.pointer none)=atP ad i (Hn Jh.id i l):=by cases Hn Jh.id i l<;>rfl
 rw[u]at k;generalize atP ad i (Hn Jh.id i l)=r at k⊢;obtain⟨z,B⟩:=Q4 q;clear q d c u;go_enter func213,ntmps213;go_wp2;go_ret;exact⟨rfl,rfl⟩
theorem famAt{w}{G:Fp}{m:Nat}{ad:Int→Nat}{l:List Jh}(k:Yn Jh.id Vj w G m ad l){i:Int}{x:Jh}(u:Hn Jh.id i l=some x):∃p H,Qh w (ad i) (Pp x p) 255∧Yv w H p x.run:=by obtain⟨c,d⟩:=Y3 u;obtain⟨K,q,_⟩:=k.focus Vj.obj c;obtain⟨p,H,a,b,_⟩:=q.ex;exact⟨p,H,d▸a,b⟩
theorem Quf{w}{F:Fp}{b:Nat}{f:Jc}(h:J0 w F b f)(i:Int):ZW 244 #[ptr b,ZI i] w (ZU (f.v i:Nat)) fun w'=>w=w':=by
 obtain⟨m,ad,l,u,q,G,d⟩:=h.opn;have c:=O (Qb2 q d i);unfold Jc.v;rw[Jc.at_eq u d.nodup];cases k:Hn Jh.id i l with
 |none=> rw[k]at c;dsimp only[atP,Option.map_none,Option.getD_none]at c⊢;clear h u q d k;go_enter func244,ntmps244;go_wp2_with fail;refine Zy c ?_;rintro w1 rfl;go_wp2;go_ret;exact⟨rfl,rfl⟩
 |some x=> obtain⟨p,H,z,_⟩:=famAt d k;obtain⟨B,E,I,J⟩:=X9 z;rw[k]at c;dsimp only[atP,Zn,Option.getD_some]at c⊢;clear h u q d k z;go_enter func244,ntmps244;go_wp2_with fail;refine Zy c ?_;rintro w1 rfl;go_wp2;go_ret;exact⟨rfl,rfl⟩
theorem Qjg{w}{F:Fp}{b:Nat}{f:Jc}(h:J0 w F b f)(i:Int):ZW 215 #[ptr b,ZI i] w (.bool (f.up i)) fun w'=>w=w':=by
 obtain⟨m,ad,l,u,q,G,d⟩:=h.opn;have c:=O (Qb2 q d i);unfold Jc.up;rw[Jc.at_eq u d.nodup];cases k:Hn Jh.id i l with
 |none=> rw[k]at c;dsimp only[atP,Option.map_none,Option.getD_none]at c⊢;clear h u q d k;go_enter func215,ntmps215;go_wp2_with fail;refine Zy c ?_;rintro w1 rfl;go_wp2;go_ret;exact⟨rfl,rfl⟩
 |some x=> obtain⟨p,H,z,_⟩:=famAt d k;obtain⟨B,E,I,J⟩:=X9 z;rw[k]at c;dsimp only[atP,Zn,Option.getD_some]at c⊢;clear h u q d k z;go_enter func215,ntmps215;go_wp2_with fail;refine Zy c ?_;rintro w1 rfl;go_wp2;go_ret;exact⟨rfl,rfl⟩
theorem Qei(w):Cl 117 #[] w fun e w'=>∃b,e=.returned (ptr b)∧J0 w' (Qn Qb w w') b ⟨[],0⟩∧Qc Qb w w':=by
 have z:=@run_makeMap prog;have d:Hi (∀w',w'=(w.alloc (.map #[] 0)).alloc (.cells #[.map (some w.heap.size),ZU 0] 245)→J0 w' (Qn Qb w w') (w.heap.size+1) ⟨[],0⟩∧Qc Qb w w'):=O (by
  rintro w' rfl;have q:Qh ((w.alloc (.map #[] 0)).alloc (.cells #[.map (some w.heap.size),ZU 0] 245)) (w.heap.size+1) #[.map (some w.heap.size),ZU 0] 245:=Qh.new' _ _ (by simp);have c:Xq ((w.alloc (.map #[] 0)).alloc (.cells #[.map (some w.heap.size),ZU 0] 245)) w.heap.size []:=(Xq.new w).aB ((Zg Qb _).alloc _) (fun h=>h);refine⟨⟨w.heap.size,fun _=>0,[],List.Perm.refl _,?_⟩,((Zg _ _).alloc _).alloc _⟩;refine Q7 (G:=fun k=>k=w.heap.size+1) (H:=fun k=>k=w.heap.size) ⟨q,rfl,fun k e=>e▸q.lt⟩ (Y6 (Yn.new c (fun k e=>e▸c.lt) rfl) (fun k e=>e▸c.lt)) ?_ ?_ ?_ (fun k u=>u.elim (fun h=>h.elim) (fun h=>h.2));·rintro k rfl u;omega
  ·rintro k rfl;exact .inr ⟨by omega,q.lt⟩
  ·rintro k rfl;exact .inr ⟨by omega,c.lt⟩)
 unfold ptr;go_enter func117,ntmps117;go_wp2;go_ret;exact⟨_,rfl,d.o _ (by simp)⟩
def Pn(c:Qx)(d:Value)(pf pt:Nat):Array Value:=#[ZI c.par,.bool c.leaf,.bool c.aJ,ZU c.total,d,ptr pf,ptr pt,ZI c.aM]
def Do(v:Value)(l:Kg):Ya:=fun w F=>(v=.pointer none∧l=none∧Bd F w)∨∃b,v=ptr b∧Ho w F b l
theorem Do.good(v:Value)(l:Kg):Uy (Do v l) where
 bd:=fun h=>by
  rcases h with⟨_,_,h⟩|⟨b,_,h⟩;·exact h
  ·exact Ho.obj.bd h
 aB:=fun h q u=>by
  rcases h with⟨c,d,h⟩|⟨b,c,h⟩;·exact .inl ⟨c,d,h.later q⟩
  ·exact .inr ⟨b,c,Ho.obj.aB h q u⟩
 more:=fun h z k=>by
  rcases h with⟨c,d,h⟩|⟨b,c,h⟩;·exact .inl ⟨c,d,k⟩
  ·exact .inr ⟨b,c,Ho.obj.more h z k⟩
structure Dz where
 m:Nat
 ad:Int→Nat
 vl:Int→Value
 pf:Int→Nat
 pt:Int→Nat
def Sy(A:Dz)(c:Qx):List Ya:=
 [Tv (A.ad c.id) (Pn c (A.vl c.id) (A.pf c.id) (A.pt c.id)) 147,Do (A.vl c.id) c.limit,fun w F=>J0 w F (A.pf c.id) c.mem,fun w F=>Jg w F (A.pt c.id) c.tree]
theorem L9(A:Dz)(c:Qx):∀P∈Sy A c,Uy P:=by
 intro P d;simp only[Sy,Zu,List.not_mem_nil,or_false]at d;rcases d with rfl|rfl|rfl|rfl;·exact Ks _ _ _
 ·exact Do.good _ _
 ·exact J0.obj.good _ _
 ·exact Jg.obj.good _ _
def Um(A:Dz)(w:World)(F:Fp)(b:Nat)(c:Qx):Prop:=b=A.ad c.id∧Oh (Sy A c) w F
theorem Um.obj(A:Dz):Hf (Um A) where
 bd:=fun h=>(Je (L9 A _)).bd h.2
 own:=fun h=>by obtain⟨G,c,d⟩:=J6 (L9 A _) 0 rfl h.2;rw[h.1];exact d _ c.2.1
 aB:=fun h q u=>⟨h.1,(Je (L9 A _)).aB h.2 q u⟩
 more:=fun h z k=>⟨h.1,(Je (L9 A _)).more h.2 z k⟩
def Qsa(A:Dz)(b:Nat)(l:List Qx):List Ya:=[Tv b #[.map (some A.m)] 165,fun w G=>Yn Qx.id (Um A) w G A.m A.ad l]
theorem Vh(A:Dz)(b:Nat)(l:List Qx):∀P∈Qsa A b l,Uy P:=by
 intro P c;simp only[Qsa,Zu,List.not_mem_nil,or_false]at c;rcases c with rfl|rfl;·exact Ks _ _ _
 ·exact Sm (Um.obj A) _ _ _
def Qo(A:Dz)(w:World)(F:Fp)(b:Nat)(p:Qe):Prop:=∃l:List Qx,l.Perm p∧Oh (Qsa A b l) w F
theorem Qo.obj(A:Dz):Hf (Qo A) where
 bd:=fun⟨l,_,h⟩=>(Je (Vh A _ l)).bd h
 own:=fun⟨l,_,h⟩=>by obtain⟨G,d,k⟩:=J6 (Vh A _ l) 0 rfl h;exact k _ d.2.1
 aB:=fun⟨l,c,h⟩u z=>⟨l,c,(Je (Vh A _ l)).aB h u z⟩
 more:=fun⟨l,c,h⟩B q=>⟨l,c,(Je (Vh A _ l)).more h B q⟩
section
variable{A:Dz}{w:World}{F:Fp}{b:Nat}{p:Qe}
theorem Qo.coll(h:Qo A w F b p):∃l:List Qx,l.Perm p∧Qh w b #[.map (some A.m)] 165∧∃G,Yn Qx.id (Um A) w G A.m A.ad l:=by obtain⟨l,q,h⟩:=h;obtain⟨u,d,_⟩:=J6 (Vh A b l) 0 rfl h;obtain⟨c,k,_⟩:=J6 (Vh A b l) 1 rfl h;exact⟨l,q,d.1,c,k⟩
theorem Qo.nodup(h:Qo A w F b p):(p.map Qx.id).Nodup:=by obtain⟨l,d,_,G,c⟩:=h.coll;exact((d.map _).nodup_iff).1 c.nodup
theorem Qo.blk(h:Qo A w F b p):Qh w b #[.map (some A.m)] 165:=by obtain⟨l,d,c,_⟩:=h.coll;exact c
theorem Qe.at_eq{l:List Qx}(d:l.Perm p)(c:(l.map Qx.id).Nodup)(i:Int):p.at i=Hn Qx.id i l:=(Mz d c i).symm
theorem Qe.aE{i:Int}{c:Qx}(h:p.at i=some c):c∈p∧c.id=i:=Y3 (key:=Qx.id) h
theorem Qe.at_of{c:Qx}(d:(p.map Qx.id).Nodup)(h:c∈p):p.at c.id=some c:=Ls d h rfl
def pkV(A:Dz)(p:Qe)(i:Int):Value:=match p.at i with
 |none=>.pointer none
 |some _=>ptr (A.ad i)
theorem Qjs(w):(zeroValue 141).run prog w=.ok (.pointer none) w:=by go_simp
theorem Qo.look1(h:Qo A w F b p)(i:Int):(Instr.lookup 163 (.map (some A.m)) (ZI i) false).run prog w=.ok (pkV A p i) w:=by
 obtain⟨l,k,u,G,c⟩:=h.coll;have d:=Du (P:=prog) c.map underlying163 underlying3 (Qjs w) i;rw[c.look i,←Qe.at_eq k c.nodup]at d;have q:((p.at i).map fun _=>ptr (A.ad i)).getD (.pointer none)=pkV A p i:=by unfold pkV;cases p.at i<;>rfl
 rw[q]at d;exact d
theorem Qo.part(h:Qo A w F b p){c:Qx}(hc:c∈p)(i:Nat){R:Ya}(hi:(Sy A c)[i]? =some R):
  ∃G:Fp,R w G∧(∀k,G k→F k)∧∀w' c' Q,c'.id=c.id→Sy A c'=(Sy A c).set i Q→Q w' (Qn G w w')→Qc G w w'→Qo A w' (Qn F w w') b (p.set c')∧Qc F w w':=by
 obtain⟨l,U,h⟩:=h;obtain⟨H,h1,J,_,h3⟩:=Xv 1 (Vh A b l) rfl h;have u:c∈l:=U.mem_iff.2 hc;obtain⟨K,k1,V,k3⟩:=h1.focus (Um.obj A) u;obtain⟨G,g1,I,_,g3⟩:=Xv i (L9 A c) hi k1.2;refine⟨G,g1,fun k z=>J k (V k (I k z)).1,fun w' c' Q q hs hq d=>?_⟩;have Z:Um A w' (Qn K w w') (A.ad c.id) c':=⟨by rw[q],by rw[hs];exact g3 w' Q d hq⟩;have E:Qc K w w':=d.sub I;have e2:=k3 w' c' q Z E;have B:Qc H w w':=E.sub fun k z=>(V k z).1;have e3:=h3 w' (fun w G=>Yn Qx.id (Um A) w G A.m A.ad (Lg Qx.id c' l)) B e2;exact⟨⟨Lg Qx.id c' l,U.map _,e3⟩,B.sub J⟩
theorem Qo.cells(h:Qo A w F b p){c:Qx}(k:c∈p):Qh w (A.ad c.id) (Pn c (A.vl c.id) (A.pf c.id) (A.pt c.id)) 147:=by obtain⟨G,d,_⟩:=h.part k 0 rfl;exact d.1
theorem Qo.setC(h:Qo A w F b p){c c':Qx}(I:c∈p)(d:c'.id=c.id)(K:c'.limit=c.limit)(R:c'.mem=c.mem)(U:c'.tree=c.tree){w'}
  (u:Qc (fun k=>k=A.ad c.id) w w')(E:Qh w' (A.ad c.id) (Pn c' (A.vl c.id) (A.pf c.id) (A.pt c.id)) 147):Qo A w' (Qn F w w') b (p.set c')∧Qc F w w':=by
 obtain⟨G,q,V,B⟩:=h.part I 0 rfl;have z:Qc G w w':=u.sub fun k J=>J▸q.2.1;refine B w' c' (Tv (A.ad c'.id) (Pn c' (A.vl c'.id) (A.pf c'.id) (A.pt c'.id)) 147) d ?_ ?_ z;·unfold Sy;rw[K,R,U,d];rfl
 ·rw[d];exact⟨E,.inl q.2.1,q.2.2.ext z⟩
theorem Qo.famOf(h:Qo A w F b p){c:Qx}(B:c∈p):
  ∃G:Fp,J0 w G (A.pf c.id) c.mem∧(∀k,G k→F k)∧∀w' f,J0 w' (Qn G w w') (A.pf c.id) f→Qc G w w'→Qo A w' (Qn F w w') b (p.set {c with mem:=f})∧Qc F w w':=by
 obtain⟨G,q,u,z⟩:=h.part B 2 rfl;exact⟨G,q,u,fun w' f E d=>z w' {c with mem:=f} _ rfl rfl E d⟩
theorem Qo.treeOf(h:Qo A w F b p){c:Qx}(B:c∈p):
  ∃G:Fp,Jg w G (A.pt c.id) c.tree∧(∀k,G k→F k)∧∀w' t,Jg w' (Qn G w w') (A.pt c.id) t→Qc G w w'→Qo A w' (Qn F w w') b (p.set {c with tree:=t})∧Qc F w w':=by
 obtain⟨G,q,u,z⟩:=h.part B 3 rfl;exact⟨G,q,u,fun w' t E d=>z w' {c with tree:=t} _ rfl rfl E d⟩
theorem Qo.limOf(h:Qo A w F b p){c:Qx}(B:c∈p):
  ∃G:Fp,Do (A.vl c.id) c.limit w G∧(∀k,G k→F k)∧∀w' t,Do (A.vl c.id) t w' (Qn G w w')→Qc G w w'→Qo A w' (Qn F w w') b (p.set {c with limit:=t})∧Qc F w w':=by
 obtain⟨G,q,u,z⟩:=h.part B 1 rfl;exact⟨G,q,u,fun w' t E d=>z w' {c with limit:=t} _ rfl rfl E d⟩
end
theorem Qc.aT{S:Nat→Prop}{w w1:World}(h:Qc S w.drew w1):Qc S w w1:=⟨h.os,h.tape,h.output,h.size,h.block⟩
def Yu(m:Nat)(ad:Int→Nat)(w:World)(F:Fp)(b:Nat)(f:Jc):Prop:=∃l:List Jh,l.Perm f.all∧Oh (Qtj b m f.mark ad l) w F
theorem Yu.obj(m:Nat)(ad:Int→Nat):Hf (Yu m ad) where
 bd:=fun⟨l,_,h⟩=>(Je (Yc _ m _ ad l)).bd h
 own:=fun⟨l,_,h⟩=>by obtain⟨G,d,k⟩:=J6 (Yc _ m _ ad l) 0 rfl h;exact k _ d.2.1
 aB:=fun⟨l,c,h⟩u z=>⟨l,c,(Je (Yc _ m _ ad l)).aB h u z⟩
 more:=fun⟨l,c,h⟩B q=>⟨l,c,(Je (Yc _ m _ ad l)).more h B q⟩
theorem J0.addr{w}{F:Fp}{b:Nat}{f:Jc}(h:J0 w F b f):∃m ad,Yu m ad w F b f:=by obtain⟨m,ad,l,h⟩:=h;exact⟨m,ad,l,h⟩
section
variable{m:Nat}{ad:Int→Nat}{w w':World}{F:Fp}{b:Nat}{f:Jc}
theorem Yu.is(h:Yu m ad w F b f):J0 w F b f:=by obtain⟨l,h⟩:=h;exact⟨m,ad,l,h⟩
theorem Yu.same(h:Yu m ad w F b f)(c:Qc Qb w w'):Yu m ad w' (Qn F w w') b f∧Qc F w w':=by obtain⟨l,q,h⟩:=h;have g:=Je (Yc b m f.mark ad l);have h':=g.aB h c (Jl.none F);exact⟨⟨l,q,g.more h' (fun k d=>.inl d) ((g.bd h).ext (c.none (F:=F)))⟩,c.none⟩
theorem Yu.coll(h:Yu m ad w F b f):∃l:List Jh,l.Perm f.all∧Qh w b #[.map (some m),ZU f.mark] 245∧∃G,Yn Jh.id Vj w G m ad l:=by obtain⟨l,q,h⟩:=h;obtain⟨u,d,_⟩:=J6 (Yc _ m _ ad l) 0 rfl h;obtain⟨c,k,_⟩:=J6 (Yc _ m _ ad l) 1 rfl h;exact⟨l,q,d.1,c,k⟩
theorem Yu.blk(h:Yu m ad w F b f):Qh w b #[.map (some m),ZU f.mark] 245:=by obtain⟨l,d,c,_⟩:=h.coll;exact c
theorem Jc.aE{i:Int}{x:Jh}(h:f.at i=some x):x∈f.all∧x.id=i:=Y3 (key:=Jh.id) h
theorem Yu.mem(h:Yu m ad w F b f){x:Jh}(hx:x∈f.all):
  ∃G:Fp,Vj w G (ad x.id) x∧(∀k,G k→F k∧k≠b)∧∀w' x',x'.id=x.id→Vj w' (Qn G w w') (ad x.id) x'→Qc G w w'→Yu m ad w' (Qn F w w') b (f.set x')∧Qc F w w':=by
 obtain⟨l,V,hs⟩:=h;obtain⟨hb,Z,H,B,h2,E,h4,R⟩:=hs;obtain⟨H1,k1,K,_,k3⟩:=Xv 0 (P:=fun w G=>Yn Jh.id Vj w G m ad l) (L:=[fun w G=>Yn Jh.id Vj w G m ad l]) (by intro P U;simp only[Zu,List.not_mem_nil,or_false]at U;subst U;exact Sm Vj.obj _ _ _) rfl h2;obtain⟨G,g1,z,g3⟩:=k1.focus Vj.obj (V.mem_iff.2 hx);have q:∀k,G k→F k:=fun k c=>R k (K k (z k c).1);have I:∀k,G k→k≠b:=fun k c e=>by subst e;exact E _ B.2.1 (K _ (z _ c).1)
 refine⟨G,g1,fun k c=>⟨q k c,I k c⟩,fun w' x' J hm d=>?_⟩;have u:Qc H1 w w':=d.sub fun k c=>(z k c).1;have cH:Qc H w w':=u.sub K;have e1:=k3 w' (fun w G=>Yn Jh.id Vj w G m ad (Lg Jh.id x' l)) u (g3 w' x' J hm d);refine⟨⟨Lg Jh.id x' l,V.map _,?_⟩,d.sub q⟩;refine Q7 (G:=Z) (H:=Qn H w w') ((Ks _ _ _).aB B cH E) e1 ?_ (fun k c=>.inl (h4 k c)) (fun k c=>Qn.mono R k c) (hb.ext (d.sub q));exact Jl.extR E ((Ks _ _ _).bd B)
theorem Yu.marked(h:Yu m ad w F b f){n:Nat}(d:Qc (fun k=>k=b) w w')(c:Qh w' b #[.map (some m),ZU n] 245):Yu m ad w' (Qn F w w') b ⟨f.all,n⟩∧Qc F w w':=by obtain⟨l,q,h⟩:=h;have:=(Xv 0 (Yc b m f.mark ad l) rfl h).cells d c;exact⟨⟨l,q,this.1⟩,this.2⟩
theorem Yu.memB(h:Yu m ad w F b f){x:Jh}(k:x∈f.all):∃p H,Qh w (ad x.id) (Pp x p) 255∧Yv w H p x.run∧ad x.id≠b:=by obtain⟨G,c,d,_⟩:=h.mem k;obtain⟨p,H,a,b',_⟩:=c.ex;exact⟨p,H,a,b',(d _ c.own).2⟩
theorem Yu.memC'(h:Yu m ad w F b f){x x':Jh}{p:Nat}(U:x∈f.all)(q:x'.id=x.id)(R:x'.run=x.run)(z:Qh w (ad x.id) (Pp x p) 255)
  (K:Qc (fun k=>k=ad x.id) w w') (J:Qh w' (ad x.id) (Pp x' p) 255):Yu m ad w' (Qn F w w') b (f.set x')∧Qc F w w':=by
 obtain⟨G,u,h2,B⟩:=h.mem U;obtain⟨p',H,a,I,E⟩:=u.ex;have e:p'=p:=by have c:=a;unfold Qh at c z;rw[z]at c;simp only[Option.some.injEq,Obj.cells.injEq,Pp,Array.mk.injEq,List.cons.injEq,ptr,Value.pointer.injEq,Addr.mk.injEq]at c;exact c.1.2.2.1.1.symm
 subst e;have d:Yv w H p' x'.run:=R▸I;obtain⟨V,Z⟩:=O1.cell (x':=x') u d E runP K J;exact B w' x' q V Z
theorem Yu.memR(h:Yu m ad w F b f){x:Jh}(I:x∈f.all):
  ∃(p:Nat)(G:Fp),Qh w (ad x.id) (Pp x p) 255∧Yv w G p x.run∧∀w' r,Yv w' (Qn G w w') p r→Qc G w w'→Yu m ad w' (Qn F w w') b (f.set {x with run:=r})∧Qc F w w':=by
 obtain⟨G,c,R,q⟩:=h.mem I;obtain⟨p,H,a,u,d⟩:=c.ex;refine⟨p,H,a,u,fun w' r E k=>?_⟩;have z:Qh w' (ad x.id) (Pp {x with run:=r} p) 255:=k.blk a (fun B=>(d _ B).2 rfl);obtain⟨J,K⟩:=O1.made (x':={x with run:=r}) c d runP k E (Zg _ _) z;exact q w' {x with run:=r} rfl J K
def Qk3(ad:Int→Nat)(f:Jc)(i:Int):Value:=atP ad i (f.at i)
theorem Yu.at_any(h:Yu m ad w F b f)(i:Int):ZW 213 #[ptr b,ZI i] w (Qk3 ad f i) fun w'=>w=w':=by obtain⟨l,k,d,G,c⟩:=h.coll;have:=Qb2 d c i;unfold Qk3;rw[Jc.at_eq k c.nodup];exact this
end
theorem Qjh{w}{F:Fp}{b:Nat}{f:Jc}(h:J0 w F b f)(i:Int):
  ZW 161 #[ptr b,ZI i] w (.tuple #[]) fun w'=>J0 w' (Qn F w w') b (f.sleep i)∧Qc F w w':=by
 obtain⟨m,ad,u⟩:=h.addr;have q:=O (u.at_any i);unfold Jc.sleep;unfold Qk3 at q;cases z:f.at i with
 |none=> have d:=O (u.same (Zg Qb w));rw[z]at q;dsimp only[atP]at q⊢;clear h u z;go_enter func161,ntmps161;go_wp2_with fail;refine Zy q ?_;rintro w1 rfl;go_wp2;refine bodyPost_end (by simp[*,results,Tryz.results161,go_sem]) rfl ⟨rfl,d.o.1.is,d.o.2⟩
 |some x=>
  obtain⟨E,rfl⟩:=Jc.aE z;obtain⟨p,H,B,_,_⟩:=u.memB E;have I:=O B;have d:Hi (∀w',Qc (fun k=>k=ad x.id) w w'→Qh w' (ad x.id) (Pp {x with aL:=false} p) 255→J0 w' (Qn F w w') b (f.set {x with aL:=false})∧Qc F w w'):=O (fun w' K J=>by
   obtain⟨a,c⟩:=u.memC' (x':={x with aL:=false}) E rfl rfl I.o K J;exact⟨a.is,c⟩)
  obtain⟨R,U,V,Z⟩:=X9 B;have z0:=B.frozen 3;rw[z]at q;dsimp only[atP]at q⊢;clear h u z B E;go_enter func161,ntmps161;go_wp2_with fail;refine Zy q ?_;rintro w1 rfl;go_wp2;refine bodyPost_end (by simp[*,results,Tryz.results161,go_sem]) rfl ⟨rfl,d.o _ Z0 (I.o.set' 3 _ rfl)⟩
theorem Qb3{w}{F:Fp}{b:Nat}{f:Jc}(h:J0 w F b f)(i:Int):
  ZW 182 #[ptr b,ZI i] w (.bool (f.at i).isSome) fun w'=>J0 w' (Qn F w w') b (f.drop i)∧Qc F w w':=by
 obtain⟨m,ad,I⟩:=h.addr;have q:=O (I.at_any i);unfold Qk3 at q;cases E:f.at i with
 |none=>
  have e:f.drop i=f:=by
   unfold Jc.drop;have:(f.all.filter fun m=>!decide (m.id=i))=f.all:=List.filter_eq_self.2 fun y hy=>by have:=Lz (key:=Jh.id) E y hy;simpa using this
   rw[this]
  have c:=O (I.same (Zg Qb w));rw[e];rw[E]at q;dsimp only[atP,Option.isSome_none]at q⊢;clear h I E e;go_enter func182,ntmps182;go_wp2_with fail;refine Zy q ?_;rintro w1 rfl;go_wp2;go_ret;exact⟨rfl,c.o.1.is,c.o.2⟩
 |some x=>
  obtain⟨l,hp,V⟩:=I;have J:=(J6 (Yc b m f.mark ad l) 0 rfl V);obtain⟨G0,J,_⟩:=J;obtain⟨G,z,Z,R,d⟩:=Xv 1 (Yc b m f.mark ad l) rfl V;obtain⟨w',aa,B,u⟩:=Di (P:=prog) z.map underlying243 underlying3 3 0 i;have c:Hi (J0 w' (Qn F w w') b (f.drop i)∧Qc F w w'):=O (by
   have K:Qc G w w':=u.sub fun k U=>U▸z.at_;have h1:Yn Jh.id Vj w' (Qn G w w') m ad (Kp Jh.id i l):=(z.del Vj.obj i B u).more (fun k U=>.inl U) (z.bd.ext K);exact⟨⟨m,ad,Kp Jh.id i l,hp.filter _,d w' (fun w G=>Yn Jh.id Vj w G m ad (Kp Jh.id i l)) K h1⟩,K.sub Z⟩)
  obtain⟨a0,a1⟩:=Q4 J.1;rw[E]at q;dsimp only[atP,Option.isSome_some]at q⊢;clear h E V d Z R z B u J hp;go_enter func182,ntmps182;go_wp2_with fail;refine Zy q ?_;rintro w1 rfl;go_wp2;go_ret;exact⟨rfl,c.o.1,c.o.2⟩
section
attribute [local go_sem ↓] X8 Yd
theorem Jc.set_set(f:Jc){a b:Jh}(h:a.id=b.id):(f.set a).set b=f.set b:=by
 unfold Jc.set;simp only[List.map_map,Jc.mk.injEq,and_true];refine List.map_congr_left fun x _=>?_;simp only[Function.comp];by_cases c:x.id=a.id;·rw[if_pos c,if_pos h,if_pos (c.trans h)]
 ·rw[if_neg c]
theorem Jc.mem_set{f:Jc}{x a:Jh}(c:x∈f.all)(h:a.id=x.id):a∈(f.set a).all:=Z3.2 ⟨x,c,if_pos h.symm⟩
theorem Qmv{w}{b q c:Nat}{z v0 v1 v2 v3:Value}(k:Qh w b #[z,ZU c] 245)(u:Qh w q #[v0,v1,v2,v3] 255)(d:q≠b)(v:Nat):
  ZW 214 #[ptr b,ptr q,ZU v] w (.tuple #[]) fun w'=>w'=(w.setCell ⟨q,1,none⟩ (ZU v)).setCell ⟨b,1,none⟩ (ZU ((max c v:Nat):Int)):=by
 obtain⟨B,E⟩:=Q4 (k.other (a:=⟨q,1,none⟩) (ZU v) d);have z0:=(k.other (a:=⟨q,1,none⟩) (ZU v) d).frozen 1;have U:=u.frozen 1;obtain⟨I,J,K,R⟩:=X9 u;have e:max (c:Int) (v:Int)=((max c v:Nat):Int):=by omega
 rw[←e];clear k u e;go_enter func214,ntmps214;go_wp2;refine bodyPost_end (by simp[*,results,Tryz.results214,go_sem]) rfl ⟨rfl,?_⟩;first|rfl|simp
theorem Yu.madeW{m:Nat}{ad:Int→Nat}{w w'}{F:Fp}{b:Nat}{f:Jc}(h:Yu m ad w F b f){x:Jh}(k:x∈f.all)(v:Nat)
  (E:w'=(w.setCell ⟨ad x.id,1,none⟩ (ZU v)).setCell ⟨b,1,none⟩ (ZU ((max f.mark v:Nat):Int))):Yu m ad w' (Qn F w w') b (f.made x v)∧Qc F w w':=by
 subst E;obtain⟨p,H,d,_,B⟩:=h.memB k;obtain⟨c,q⟩:=h.memC' (x':={x with v:=v}) k rfl rfl d ((Zg _ w).setCell (a:=⟨ad x.id,1,none⟩) (ZU v) (.inl rfl)) (d.set' 1 _ rfl);obtain⟨z,u⟩:=c.marked (n:=max f.mark v) ((Zg _ _).setCell (a:=⟨b,1,none⟩) (ZU ((max f.mark v:Nat):Int)) (.inl rfl)) (c.blk.set' 1 _ rfl);exact(Yu.obj m ad).two z ((Yu.obj m ad).bd h) q u
theorem Qb4{m:Nat}{ad:Int→Nat}{w}{F:Fp}{b:Nat}{f:Jc}(h:Yu m ad w F b f){x:Jh}(d:x∈f.all)(v:Nat):
  ZW 214 #[ptr b,ptr (ad x.id),ZU v] w (.tuple #[]) fun w'=>Yu m ad w' (Qn F w w') b (f.made x v)∧Qc F w w':=by
 obtain⟨p,H,k,_,c⟩:=h.memB d;refine Zz (Qmv h.blk k c v) ?_;intro w1 q;exact⟨rfl,h.madeW d v q⟩
theorem Qmu{w}{F:Fp}{b:Nat}{f:Jc}(h:J0 w F b f)(hN:∀x∈f.all,x.total≤Xw∧x.run.l.length<1099511627776)(i:Int)(g:Nat)(hg:g<18446744073709551616):
  ZW 157 #[ptr b,ZI i,ZU g] w (.tuple #[]) fun w'=>J0 w' (Qn F w w') b (f.gain i g)∧Qc F w w':=by
 obtain⟨m,ad,I⟩:=h.addr;have E:=O (I.at_any i);unfold Jc.gain;unfold Qk3 at E;cases hx:f.at i with
 |none=> have c:=O (I.same (Zg Qb w));rw[hx]at E;dsimp only[atP]at E⊢;clear h I hx hN;go_enter func157,ntmps157;go_wp2_with fail;refine Zy E ?_;rintro w1 rfl;go_wp2;refine bodyPost_ret (results_none rfl _ _ _) rfl ⟨rfl,c.o.1.is,c.o.2⟩
 |some x=>
  obtain⟨Z,rfl⟩:=Jc.aE hx;obtain⟨K,ab⟩:=hN x Z;obtain⟨p,H,z,_,ae⟩:=I.memB Z;obtain⟨T,hT⟩:=Zx (x.total+min g (Xw-x.total));have aa:T≤Xw:=by omega
  have e1:IntKind.u64.wrap (4611686018427387904-(x.total:Int))=((Xw-x.total:Nat):Int):=by rw[IntWalk.u64_in _ (by have:=Yz;omega)];have:=Yz;omega
  have e2:min (g:Int) ((Xw-x.total:Nat):Int)=((min g (Xw-x.total):Nat):Int):=by omega
  have e3:IntKind.u64.wrap ((x.total:Int)+((min g (Xw-x.total):Nat):Int))=(T:Int):=by rw[IntWalk.u64_in _ (by have:=Yz;omega)];omega
  have HM:=O z;obtain⟨W,V⟩:=Zx ((w.setCell ⟨ad x.id,0,none⟩ (ZU T)).drew);have U:Hi (Yu m ad W (Qn F w W) b (f.set {x with total:=T})∧Qc F w W):=O (by
   rw[V];exact I.memC' (x':={x with total:=T}) Z rfl rfl z ((Zg (fun k=>k=ad x.id) w).setCell (a:=⟨ad x.id,0,none⟩) (ZU T) (.inl rfl)).drew (z.set' 0 _ rfl).drew)
  have BW:Hi (Qh W (ad x.id) (Pp {x with total:=T} p) 255):=O (by rw[V];exact(z.set' 0 _ rfl).drew);have SS:=O (f.set_set (a:={x with total:=T}) (b:={{x with total:=T}with v:=x.run.reach T}) rfl);have MM:=O (Jc.mem_set (a:={x with total:=T}) Z rfl);have af:=O ((Yu.obj m ad).bd I);rw[hx]at E;dsimp only[atP]at E⊢;rw[←hT];rcases Bool.eq_false_or_eq_true x.aL with d|d
  rotate_left
  ·rw[if_neg (by rw[d];decide)];obtain⟨a0,a1,a2,a3⟩:=X9 z.drew;have z0:=z.drew.frozen 0;obtain⟨d0,d1,d2,d3⟩:=X9 BW.o;simp only[d]at a3 d3;have c:=O U.o;generalize Xw-x.total=u at e1 e2 e3;generalize min g u=u2 at e2 e3;clear h I hx z Z K hT aa hN d ae;go_enter func157,ntmps157;go_wp2_with fail;refine Zy E ?_;rintro w1 rfl;go_wp2_with fail;refine ZB [0,1,2,3,4,5,6,7,8,9,10,11,12,13,214] ?_;simp only[Z8,Zf,Ze,Zd];iterate 14 (refine Jq (h:=?_))
   refine J7 ?_;go_wp2_with fail;refine Jo ?_;rw[←V];clear a0 a1 a2 a3 z0 V;go_wp2_with fail;refine bodyPost_end (by simp[*,results,Tryz.results157,go_sem]) rfl ⟨rfl,c.o.1.is,c.o.2⟩
  ·rw[if_pos d];obtain⟨a0,a1,a2,a3⟩:=X9 z.drew;have z0:=z.drew.frozen 0;obtain⟨q,G,R,J,_⟩:=U.o.1.memR MM.o;obtain⟨_,_,_,d3⟩:=X9 R;obtain⟨g0,g1,g2,g3⟩:=X9 R.drew;have HR:=O (fun w'(hc:Qc Qb W w')=>Ru (runP.aB J hc (Jl.none G)) ab T (by have:=Yz;omega));have c:Hi (∀w2,Qc Qb W w2→∀w3,Yu m ad w3 (Qn (Qn (Qn F w W) W w2) w2 w3) b ((f.set {x with total:=T}).made {x with total:=T} (x.run.reach T))→Qc (Qn (Qn F w W) W w2) w2 w3→J0 w3 (Qn F w w3) b (f.made {x with total:=T} (x.run.reach T))∧Qc F w w3):=O (by
    intro w2 B w3 h3 c3;obtain⟨s1,s2⟩:=U.o.1.same B;obtain⟨t1,t2⟩:=(Yu.obj m ad).two h3 ((Yu.obj m ad).bd U.o.1) s2 c3;obtain⟨u1,u2⟩:=(Yu.obj m ad).two t1 af.o U.o.2 t2;have e:(f.set {x with total:=T}).made {x with total:=T} (x.run.reach T)=f.made {x with total:=T} (x.run.reach T):=by unfold Jc.made;rw[SS.o];rfl
    rw[e]at u1;exact⟨u1.is,u2⟩)
   have ag:Hi (∀w2,Qc Qb W w2→Yu m ad w2 (Qn (Qn F w W) W w2) b (f.set {x with total:=T})):=O (fun w2 B=>(U.o.1.same B).1);simp only[d]at a3 d3;generalize hv:x.run.reach T=v at HR c⊢;generalize Xw-x.total=u at e1 e2 e3;generalize min g u=u2 at e2 e3;clear h I hx z Z K hT aa hN d ae R J hv;go_enter func157,ntmps157;go_wp2_with fail;refine Zy E ?_;rintro w1 rfl;go_wp2_with fail;refine ZB [0,1,2,3,4,5,6,7,8,9,10,11,12,13,214] ?_;simp only[Z8,Zf,Ze,Zd];iterate 14 (refine Jq (h:=?_))
   refine J7 ?_;go_wp2_with fail;refine Jo ?_;rw[←V];clear a0 a1 a2 a3 z0 V;go_wp2_with fail;refine ZB [100,101,2,3,4,5,6,7,8,9,210,211] ?_;simp only[Z8,Zf,Ze,Zd];iterate 2 (refine Q8 (h:=?_);try simp only[Act.put,Za,Zc,Zb])
   iterate 8 (refine Jq (h:=?_))
   clear d3 g0 g1 g2 g3;refine J7 ?_;go_wp2_with fail;refine Zz (HR.o _ (Zg _ W).drew) ?_;intro w2 B;replace B:=B.aT;have ac:=ag.o _ B;have C2:=O B;clear B;go_wp2_with fail;refine J7 ?_;go_wp2_with fail;refine Zz (Qb4 ac (x:={x with total:=T}) MM.o v) ?_;rintro w3⟨h3,c3⟩;have FF:=O (c.o _ C2.o _ h3 c3);clear h3 c3 ac;go_wp2_with fail;refine Jo ?_;go_wp2_with fail;refine bodyPost_end (by simp[*,results,Tryz.results157,go_sem]) rfl ⟨rfl,FF.o⟩
end
section
theorem Wk(m:Nat)(w):(binOp .eql 243 (.map (some m)) (.map none)).run prog w=.ok (.bool false) w:=by kernel_rfl
attribute [local go_sem] Wk
theorem Yu.ne{m:Nat}{ad:Int→Nat}{w}{F:Fp}{b:Nat}{f:Jc}(h:Yu m ad w F b f):b≠m:=by obtain⟨l,B,z,G,H,c,⟨_,u,_,q,_,_,k,_⟩,d,_⟩:=h;rintro rfl;exact d _ c.2.1 (k _ q.at_)
theorem Qeh{w}{F:Fp}{b:Nat}{f:Jc}(h:J0 w F b f)(i:Int)(c:Jy)(hc:c.May):
  Cl 169 #[ptr b,ZI i,cV c] w fun e w'=>(∃r,e=.returned (.bool r))∧J0 w' (Qn F w w') b (f.add i c)∧Qc F w w':=by
 obtain⟨W,E⟩:=Zx (w.alloc (.cells #[ZU c.f,ZU c.l,ZU c.r] 27));have C0:Hi (Qc Qb w W):=O (by rw[E];exact(Zg _ _).alloc _);have B0:Hi (Qh W w.heap.size #[ZU c.f,ZU c.l,ZU c.r] 27):=O (by rw[E];exact Qh.new _ _ _);obtain⟨m,ad,R⟩:=h.addr;obtain⟨hA,ag⟩:=R.same C0.o;have al:=O (J0.obj.bd h);have K:=O (hA.at_any i);have HM:=O (fun w=>K8 c w);rw[decide_eq_true hc]at HM;unfold Jc.add;unfold Qk3 at K;cases hx:f.at i with
 |some x=> have J:=O hA;have q:=hA.blk;rw[E]at q;obtain⟨a0,a1⟩:=Q4 q;clear q;rw[hx]at K;dsimp only[atP]at K⊢;unfold ptr cV at*;clear h hA hx R ag;go_enter func169,ntmps169;go_wp2_with fail;rw[←E]at a0 a1⊢;clear E;refine Zy K ?_;rintro w1 rfl;go_wp2;go_ret;exact⟨⟨_,rfl⟩,J.o.is,C0.o.none⟩
 |none=>
  have HN:=O (fun w=>Cv c hc w);have an:=O hA.ne;obtain⟨l,hp,hs⟩:=hA;obtain⟨G0,hB,_⟩:=J6 (Yc b m f.mark ad l) 0 rfl hs;obtain⟨G,U,hG,ae,I⟩:=Xv 1 (Yc b m f.mark ad l) rfl hs;have hB:=hB.1;have BB:=O hB;have ao:=O U;have ai:Hn Jh.id i l=none:=by rw[←Jc.at_eq hp U.nodup];exact hx
  have q:=hB;rw[E]at q;obtain⟨a0,a1⟩:=Q4 q;clear q;have J:Hi (∀w3 p H,Yv w3 H p (.new c)→(∀k,H k→W.heap.size≤k)→Qc Qb W w3→∀w4,w4=w3.alloc (.cells #[ZU 0,ZU 0,ptr p,.bool false] 255)→∃d,(Instr.mapUpdate 243 (.map (some m)) (ZI i) (ptr w3.heap.size)).run prog w4=.ok () d∧J0 d (Qn F w d) b ⟨f.all++[(⟨i,0,0,.new c,false⟩:Jh)],f.mark⟩∧Qc F w d∧Qc (fun k=>k=m) w4 d):=O (by
   rintro w3 p H hR hH Z w4 rfl;have ac:Qc Qb w3 (w3.alloc (.cells #[ZU 0,ZU 0,ptr p,.bool false] 255)):=(Zg _ _).alloc _;have c4:=Z.aA ac;obtain⟨d,aj,B,c5⟩:=X6 (P:=prog) (U.map.aB c4 (fun h=>h)) underlying243 underlying3 i (ptr w3.heap.size);have Xg:W.heap.size≤w3.heap.size:=Z.size;have hX:Vj (w3.alloc (.cells #[ZU 0,ZU 0,ptr p,.bool false] 255)) (Qn Qb W (w3.alloc (.cells #[ZU 0,ZU 0,ptr p,.bool false] 255))) w3.heap.size (⟨i,0,0,.new c,false⟩:Jh):=
    O1.new (p:=p) (G:=H) (runP.aB hR ac (Jl.none _)) hH runP (Qh.new _ _ _) Xg (fun u=>absurd (runP.bd hR _ u) (by omega))
   have am:=U.aB Vj.obj c4 (Jl.none G);have V:=am.put Vj.obj hX (fun k a b=>by
    have:=ae k (hG k b);rcases(Qr k).1 a with⟨q,_⟩;omega) (key:=Jh.id) ai B c5
   have cG:Qc G W d:=(c4.none (F:=G)).aA (c5.sub fun k u=>u▸U.at_);have h5:=I d (fun w G=>Yn Jh.id Vj w G m (fun j=>if j=i then w3.heap.size else ad j) (l++[(⟨i,0,0,.new c,false⟩:Jh)])) cG
    (V.more (fun k u=>u.elim .inl (fun u=>.inr ⟨((Qr k).1 u).1,Nat.lt_of_lt_of_le ((Qr k).1 u).2 c5.size⟩)) (U.bd.ext cG))
   have cF:Qc (Qn F w W) W d:=cG.sub hG;obtain⟨r1,r2⟩:=J0.obj.two (F:=F) (w:=w) (w1:=W) (w2:=d) (b:=b) (z:=⟨f.all++[(⟨i,0,0,.new c,false⟩:Jh)],f.mark⟩) ⟨m,(fun j=>if j=i then w3.heap.size else ad j),l++[(⟨i,0,0,.new c,false⟩:Jh)],hp.append_right _,h5⟩ al.o C0.o.none cF;exact⟨d,aj,r1,r2,c5⟩)
  rw[hx]at K;dsimp only[atP]at K⊢;unfold ptr cV at*;clear h hx hs I hG ae U hp R ag ai hB;go_enter func169,ntmps169;go_wp2_with fail;rw[←E]at a0 a1⊢;clear E;refine Zy K ?_;rintro w1 rfl;obtain⟨b0,b1,b2⟩:=L6 B0.o;go_wp2_with fail;refine Zz (HM.o _) ?_;intro w2 c2;have C2:=O c2;obtain⟨d0,d1,d2⟩:=L6 (c2.blk B0.o (fun h=>h)).drew;clear c2 a0 a1 b0 b1 b2;go_wp2_with fail;have B2:=O (C2.o.blk BB.o (fun h=>h));refine ZC [100,101,102,103,104,5,206,7,208,309] (fun wv=>Qc (fun k=>k=m) (w2) wv) ?_;simp only[Z8,Zf,Ze,Zd];iterate 5 (refine Qy (by kernel_rfl) (fun wv hv=>by(have zz:=hv.blk B2.o an.o;obtain⟨y0,y1⟩:=Q4 zz);go_simp;try rfl) ?_;try simp only[Act.put,Za,Zc,Zb])
  refine Xe (h:=?_);clear d0 d1 d2;refine Yb ?_;go_wp2_with fail;refine(HN.o _).mono ?_;rintro e w3⟨p,rfl,hR,Z⟩;have aa:=O (Z.aT.none (F:=fun k=>k=m));have C3:=O (C2.o.aA Z.aT);have HR:=O hR;have ak:=O (fun k(u:Qn Qb w2.drew w3 k)=>show W.heap.size≤k from Zp C2.o.size ((Qr k).1 u).1);have ab:=O (J.o w3 p _ hR ak.o C3.o _ rfl);clear Z hR;go_wp2_with fail;refine⟨aa.o,?_⟩;refine Xe (h:=?_);refine Yb ?_;go_wp2_with fail;refine⟨aa.o.alloc _,?_⟩;obtain⟨d,ap,ah,af,B⟩:=ab.o;have F5:=O ah;have C5:=O af;have M5:=O B;clear ah af B;refine Km ?_;go_wp2_with fail;refine Ky ?_;go_wp2;go_ret;exact⟨⟨_,rfl⟩,F5.o,C5.o⟩
end
section
open Go.Shelf
attribute [local go_sem] Oper.semAt_some Qp
theorem Le.far{T S:Fp}{W w1 w2}(h:Le T W w1)(z:Qc S w1 w2)(q:∀k,S k→W.heap.size≤k):Le T W w2:=fun b o u c d=>by have Xg:=(Z2.1 c).1;exact z.heap (h b o u c d) (fun B=>by have:=q b B;omega)
theorem Kj.kpt{T:Fp}{w w'}{b r:Nat}{l left:List (Int×Value)}(h:Kj w b r l left)(k:Le T w w')(R:T b)(U:T r):Kj w' b r l left:=by obtain⟨q,c,d,u,z,B,E,I,J,K⟩:=h;exact⟨q,c,d,k b _ R u (.inr rfl),z,B,E,I,k r _ U J (.inr rfl),K⟩
theorem O8{X:Type}{key:X→Int}{x:X}:∀{l:List X},(l.map key).Nodup→x∈l→l.Perm (x::Kp key (key x) l)
 |y::l,hn,c=>by
  simp only[List.map_cons,List.nodup_cons]at hn;rcases Zu.1 c with rfl|c
  ·have:Kp key (key x) (x::l)=l:=by unfold Kp;rw[List.filter_cons_of_neg (by simp)];refine List.filter_eq_self.2 fun z k=>?_;have:key z≠key x:=fun e=>hn.1 (Z3.2 ⟨z,k,e⟩);simpa using this
   rw[this]
  ·have d:key y≠key x:=fun e=>hn.1 (Z3.2 ⟨x,c,e.symm⟩);have:Kp key (key x) (y::l)=y::Kp key (key x) l:=by unfold Kp;rw[List.filter_cons_of_pos (by simpa using d)]
   rw[this];exact((O8 hn.2 c).cons y).trans (.swap x y _)
theorem Hr{X:Type}{key:X→Int}{ad:Int→Nat}(i:Int)(l:List X):Vu i (Xy key ad l)=Xy key ad (Kp key i l):=by simp only[Xy,Kp,Vu,List.filter_map];rfl
def Qt1(ad:Int→Nat){l:List Jh}(x:{x:Jh//x∈l}):Array Value:=#[ZI x.1.id,ptr (ad x.1.id)]
structure Ah(w:World)(b m:Nat)(ad:Int→Nat)(pr:Int→Nat)(l:List Jh)(mark:Nat):Prop where
 blk:Qh w b #[.map (some m),ZU mark] 245
 map:Xq w m (Xy Jh.id ad l)
 mem:∀x∈l,Qh w (ad x.id) (Pp x (pr x.id)) 255
theorem Ah.aB{S:Fp}{w w'}{b m:Nat}{ad pr:Int→Nat}{l:List Jh}{c:Nat}(h:Ah w b m ad pr l c)(d:Qc S w w')(q:¬S b)(u:¬S m)(ha:∀x∈l,¬S (ad x.id)):Ah w' b m ad pr l c where
 blk:=d.blk h.blk q
 map:=h.map.aB d u
 mem:=fun x k=>d.blk (h.mem x k) (ha x k)
def Dq(w:World)(r:Nat):Nat:=match w.heap[r]? with
 |some (.mapIter (some b) _ seen _)=>(match w.heap[b]? with
  |some (.map es _)=>(leftOf es seen).size
  |_=>0)
 |_=>0
theorem Kj.left_eq{w}{b r:Nat}{l left:List (Int×Value)}(h:Kj w b r l left):Dq w r=left.length:=by
 obtain⟨k,d,c,q,B,E,I,J,u,K,z,R⟩:=h;have:(leftOf k c).size=left.length:=by simpa using congrArg List.length z
 simp[Dq,u,q,this]
theorem Qc.grownRow{w w'}{r:Nat}(h:Qc (fun k=>k=r) w w'):w.grownBy w' (some r):=⟨h.os,h.tape,h.output,h.size,fun k d c=>h.block k d (fun e=>c (by rw[e]))⟩
theorem Qhf(w:World)(o:Obj):w.grownBy (w.alloc o) none:=⟨rfl,rfl,rfl,by simp,fun k c _=>Below.heap_alloc _ _ _ c⟩
theorem Kj.walk{w}{b r:Nat}{l left:List (Int×Value)}(h:Kj w b r l left):∃o:Obj,w.heap[r]? =some o∧o.isWalk=true:=by obtain⟨q,c,d,u,z,B,E,I,k,_⟩:=h;exact⟨_,k,rfl⟩
theorem Qu8(n l' Bf b m ap:Nat)(hn:1≤n)(T:Fp)(ad pr:Int→Nat)(l:List Jh)(an:(l.map Jh.id).Nodup)(J Jx:List {x:Jh//x∈l}→World→Prop)(W:World)
  (hJ:AbidesFrom W.heap.size J) (hB:Qh W Bf #[ptr b] 145) (hV:Ah W b m ad pr l ap)
  (ax:T Bf) (aw:T b) (ak:T m) (aj:∀x∈l,T (ad x.id)) (al:∀k,W.heap.size≤k→T k)
  (hY:∀c x W1,J c W1→c.length<l.length→YieldAt Fence.wide (n-1) prog l' (Qt1 ad x) W1 fun e W'=>
   (e=.returned (.bool true)∧J (c++[x]) W'∧Le T W1 W')∨(e=.returned (.bool false)∧Jx (c++[x]) W')) (h0:J [] W):
  CallsIn Fence.wide n prog 266 #[.func (.yield l') #[] #[],ZP Bf] W fun e W'=>(∃v,e=.returned v)∧
   ((∃ys,(ys.map (·.1)).Perm (l.filter (·.aL))∧J ys W')∨(∃c,True∧Jx c W')):=by
 obtain⟨o,a2,B⟩:=Er (P:=prog) hV.map underlying243;have c0:=Jf hB;obtain⟨c1,c2⟩:=Q4 hV.blk;have ah:Hi (∃q c,Kj (W.alloc o) m W.heap.size (Xy Jh.id ad l) (Xy Jh.id ad q)∧q.Sublist l∧(c.map (·.1)++q.filter (·.aL)).Perm (l.filter (·.aL))∧c.length+q.length≤l.length∧J c (W.alloc o)∧Le T W (W.alloc o)):=
  O ⟨l,[],B,List.Sublist.refl _,List.Perm.refl _,by simp,hJ _ _ _ none h0 (Qhf W o) (fun r e=>by cases e),Le.far (fun b o _ h _=>h:Le T W W) ((Zg Qb W).alloc o) (fun _ h=>h.elim)⟩
 have HV:=O hV;have HJ:=O hJ;have HY:=O hY;have av:=O aj;have HT:=O (Zt ak al);clear hB hV hJ hY B h0 ax aw ak aj al;refine callsIn_of_wp func266 rfl trivial ?_ rfl;simp only[ntmps266,List.size_toArray,Zm,List.length_nil,Nat.reduceAdd,Nat.reduceSub,Array.replicate_succ,Array.replicate_zero,List.push_toArray,List.append_toArray,List.nil_append,List.cons_append];gi_wp2;gi_loopw [3,4] (fun _ _ wr=>∃q c,Kj wr m W.heap.size (Xy Jh.id ad l) (Xy Jh.id ad q)∧q.Sublist l∧(c.map (·.1)++q.filter (·.aL)).Perm (l.filter (·.aL))∧c.length+q.length≤l.length∧J c wr∧Le T W wr) (fun _ _ wr=>Dq wr W.heap.size);case atStart=>exact ah.o
 case round=>
  obtain⟨q,c,B,z,d,V,hj,hk⟩:=hrel;rcases Rx (P:=prog) B 0 with⟨h0,hr⟩|⟨p,hp,w2,hr,u,aa,am⟩
  ·have az:q=[]:=by
    cases q with
    |nil=>rfl
    |cons a l=>cases h0
   subst az;have ar:=O (show(c.map (·.1)).Perm (l.filter (·.aL)) by simpa using d);have au:=O hj;clear B z d V hj hk;gi_wp2;go_end0;exact⟨⟨_,rfl⟩,.inl ⟨c,ar.o,au.o⟩⟩
  ·obtain⟨x,hx,rfl⟩:=Z3.1 hp;have I:=z.subset hx;have R:Le T W w2:=Le.far hk aa (fun k e=>by rw[e];exact Zv _);have ab:J c w2:=HJ.o c wr w2 (some W.heap.size) hj aa.grownRow (fun r e=>by cases e;exact⟨Zv _,B.walk⟩);have hM:Qh w2 (ad x.id) (Pp x (pr x.id)) 255:=R.blk (HV.o.mem x I) (av.o x I);obtain⟨d0,d1,d2,d3⟩:=X9 hM;have Xg:Dq w2 W.heap.size<Dq wr W.heap.size:=by rw[u.left_eq,B.left_eq,Hr];have:=(O8 (key:=Jh.id) (an.sublist (z.map _)) hx).length_eq;simp only[Xy,List.length_map,Zm]at*;omega
   dsimp only at u;rw[Hr]at u;have K:=O8 (key:=Jh.id) (an.sublist (z.map _)) hx;have E:(Kp Jh.id x.id q).Sublist l:=List.filter_sublist.trans z;dsimp only at hr am;unfold ptr at hr am;cases ac:x.aL with
   |false=>
    rw[ac]at d3;have ag:Hi (∃q c,Kj w2 m W.heap.size (Xy Jh.id ad l) (Xy Jh.id ad q)∧q.Sublist l∧(c.map (·.1)++q.filter (·.aL)).Perm (l.filter (·.aL))∧c.length+q.length≤l.length∧J c w2∧Le T W w2):=O (by
     refine⟨Kp Jh.id x.id q,c,u,E,?_,?_,ab,R⟩;·refine(List.Perm.append_left (c.map (·.1)) ?_).trans d;have:=(K.filter (·.aL)).symm;rwa[List.filter_cons_of_neg (by rw[ac];decide)]at this
     ·have:=K.length_eq;simp at this;omega)
    have LT:=O Xg;clear B z d V hj hk u aa R ab hM Xg K E hx I hp;gi_wp2;refine⟨fun _ h=>(by cases h),?_⟩;gi_wp2;go_roundw;case rel=>exact ag.o
    case measure=>exact LT.o
   |true=>
    rw[ac]at d3;have ao:c.length<l.length:=by have:=List.length_pos_of_mem hx;omega
    obtain⟨fn,a1,aq,a0,hy,hR⟩:=HY.o c ⟨x,I⟩ w2 ab ao;have HR:=O hR;have ag:Hi (∀Z,J (c++[⟨x,I⟩]) Z→Le T w2 Z→(∃q c,Kj Z m W.heap.size (Xy Jh.id ad l) (Xy Jh.id ad q)∧q.Sublist l∧(c.map (·.1)++q.filter (·.aL)).Perm (l.filter (·.aL))∧c.length+q.length≤l.length∧J c Z∧Le T W Z)∧Dq Z W.heap.size<Dq wr W.heap.size):=O (by
     intro Z ay U;have af:=u.kpt U HT.o.1 (HT.o.2 _ (Zv _));refine⟨⟨Kp Jh.id x.id q,c++[⟨x,I⟩],af,E,?_,?_,ay,R.trans U⟩,?_⟩
     ·have e:(c++[(⟨x,I⟩:{x:Jh//x∈l})]).map (·.1)++(Kp Jh.id x.id q).filter (·.aL)=c.map (·.1)++(x::(Kp Jh.id x.id q).filter (·.aL)):=by simp
      rw[e];refine(List.Perm.append_left (c.map (·.1)) ?_).trans d;have:=(K.filter (·.aL)).symm;rwa[List.filter_cons_of_pos (by rw[ac])]at this
     ·have:=K.length_eq;simp at this⊢;omega
     ·rw[af.left_eq,←u.left_eq];exact Xg)
    unfold Qt1 ptr at hy;clear B z d V hj hk u aa R ab hM Xg K E hx hp hR ao;gi_wp2;refine HR.o.mono ?_;clear hy;rintro e Z(⟨rfl,ai,U⟩|⟨rfl,ae⟩)
    ·have R3:=O (ag.o Z ai U);clear ai U;gi_wp2;go_roundw;case rel=>exact R3.o.1
     case measure=>exact R3.o.2
    ·have X3:=O ae;clear ae;gi_wp2;refine bodyPost_ret (results_none rfl _ _ _) rfl ?_;exact⟨⟨_,rfl⟩,.inr ⟨_,trivial,X3.o⟩⟩
theorem Qs0(n d b m c:Nat)(hn:1≤n)(T:Fp)(ad pr:Int→Nat)(l:List Jh)(K:(l.map Jh.id).Nodup)(w)(V:Qh w d #[ptr b] 145)(hV:Ah w b m ad pr l c)
  (z:T d) (u:T b) (B:T m) (q:∀x∈l,T (ad x.id)) (E:∀k,w.heap.size≤k→T k):
  SeqStopsK Fence.wide n prog 266 #[ZP d] (Qt1 ad (l:=l)) (Le T) (fun ys=>(ys.map (·.1)).Perm (l.filter (·.aL))) (fun _=>True) l.length w:=fun l' J R W I Z _ hY U=>
 Qu8 n l' d b m c hn T ad pr l K J R W Z ((Qc.ofBelow (S:=Qb) I).blk V (fun h=>h)) (hV.aB (Qc.ofBelow (S:=Qb) I) (fun h=>h) (fun h=>h) (fun _ _ h=>h)) z u B q (fun k hk=>E k (Zp I.size hk)) hY U
theorem Qs1(b:Nat)(w):ZW 255 #[ptr b] w (.func (.func 266) #[] #[ZP w.heap.size]) fun w'=>w'=w.alloc (.cells #[ptr b] 145):=by unfold ptr;go_enter func255,ntmps255;go_wp2;go_ret;exact⟨rfl,rfl⟩
end
section
open Go.Shelf
attribute [local go_sem] Oper.semAt_some Qp
attribute [local go_sem ↓] X8 Yd
attribute [local irreducible] Uo Lh
theorem Yu.view{m:Nat}{ad:Int→Nat}{w}{F:Fp}{b:Nat}{f:Jc}(h:Yu m ad w F b f):∃pr l,l.Perm f.all∧(l.map Jh.id).Nodup∧Ah w b m ad pr l f.mark:=by
 obtain⟨l,B,I,G,d⟩:=h.coll;have H:∀i:Int,∃p,∀x∈l,x.id=i→Qh w (ad x.id) (Pp x p) 255:=fun i=>by
  by_cases k:∃x∈l,x.id=i;·obtain⟨x,c,k⟩:=k;obtain⟨p,_,J,_⟩:=h.memB (B.mem_iff.1 c);refine⟨p,fun y K u=>?_⟩;have E:=Ls d.nodup c k;have z:=Ls d.nodup K u;rw[E]at z;obtain rfl:=Zs z;exact J
  ·exact⟨0,fun x c e=>(k ⟨x,c,e⟩).elim⟩
 obtain⟨pr,q⟩:=Classical.axiomOfChoice H;exact⟨pr,l,B,d.nodup,I,d.map,fun x c=>q _ x c rfl⟩
def Ou(l:List Jh):Nat:=l.foldl (fun n m=>min n m.v) Qq
def Ln(l:List Jh):Nat:=l.foldl (fun n m=>max n m.v) 0
theorem Qhn(l:List Jh)(x:Jh):Ou (l++[x])=min (Ou l) x.v:=by simp[Ou]
theorem Qk7(l:List Jh)(x:Jh):Ln (l++[x])=max (Ln l) x.v:=by simp[Ln]
theorem F7{l c:List Jh}(h:l.Perm c):Ou l=Ou c:=by unfold Ou;exact h.foldl_eq' (fun x _ y _ z=>by omega) _
theorem Qar{l c:List Jh}(h:l.Perm c):Ln l=Ln c:=by unfold Ln;exact h.foldl_eq' (fun x _ y _ z=>by omega) _
theorem Cg:∀l:List Jh,Ou l≤Qq:=by
 have:∀(l:List Jh)(a:Nat),a≤Qq→l.foldl (fun n m=>min n m.v) a≤Qq:=by
  intro l;induction l with
  |nil=>exact fun a h=>h
  |cons x l c=>exact fun a h=>c _ (Zp (Nat.min_le_left _ _) h)
 exact fun l=>this l _ (Zv _)
theorem Qaq:∀l:List Jh,(∀x∈l,x.v≤Qq)→Ln l≤Qq:=by
 have:∀(l:List Jh)(a:Nat),a≤Qq→(∀x∈l,x.v≤Qq)→l.foldl (fun n m=>max n m.v) a≤Qq:=by
  intro l;induction l with
  |nil=>exact fun a h _=>h
  |cons x l k=>exact fun a h c=>k _ (Nat.max_le.2 ⟨h,c x (by simp)⟩) (fun y d=>c y (by simp[d]))
 exact fun l h=>this l 0 (Nat.zero_le _) h
def R7(l:List Jh)(c v:Nat):Nat:=if Ln l<Ou l then max v c else max v (Ou l+(Ln l-Ou l)/2)
theorem Qst{f:Jc}{l:List Jh}(c:l.Perm (f.all.filter (·.aL)))(x:Jh):f.start x=R7 l f.mark x.v:=by unfold Jc.start R7;have d:f.least=Ou l:=F7 c.symm;have k:f.most=Ln l:=Qar c.symm;rw[d,k]
theorem Qpa{w}{s t:Nat}{a z v:Nat}(B:Qh w s #[ZU a] 22)(K:Qh w t #[ZU z] 22)(q:s≠t):
  ZW 254 #[ZU v,ZP s,ZP t] w (.tuple #[]) fun w'=>Qh w' s #[ZU ((min a v:Nat):Int)] 22∧Qh w' t #[ZU ((max z v:Nat):Int)] 22∧Qc (fun k=>k=s∨k=t) w w':=by
 have V:=O B;have u:=O K;have e1:min (a:Int) (v:Int)=((min a v:Nat):Int):=by omega
 have e2:max (z:Int) (v:Int)=((max z v:Nat):Int):=by omega
 have a0:=Jf B.drew;have z1:=B.drew.frozen 0;have d:=O q;clear B K q;go_enter func254,ntmps254;go_wp2_with fail;refine ZC [0,1,2,103,104,105,206,307] (fun R=>Qc (fun k=>k=s) (w) R) ?_;simp only[Z8,Zf,Ze,Zd];iterate 3 (refine Xe (h:=?_))
 iterate 3 (refine Qy (by kernel_rfl) (fun R Z=>by(have zz:=Z.blk u.o d.o.symm;have y0:=Jf zz);go_simp;try rfl) ?_;try simp only[Act.put,Za,Zc,Zb])
 refine Yb ?_;go_wp2_with fail;refine⟨by exact Z0,?_⟩;have J:=((u.o).other (a:=⟨s,0,none⟩) (ZU ((min a v:Nat):Int)) d.o).drew;have I:=(V.o.set' 0 (ZU ((min a v:Nat):Int)) rfl).drew;have y3:=(u.o.other (a:=⟨s,0,none⟩) (ZU ((min a v:Nat):Int)) d.o).frozen 0;have y4:=Jf (u.o.other (a:=⟨s,0,none⟩) (ZU ((min a v:Nat):Int)) d.o);have E:=O (J.set' 0 (ZU ((max z v:Nat):Int)) rfl);have c:=O (I.other (a:=⟨t,0,none⟩) (ZU ((max z v:Nat):Int)) d.o.symm);have U:Hi (Qc (fun k=>k=s∨k=t) w ((w.setCell ⟨s,0,none⟩ (ZU ((min a v:Nat):Int))).drew.setCell ⟨t,0,none⟩ (ZU ((max z v:Nat):Int)))):=O (((Zg _ w).setCell (a:=⟨s,0,none⟩) _ (.inl (.inl rfl))).drew.setCell (a:=⟨t,0,none⟩) _ (.inl (.inr rfl)));clear I J;refine Km ?_;go_wp2_with fail;refine Ky ?_;go_wp2_with fail;refine bodyPost_end (by simp[*,results,Tryz.results254,go_sem]) rfl ⟨rfl,?_,?_,?_⟩;·exact c.o
 ·exact E.o
 ·exact U.o
theorem Qjj{w}{b m d:Nat}{ad pr:Int→Nat}{l:List Jh}(hV:Ah w b m ad pr l d)(ao:(l.map Jh.id).Nodup)(hb:∀y∈l,y.v≤Qq)(aw:d≤Qq){x:Jh}(hx:x∈l):
  ZW 230 #[ptr b,ptr (ad x.id)] w (ZU ((R7 (l.filter (·.aL)) d x.v:Nat):Int)) fun w'=>Qc Qb w w':=by
 have HU:=O (Qs1 b);refine callsIn_wide (n:=9).1 ?_;unfold ptr at HU⊢;refine callsIn_of_wp_marks func230 rfl trivial ?_;simp only[ntmps230,List.size_toArray,Zm,List.length_nil,Nat.reduceAdd,Nat.reduceSub,Array.replicate_succ,Array.replicate_zero,List.push_toArray,List.append_toArray,List.nil_append,List.cons_append];gi_wp2_with (refine⟨trivial,?_⟩;gi_at_call 255;refine(callsIn_wide.2 (HU.o _)).mono ?_;rintro e w1⟨rfl,rfl⟩);obtain⟨s,I⟩:=Zx (w.heap.size);obtain⟨J,q⟩:=Zx (((((w.alloc (.cells #[ZU 9223372036854775808] 22)).alloc (.cells #[ZU 0] 22)).alloc (.cells #[.func (.func 254) #[] #[ZP w.heap.size,ZP (w.heap.size+1)]] 91)).alloc (.cells #[ZP b] 145)));have C0:Hi (Qc Qb w J):=O (by rw[q];exact((((Zg _ _).alloc _).alloc _).alloc _).alloc _);have az:J.heap.size=s+4:=by rw[q,I];simp
 have B5:Hi (Qh J s #[ZU ((Ou []:Nat):Int)] 22):=O (by rw[q,I];exact(((Qh.new' _ _ (by simp)).alloc _).alloc _).alloc _);have B6:Hi (Qh J (s+1) #[ZU ((Ln []:Nat):Int)] 22):=O (by rw[q,I];exact((Qh.new' _ _ (by simp)).alloc _).alloc _);have B7:Hi (Qh J (s+1+1) #[.func (.func 254) #[] #[ZP s,ZP (s+1)]] 91):=O (by rw[q,I];exact(Qh.new' _ _ (by simp)).alloc _);have B8:Hi (Qh J (s+1+1+1) #[ptr b] 145):=O (by rw[q,I];exact Qh.new' _ _ (by simp));have ai:Hi (Ah J b m ad pr l d):=O (hV.aB C0.o (fun h=>h) (fun h=>h) (fun _ _ h=>h));have av:b<s:=I▸hV.blk.lt;have ax:m<s:=I▸hV.map.lt;have ak:∀y∈l,ad y.id<s:=fun y hy=>I▸(hV.mem y hy).lt;rw[←I]at q⊢;rw[←q];have ah:=O I;have HB:=O hb;have aj:=O hV;clear q I hb hV;refine wpIn_rangeFunc_ownH rfl (by decide) (gf:=266) (lb:=#[ZP (s+1+1+1)]) rfl trivial (enters_of func266 (by kernel_rfl) rfl)
  (Qs0 8 (s+1+1+1) b m d (by decide) (fun k=>k≠s∧k≠s+1) ad pr l ao J B8.o ai.o ⟨by omega,by omega⟩ ⟨by omega,by omega⟩ ⟨by omega,by omega⟩ (fun y hy=>by have:=ak y hy;exact⟨by omega,by omega⟩) (fun k hk=>⟨by omega,by omega⟩))
  (fun h k=>h.trans k) (fun W l o o' h1 h2 h3 h4=>Le.put (w:=J) W l o o' h1 h2 h3 h4) (Below.refl _ _) (fun _=>rfl)
  (fun aa W=>((Qh W s #[ZU ((Ou (aa.map (·.1)):Nat):Int)] 22∧Qh W (s+1) #[ZU ((Ln (aa.map (·.1)):Nat):Int)] 22)∧Qc (fun k=>k=s∨k=s+1) J W))
  (fun _ _ _=>False)
  (OwnFrom.and (OwnFrom.and (Yx _ _ _ _) (Yx _ _ _ _)) (Dr (Zv _)))
  (fun c=>fun _ _ _ _ h _ _=>h.elim)
  ⟨⟨B5.o,B6.o⟩,Zg _ _⟩
  (fun y a' W=>a'={tmps:=#[ZP b,ZP (ad x.id),undef,undef,ZU 0,ZP s,ZP (s+1),ZP (s+1+1),undef,ptr (ad y.1.id),.func (.func 254) #[] #[ZP s,ZP (s+1)],ZP b,.func (.func 266) #[] #[ZP (s+1+1+1)],ZI y.1.id,ptr (ad y.1.id),undef,undef,undef,undef,undef,undef,undef,undef,undef,undef,undef,undef,undef,undef,undef,undef,undef,undef,undef,undef,undef,undef,undef,undef,undef,undef,undef,undef,undef],defers:=[]})
  (fun y a' _ X Y a3 I hg hr=>I)
  ?assign ?body ?done (fun _ _ _ _ _ _ h _=>h.elim)
 case assign=> rintro l' aa y W K hI hK;dsimp only[Qt1];gi_wp2;exact hK _ _ ⟨Zv _,fun k o _ h1 _=>h1⟩ (fun _ _ _ h _=>h) hI rfl
 case body=>
  rintro l' aa y a' W hl ay⟨⟨U,V⟩,B⟩rfl Xg;obtain⟨y,hy⟩:=y;dsimp only;have HM:=O (Qpa (v:=y.v) U.drew V.drew (by omega));have ae:Qc (fun k=>k=s∨k=s+1) J W.drew:=B.drew;have an:=ak y hy;have f0:=Jf (ae.blk B7.o (by omega));obtain⟨d0,d1,d2,d3⟩:=X9 (ae.blk (ai.o.mem y hy) (by omega));have HC:=O B;have ap:=O U;have aq:=O V;clear U V B ae an;gi_wp2;refine Qf0 [(0,0),(0,1),(0,2),(0,3),(0,4),(2,5)] Zq (by kernel_rfl) (fun _ _ _ _ _ h=>h) ?_;simp only[Jk,Zf,Ze,Zd];iterate 5 (refine Qvq (h:=?_))
  refine Qvp ?_;gi_wp2;refine⟨trivial,?_⟩;refine(CallsIn.inRound l' (callsIn_wide.2 HM.o)).mono ?_;rintro e w2⟨rfl,n5,n6,c2⟩;have C2:=O c2.aT;have N5:=O n5;have N6:=O n6;clear f0 d0 d1 d2 d3 c2 n5 n6;gi_wp2;refine Qu9 ?_;gi_wp2;refine⟨Vg C2.o (fun k hk=>by rcases hk with h|h<;>omega),Le.chg C2.o (fun k h1 h2=>by rcases h2 with h|h<;>omega),⟨?_,?_⟩,HC.o.aA C2.o⟩;·rw[List.map_append,List.map_cons,List.map_nil,Qhn];exact N5.o
  ·rw[List.map_append,List.map_cons,List.map_nil,Qk7];exact N6.o
 case done=>
  rintro D ys W hD hp⟨⟨U,V⟩,B⟩hK;have cw:Qc Qb w W:=C0.o.trans B (fun k hk=>.inr (by rw[←ah.o];rcases hk with h|h<;>omega));have Z:R7 (l.filter (·.aL)) d x.v=R7 (ys.map (·.1)) d x.v:=by unfold R7;rw[F7 hp,Qar hp]
  obtain⟨a2,R⟩:=Zx (R7 (l.filter (·.aL)) d x.v);rw[←R]at Z;have ab:=O R;clear R;have ag:Ln (ys.map (·.1))≤Qq:=Qaq _ fun z hz=>HB.o z ((List.mem_filter.1 (hp.mem_iff.1 hz)).1);have al:=HB.o x hx;have HX:=O (cw.blk (aj.o.mem x hx) (fun h=>h));have am:=O (cw.blk aj.o.blk (fun h=>h));have af:=Cg (ys.map (·.1));unfold R7 at Z;generalize Ou (ys.map (·.1))=u at U Z af;generalize Ln (ys.map (·.1))=E at V Z ag;have hN:Qq=9223372036854775808:=rfl;by_cases Xg:E<u
  ·rw[if_pos Xg]at Z;have E0:=O Z;have d1:decide (E<u)=true:=by simpa using Xg
   have d2:(E:Int)<(u:Int):=by omega
   have em:max (x.v:Int) (d:Int)=((max x.v d:Nat):Int):=by omega
   have a0:=Jf U;have a1:=Jf V;obtain⟨x0,x1,x2,x3⟩:=X9 HX.o.drew;obtain⟨m0,m1⟩:=Q4 am.o.drew;have HK:=O hK;have CW:=O cw;have ac:w.heap.size≤D:=by have:=ah.o;omega
   clear Z U V B hp hK cw af ag al hN Xg;gi_wp2;refine Sc [(0,0),(0,1),(0,2),(0,3),(0,4),(0,5),(0,6),(0,7),(0,8),(2,9)] Zq (by kernel_rfl) ?_;simp only[Jk,Zf,Ze,Zd];iterate 9 (refine Et (h:=?_))
   refine Bl ?_;gi_wp2;refine Qnv ?_;gi_wp2;refine⟨by simp,.inl ⟨_,_,rfl,run_takeDeferred (show W.drew.heap[D]? =_ from HK.o),?_⟩⟩;refine⟨ZU ((max x.v d:Nat):Int),?_,by rw[←ab.o,E0.o],Ud CW.o.drew ac (Z2.1 HK.o).1⟩;simp[results,Tryz.results230,go_sem]
  ·rw[if_neg Xg]at Z;have E0:=O Z;have d1:decide (E<u)=false:=by simpa using Xg
   have d2:¬(E:Int)<(u:Int):=by omega
   have e1:IntKind.u64.wrap ((E:Int)-(u:Int))=((E-u:Nat):Int):=by rw[IntWalk.u64_in _ (by omega)];omega
   have e3:IntKind.u64.wrap (((E-u:Nat):Int)/2)=(((E-u)/2:Nat):Int):=by rw[IntWalk.u64_in _ (by omega)];omega
   have e2:IntKind.u64.wrap ((u:Int)+(((E-u)/2:Nat):Int))=((u+(E-u)/2:Nat):Int):=by rw[IntWalk.u64_in _ (by omega)];omega
   have em:max (x.v:Int) ((u+(E-u)/2:Nat):Int)=((max x.v (u+(E-u)/2):Nat):Int):=by omega
   have a0:=Jf U;have a1:=Jf V;have ar:=Jf U.drew;have au:=Jf V.drew;obtain⟨x0,x1,x2,x3⟩:=X9 HX.o.drew;have HK:=O hK;have CW:=O cw;have ac:w.heap.size≤D:=by have:=ah.o;omega
   clear Z U V B hp hK cw af ag al hN Xg;gi_wp2;refine Sc [(0,0),(0,1),(0,2),(0,3),(0,4),(0,5),(0,6),(0,7),(0,8),(0,9),(0,10),(2,11)] Zq (by kernel_rfl) ?_;simp only[Jk,Zf,Ze,Zd];generalize(E-u)/2=hf at e2 e3 em E0;generalize u+hf=lh at e2 em E0;iterate 11 (refine Et (h:=?_))
   refine Bl ?_;gi_wp2;refine Qnv ?_;gi_wp2;refine⟨by simp,.inl ⟨_,_,rfl,run_takeDeferred (show W.drew.heap[D]? =_ from HK.o),?_⟩⟩;refine⟨ZU ((max x.v lh:Nat):Int),?_,by rw[←ab.o,E0.o],Ud CW.o.drew ac (Z2.1 HK.o).1⟩;simp[results,Tryz.results230,go_sem]
theorem Qji{m:Nat}{ad:Int→Nat}{w}{F:Fp}{b:Nat}{f:Jc}(h:Yu m ad w F b f)(u:∀y∈f.all,y.v≤Qq)(c:f.mark≤Qq){x:Jh}(z:x∈f.all):
  ZW 230 #[ptr b,ptr (ad x.id)] w (ZU ((f.start x:Nat):Int)) fun w'=>Qc Qb w w':=by
 obtain⟨pr,l,k,d,q⟩:=h.view;rw[Qst (k.filter _) x];exact Qjj q d (fun y B=>u y (k.mem_iff.1 B)) c (k.mem_iff.2 z)
end
theorem Jc.made_wake(f:Jc)(x:Jh)(v:Nat)(r:Xh):((f.made x v).set {{x with v:=v}with run:=r}).set {{{x with v:=v}with run:=r}with aL:=true}=f.made {x with run:=r,aL:=true} v:=by refine(Jc.set_set (f.made x v) (a:={{x with v:=v}with run:=r}) (b:={{{x with v:=v}with run:=r}with aL:=true}) rfl).trans ?_;have e:=f.set_set (a:={x with v:=v}) (b:={{{x with v:=v}with run:=r}with aL:=true}) rfl;unfold Jc.made;show(⟨((f.set {x with v:=v}).set {{{x with v:=v}with run:=r}with aL:=true}).all,max f.mark v⟩:Jc)=_;rw[e]
theorem Qmw{w}{F:Fp}{b:Nat}{f:Jc}(h:J0 w F b f)(hN:∀x∈f.all,x.total≤Xw∧x.run.l.length<549755813888∧x.v≤Qq)(K:f.mark≤Qq)(i:Int):
  ZW 175 #[ptr b,ZI i] w (.tuple #[]) fun w'=>J0 w' (Qn F w w') b (f.wake i)∧Qc F w w':=by
 obtain⟨m,ad,I⟩:=h.addr;have R:=O (I.at_any i);unfold Jc.wake;unfold Qk3 at R;cases hx:f.at i with
 |none=> have c:=O (I.same (Zg Qb w));rw[hx]at R;dsimp only[atP]at R⊢;clear h I hx hN K;go_enter func175,ntmps175;go_wp2_with fail;refine Zy R ?_;rintro w1 rfl;go_wp2;refine bodyPost_ret (results_none rfl _ _ _) rfl ⟨rfl,c.o.1.is,c.o.2⟩
 |some x=>
  obtain⟨hm,rfl⟩:=Jc.aE hx;obtain⟨U,E,ak⟩:=hN x hm;obtain⟨p,H,hM,_,ah⟩:=I.memB hm;obtain⟨a0,a1,a2,a3⟩:=X9 hM;rw[hx]at R;dsimp only[atP]at R⊢;rcases Bool.eq_false_or_eq_true x.aL with d|d;·rw[if_pos d];rw[d]at a3;have c:=O (I.same (Zg Qb w));clear h I hx hN K hM hm U E ak ah d;go_enter func175,ntmps175;go_wp2_with fail;refine Zy R ?_;rintro w1 rfl;go_wp2;refine bodyPost_ret (results_none rfl _ _ _) rfl ⟨rfl,c.o.1.is,c.o.2⟩
  ·rw[if_neg (by rw[d];decide)];rw[d]at a3;have HS:=O (Qji I (fun y hy=>(hN y hy).2.2) K hm);have aj:f.start x≤Qq:=by unfold Jc.start;have h1:f.most≤Qq:=Qaq _ fun z hz=>(hN z (List.mem_filter.1 hz).1).2.2;have h2:f.least≤Qq:=Cg _;split<;>omega
   generalize f.start x=v at HS aj⊢;have am:Qq=9223372036854775808:=rfl;have hC:=Yz;have Z:=O ((Yu.obj m ad).bd I);have S1:Hi (∀w1,Qc Qb w w1→Yu m ad w1 (Qn F w w1) b f∧Qc F w w1):=O (fun w1 c1=>I.same c1);have M2:=O (Jc.mem_set (a:={x with v:=v}) hm rfl);have an:({x with v:=v}:Jh)∈(f.made x v).all:=M2.o;have al:=O (fun(w)(F:Fp)(p:Nat)(h:Yv w F p x.run)=>Rv h E v x.total (by omega) (by omega));have HM:=O hm;have FE:=O (f.made_wake x v (x.run.start v x.total));clear h I hx hN K hM hm U E ak ah d aj am hC;go_enter func175,ntmps175;go_wp2_with fail;refine Zy R ?_;rintro w1 rfl;go_wp2_with fail;refine Zy HS ?_;intro w1 c1;obtain⟨h1,ae⟩:=S1.o _ c1;have B1:=O ((Yu.obj m ad).bd h1);have C1:=O ae;clear c1 ae a0 a1 a2 a3;go_wp2_with fail;refine Zz (Qb4 h1 HM.o v) ?_;rintro w2⟨h2,c2⟩;have C2:=O (C1.o.ext c2);have ab:Yu m ad w2 (Qn F w w2) b (f.made x v):=((Yu.obj m ad).two h2 Z.o C1.o c2).1;obtain⟨q,G,ag,B,V⟩:=ab.memR an;obtain⟨a0,a1,a2,a3⟩:=X9 ag.drew;have HR:=O (al.o _ _ _ ((runP.aB B (Zg Qb w2).drew (Jl.none G))));have HP:=O V;have BG:=O (runP.bd B);have B2:=O ((Yu.obj m ad).bd ab);clear h1 h2 c2 ab ag B V;go_wp2_with fail;refine ZB [0,1,2,3,4,5,6,7,8,9,10,11,212] ?_;simp only[Z8,Zf,Ze,Zd];iterate 12 (refine Jq (h:=?_))
   clear a0 a1 a2 a3;refine J7 ?_;go_wp2_with fail;refine Zy HR ?_;rintro w3⟨ai,c3⟩;have aa:=c3.aT;obtain⟨h3,af⟩:=HP.o w3 _ (runP.more ai (fun k hk=>hk.elim .inl (fun hk=>.inr hk)) (BG.o.ext aa)) aa;have J:=((Yu.obj m ad).two h3 Z.o C2.o af);have ac:({{x with v:=v}with run:=x.run.start v x.total}:Jh)∈((f.made x v).set {{x with v:=v}with run:=x.run.start v x.total}).all:=Jc.mem_set (x:={x with v:=v}) M2.o rfl;obtain⟨q3,H3,u,_,_⟩:=J.1.memB ac;obtain⟨a0,a1,a2,a3⟩:=X9 u;have z3:=u.frozen 3;have c:Hi (∀w4,w4=w3.setCell ⟨ad x.id,3,none⟩ (.bool true)→J0 w4 (Qn F w w4) b (f.made {x with run:=x.run.start v x.total,aL:=true} v)∧Qc F w w4):=O (by
    rintro w4 rfl;obtain⟨k1,k2⟩:=J.1.memC' (x':={{{x with v:=v}with run:=x.run.start v x.total}with aL:=true}) ac rfl rfl u ((Zg (fun k=>k=ad x.id) w3).setCell (a:=⟨ad x.id,3,none⟩) (.bool true) (.inl rfl)) (u.set' 3 _ rfl);obtain⟨l1,l2⟩:=(Yu.obj m ad).two k1 Z.o J.2 k2;rw[FE.o]at l1;exact⟨l1.is,l2⟩)
   clear ai c3 aa h3 af J ac u;go_wp2_with fail;refine Jo ?_;go_wp2_with fail;refine bodyPost_end (by simp[*,results,Tryz.results175,go_sem]) rfl ⟨rfl,c.o _ rfl⟩
section
attribute [local go_sem] Qp Wk
structure Qqu(w:World)(F:Fp)(b m:Nat)(ad:Int→Nat)(f:Jc)(l:List Jh)(b' m' r:Nat)(wr:World)(lm dn:List Jh):Prop where
 it:Kj wr m r (Xy Jh.id ad l) (Xy Jh.id ad lm)
 sub:lm.Sublist l
 perm:(dn++lm).Perm l
 chg:Qc Qb w wr
 blk:Qh wr b' #[.map (some m'),ZU f.mark] 245
 co:∃ad' G,Yn Jh.id Vj wr G m' ad' dn∧∀k,G k→w.heap.size≤k∧k≠r∧k≠b'
 nb:w.heap.size≤b'∧w.heap.size≤r∧b'≠r
theorem Qmt{w}{F:Fp}{b:Nat}{f:Jc}(h:J0 w F b f)(hN:∀x∈f.all,x.run.l.length<1099511627776):
  Cl 127 #[ptr b] w fun e w'=>∃b',e=.returned (ptr b')∧J0 w' (Qn Qb w w') b' f∧Qc Qb w w':=by
 obtain⟨m,ad,hA⟩:=h.addr;have HA:=O hA;obtain⟨l,hp,hB,G,hC⟩:=hA.coll;have HP:=O hp;have ak:=O hC.nodup;obtain⟨a0,a1⟩:=Q4 hB;obtain⟨s,hs⟩:=Zx (w.heap.size);obtain⟨W,hW⟩:=Zx ((w.alloc (.map #[] 0)).alloc (.cells #[.map (some w.heap.size),ZU f.mark] 245));have bk:=@run_makeMap prog;have C0:Qc Qb w W:=by rw[hW];exact((Zg _ _).alloc _).alloc _
 have hm:Xq W s []:=by rw[hW,hs];exact(Xq.new w).aB ((Zg Qb _).alloc _) (fun h=>h)
 have au:Qh W (s+1) #[.map (some s),ZU f.mark] 245:=by rw[hW,hs];exact Qh.new' _ _ (by simp)
 have Z:W.heap.size=s+1+1:=by rw[hW,hs];simp
 obtain⟨o,az,ag⟩:=Er (P:=prog) (hC.map.aB C0 (fun h=>h)) underlying243;have B:Hi (∃lm E,Qqu w F b m ad f l (s+1) s (s+1+1) (W.alloc o) lm E):=O (by
  have cc:Qc Qb W (W.alloc o):=(Zg _ _).alloc _;rw[Z]at ag;refine⟨l,[],ag,List.Sublist.refl _,by simp,C0.aA cc,cc.blk au (fun h=>h),⟨fun _=>0,fun k=>k=s,Yn.new (hm.aB cc (fun h=>h)) (fun k e=>by rw[e];exact(hm.aB cc (fun h=>h)).lt) rfl,?_⟩,?_⟩;·intro k e;omega
  ·omega)
 have q1:=Q4 (((Zg Qb w).alloc (.map #[] 0)).blk hB (fun h=>h));obtain⟨f0,f1⟩:=q1;have e0:=(Q4 (C0.blk hB (fun h=>h))).1;rw[Z]at az;rw[hW]at e0 B az;subst hs;have a7:=O hN;clear h hA hB hC hp hm au C0 ag hN Z hW;go_enter func127,ntmps127;go_wp2_with fail;go_loopw [4,5,6] (fun _ _ _ wr=>∃lm E,Qqu w F b m ad f l (w.heap.size+1) w.heap.size (w.heap.size+1+1) wr lm E) (fun _ _ _ wr=>Dq wr (w.heap.size+1+1));case atStart=>exact B.o
 case round=>
  obtain⟨lm,E,c⟩:=hrel;have U:=ak.o.sublist (c.sub.map _);obtain⟨e1,_⟩:=Q4 c.blk;rcases Rx (P:=prog) c.it 0 with⟨h0,hr⟩|⟨p,hp,w2,hr,R,K,af⟩
  ·have ba:lm=[]:=by
    cases lm with
    |nil=>rfl
    |cons a l=>cases h0
   subst ba;have a4:Hi (J0 wr (Qn Qb w wr) (w.heap.size+1) f∧Qc Qb w wr):=O (by
    obtain⟨al,G',I,z⟩:=c.co;have bd:E.Perm l:=by simpa using c.perm
    refine⟨⟨w.heap.size,al,E,bd.trans HP.o,?_⟩,c.chg⟩;refine Q7 (G:=fun k=>k=w.heap.size+1) (H:=G') ⟨c.blk,rfl,fun k e=>e▸c.blk.lt⟩ (Y6 I I.bd) ?_ ?_ ?_ (fun k d=>d.elim (fun h=>h.elim) (fun h=>h.2));·rintro k rfl d;exact(z _ d).2.2 rfl
    ·rintro k rfl;exact .inr ⟨by omega,c.blk.lt⟩
    ·intro k d;exact .inr ⟨(z k d).1,I.bd k d⟩)
   clear c U;go_wp2_with fail;go_ret;exact⟨_,rfl,a4.o⟩
  ·obtain⟨x,hx,rfl⟩:=Z3.1 hp;have be:=c.sub.subset hx;have a2:=HP.o.mem_iff.1 be;have c2:Qc Qb w w2:=c.chg.trans K (fun k e=>.inr (by rw[e];omega));obtain⟨p,H,hM,hR,_⟩:=((Yu.obj m ad).aB HA.o c2 (Jl.none F)).memB a2;obtain⟨W3,J⟩:=Zx (w2.alloc (.cells (Pp x p) 255));have c3:Qc Qb w2 W3:=by rw[J];exact(Zg _ _).alloc _
   have aq:Qh W3 (ad x.id) (Pp x p) 255:=c3.blk hM (fun h=>h);have aa:Qh W3 w2.heap.size (Pp x p) 255:=by rw[J];exact Qh.new _ _ _
   have HC:=O (Mo (runP.aB hR c3 (Jl.none H)) (a7.o x a2));obtain⟨d0,d1,d2,d3⟩:=X9 hM;obtain⟨_,_,g2,_⟩:=X9 aq;have ae:Qh w2 (w.heap.size+1) #[.map (some w.heap.size),ZU f.mark] 245:=K.blk c.blk (by omega);have aj:=O ae;have a5:=O aa;have ai:Hi (∀w4 q,Yv w4 (Qn Qb W3 w4) q x.run→Qc Qb W3 w4→∃w6,(Instr.mapUpdate 243 (.map (some w.heap.size)) (ZI x.id) (ZP w2.heap.size)).run prog (w4.setCell ⟨w2.heap.size,2,none⟩ (ptr q))=.ok () w6∧
     Qqu w F b m ad f l (w.heap.size+1) w.heap.size (w.heap.size+1+1) w6 (Kp Jh.id x.id lm) (E++[x])∧Dq w6 (w.heap.size+1+1)<Dq wr (w.heap.size+1+1)):=O (by
    intro w4 q V c4;obtain⟨al,G',I,z⟩:=c.co;have s1:=c.chg.size;have s2:=K.size;have s3:=c3.size;have s4:=c4.size;have bh:w2.heap.size<W3.heap.size:=aa.lt;have bg:=(show w.heap.size+1+1<w2.heap.size from by
     obtain⟨o2,h2,_⟩:=R.walk;exact(Z2.1 h2).1)
    have an:Qc (fun k=>k=w2.heap.size) w4 (w4.setCell ⟨w2.heap.size,2,none⟩ (ptr q)):=(Zg _ _).setCell _ (.inl rfl);have a8:=c4.blk aa (fun h=>h);have ar:Qh (w4.setCell ⟨w2.heap.size,2,none⟩ (ptr q)) w2.heap.size (Pp x q) 255:=a8.set' 2 _ rfl;have a9:Yv (w4.setCell ⟨w2.heap.size,2,none⟩ (ptr q)) (Qn Qb W3 w4) q x.run:=runP.aB V an (fun k d e=>by rcases(Qr k).1 d with⟨h1,_⟩;omega);have am:Qc Qb w2 (w4.setCell ⟨w2.heap.size,2,none⟩ (ptr q)):=(c3.aA c4).trans an (fun k e=>.inr (by rw[e];exact Zv _));have bi:=ar.lt;have hX:Vj (w4.setCell ⟨w2.heap.size,2,none⟩ (ptr q)) (Qn Qb w2 (w4.setCell ⟨w2.heap.size,2,none⟩ (ptr q))) w2.heap.size x:=
     O1.new (p:=q) (G:=Qn Qb W3 w4) a9 (fun k d=>by rcases(Qr k).1 d with⟨h1,_⟩;omega) runP ar (Zv _) (fun d=>by rcases(Qr _).1 d with⟨h1,_⟩;omega)
    have ao:=I.aB Vj.obj K (fun k d e=>(z k d).2.1 e);have ap:=ao.aB Vj.obj am (Jl.none G');obtain⟨w6,ah,bb,c6⟩:=X6 (P:=prog) ap.map underlying243 underlying3 x.id (ZP w2.heap.size);have bc:Hn Jh.id x.id E=none:=by
     cases ha:Hn Jh.id x.id E with
     |none=>rfl
     |some y=> obtain⟨hy,bf⟩:=Y3 ha;have aw:((E++lm).map Jh.id).Nodup:=((c.perm.map _).nodup_iff).2 ak.o;rw[List.map_append,List.nodup_append]at aw;exact(aw.2.2 _ (Z3.2 ⟨y,hy,rfl⟩) _ (Z3.2 ⟨x,hx,rfl⟩) bf).elim
    have a6:=ap.put Vj.obj hX (fun k a b'=>by
     rcases(Qr k).1 a with⟨h1,_⟩;have:=ao.bd k b';omega) bc bb c6
    have bj:∀k,G' k→w.heap.size≤k∧k≠w.heap.size+1+1∧k≠w.heap.size+1:=z;have ac:Qc (fun k=>k=w.heap.size) w2 w6:=(am.none).aA c6;have ab:Kj w6 m (w.heap.size+1+1) (Xy Jh.id ad l) (Vu x.id (Xy Jh.id ad lm)):=R.aB ac (by have:=HA.o.coll;obtain⟨_,_,_,_,hq⟩:=this;have:=hq.map.lt;omega) (by omega);have ay:=O8 (key:=Jh.id) U hx;refine⟨w6,ah,⟨?_,List.filter_sublist.trans c.sub,?_,?_,ac.blk ae (by omega),⟨_,_,a6,?_⟩,c.nb⟩,?_⟩;·rw[←Hr];exact ab
    ·refine List.Perm.trans ?_ c.perm;rw[List.append_assoc];exact List.Perm.append_left E ay.symm
    ·exact c2.trans ac (fun k e=>.inr (by rw[e];exact Zv _))
    ·intro k d;rcases d with d|d;·exact z k d
     ·rcases(Qr k).1 d with⟨h1,_⟩;omega
    ·rw[ab.left_eq,c.it.left_eq,Hr];have:=ay.length_eq;simp only[Xy,List.length_map,Zm]at*;omega)
   dsimp only at hr af;have u:=J;unfold Pp at u;unfold ptr at hr af HC d2 g2 u;rw[u]at HC g2;clear c U R K c2 c3 hM aq hR aa ae hp;go_wp2_with fail;refine Zo HC ?_;rintro e w4⟨q,rfl,V,c4⟩;rw[←u]at V c4;obtain⟨w6,ah,av,Xg⟩:=ai.o w4 q V c4;have a3:=O av;have LT:=O Xg;have q4:=c4.blk a5.o (fun h=>h);obtain⟨k0,k1,k2,k3⟩:=X9 q4;have z2:=q4.frozen 2;have q5:=c4.blk ((show Qc Qb w2 W3 from by rw[J];exact(Zg _ _).alloc _).blk aj.o (fun h=>h)) (fun h=>h);have ax:w2.heap.size≠w.heap.size+1:=by have:=aj.o.lt;omega
   obtain⟨y0,y1⟩:=Q4 (q5.other (a:=⟨w2.heap.size,2,none⟩) (ptr q) ax);unfold ptr at ah y0 y1;clear V c4 av Xg q4 q5 hr af d0 d1 d2 d3 g2 J u;go_wp2_with fail;exact⟨⟨_,_,a3.o⟩,LT.o⟩
end
section
open Go.Shelf
attribute [local go_sem] Oper.semAt_some Qp
theorem Qqi(n l' V b:Nat)(T:Fp)(J K:List Xu→World→Prop)(W){t:Tr}{p:Value}{k:Int}(hB:Qh W V #[ptr b] 201)(U:Qh W b #[Dd,Vv,t.aH,ZI k] 269)(hA:Jw W t)(u:∀a∈t.aC,T a)
  (hJ:∀c W,J c W→J c W.drew)
  (hY:∀m c x R,J c R→c.length<t.flat.length→YieldAt Fence.wide m prog l' (Qof x) R fun e d=>(e=.returned (.bool true)∧J (c++[x]) d∧Le T R d)∨(e=.returned (.bool false)∧K (c++[x]) d))(h0:J [] W):
  CallsIn Fence.wide n prog 233 #[.func (.yield l') #[] #[],ZP V] W fun e d=>(∃v,e=.returned v)∧((∃B,B=t.flat∧J B d)∨(∃c,c<+:t.flat∧K c d)):=by
 have Z:=O (fun n=>Wf (n:=n) hJ hY t);have c0:=Jf hB;obtain⟨c1,c2,c3,c4⟩:=X9 U;have I:=O (Zt hA (Zt u h0));have HN:=O (fun W(h:Qgc W b)=>Od h);have q:Hi (Qgc W b):=O ⟨_,_,U⟩;obtain⟨pv,z⟩:=Zx (t.aH);rw[←z]at c3 Z;clear z hB U hA u hJ hY h0;refine callsIn_of_wp func233 rfl trivial ?_ rfl;simp only[ntmps233,List.size_toArray,Zm,List.length_nil,Nat.reduceAdd,Nat.reduceSub,Array.replicate_succ,Array.replicate_zero,List.push_toArray,List.append_toArray,List.nil_append,List.cons_append];gi_wp2;refine⟨trivial,(fun h=>by cases h),?_⟩;refine(callsIn_wide.2 (HN.o _ q.o)).mono ?_;rintro e w1⟨rfl,rfl⟩;gi_wp2;refine⟨trivial,(fun h=>by cases h),?_⟩;refine(Z.o _ [] W I.o.1 I.o.2.1 I.o.2.2 (by simp)).mono ?_;rintro e w2⟨b2,rfl,k1,k2⟩;have E:Hi ((∃B,B=t.flat∧J B w2)∨(∃c,c<+:t.flat∧K c w2)):=O (by
  cases b2 with
  |true=>exact .inl ⟨_,rfl,by simpa using(k1 rfl).1⟩
  |false=>
   obtain⟨p,hp,hx⟩:=k2 rfl;exact .inr ⟨p,hp,by simpa using hx⟩)
 clear k1 k2;gi_wp2;refine bodyPost_end (results_none rfl _ _ _) rfl ?_;exact⟨⟨_,rfl⟩,E.o⟩
theorem Qjc(n q b:Nat)(T:Fp)(w){t:Tr}{p:Value}{k:Int}(U:Qh w q #[ptr b] 201)(Z:Qh w b #[Dd,Vv,t.aH,ZI k] 269)(R:Jw w t)(u:∀a∈t.aC,T a):
  SeqStopsK Fence.wide n prog 233 #[ZP q] Qof (Le T) (fun ys=>ys=t.flat) (fun c=>c<+:t.flat) t.flat.length w:=fun l' J B W z V _ hY E=>
 Qqi (p:=p) n l' q b T J B W ((Qc.ofBelow (S:=Qb) z).blk U (fun h=>h)) ((Qc.ofBelow (S:=Qb) z).blk Z (fun h=>h)) (Jw.aB (Qc.ofBelow (S:=Qb) z) t R (fun _ _ h=>h)) u
  (fun c d h=>V c d d.drew none h ⟨rfl,rfl,rfl,Zv _,fun _ _ _=>rfl⟩ (fun r e=>by cases e)) (fun m c x d I K=>Qf6 (hY c x d I K)) E
theorem Qqj(b:Nat)(w):ZW 188 #[ptr b] w (.func (.func 233) #[] #[ZP w.heap.size]) fun w'=>w'=w.alloc (.cells #[ptr b] 201):=by unfold ptr;go_enter func188,ntmps188;go_wp2;go_ret;exact⟨rfl,rfl⟩
def Qrf(l:List Xu):Nat:=(l.head?.map (·.1)).getD 0
def Wl(l:List Xu):Int:=(l.head?.map (·.2.1)).getD 0
theorem Qis{w}{F:Fp}{b:Nat}{l:List Xu}(h:Vz w F b l):
  ZW 131 #[ptr b] w (.tuple #[Yo (Qrf l) (Wl l),.bool (!l.isEmpty)]) fun w'=>Qc Qb w w':=by
 obtain⟨t,hR⟩:=h;have HU:=O (Qqj b);refine callsIn_wide (n:=9).1 ?_;unfold ptr at HU⊢;refine callsIn_of_wp_marks func131 rfl trivial ?_;simp only[ntmps131,List.size_toArray,Zm,List.length_nil,Nat.reduceAdd,Nat.reduceSub,Array.replicate_succ,Array.replicate_zero,List.push_toArray,List.append_toArray,List.nil_append,List.cons_append];gi_wp2_with (refine⟨trivial,?_⟩;gi_at_call 188;refine(callsIn_wide.2 (HU.o _)).mono ?_;rintro e w1⟨rfl,rfl⟩);obtain⟨s,V⟩:=Zx (w.heap.size);obtain⟨z,B⟩:=Zx ((((w.alloc (.cells #[ZU 0,ZI 0] 199)).alloc (.cells #[.bool false] 4)).alloc (.cells #[ZP b] 201)));have C0:Hi (Qc Qb w z):=O (by rw[B];exact(((Zg _ _).alloc _).alloc _).alloc _);have ah:z.heap.size=s+3:=by rw[B,V];simp
 have B2:Hi (Qh z s #[ZU 0,ZI 0] 199):=O (by rw[B,V];exact((Qh.new' _ _ (by simp)).alloc _).alloc _);have B3:Hi (Qh z (s+1) #[.bool false] 4):=O (by rw[B,V];exact(Qh.new' _ _ (by simp)).alloc _);have B4:Hi (Qh z (s+1+1) #[ptr b] 201):=O (by rw[B,V];exact Qh.new' _ _ (by simp));have ac:Hi (Qh z b #[Dd,Vv,t.aH,ZI l.length] 269):=O (C0.o.blk hR.top (fun h=>h));have ab:Hi (Jw z t):=O (Jw.aB C0.o t hR.sub.at' (fun _ _ h=>h));have Xg:∀a∈t.aC,a<s:=fun a ha=>by rw[V];exact Jw.lt t hR.sub.at' a ha
 have HF:=O hR.flat;rw[←V,←B];have Z:=O V;clear B V hR;refine wpIn_rangeFunc_ownH rfl (by decide) (gf:=233) (lb:=#[ZP (s+1+1)]) rfl trivial (enters_of func233 (by kernel_rfl) rfl)
  (Qjc (p:=.pointer none) 8 (s+1+1) b (fun k=>k∈t.aC) z B4.o ac.o ab.o (fun a h=>h))
  (fun h k=>h.trans k) (fun W l o o' h1 h2 h3 h4=>Le.put (w:=z) W l o o' h1 h2 h3 h4) (Below.refl _ _) (fun _=>rfl)
  (fun E W=>(E=[]∧Qh W s #[ZU 0,ZI 0] 199∧Qh W (s+1) #[.bool false] 4)∧Qc Qb z W)
  (fun c E W=>(c=.ret∧(∃x,E=[x]∧Qh W s #[ZU x.1,ZI x.2.1] 199)∧Qh W (s+1) #[.bool true] 4)∧Qc (fun k=>k=s∨k=s+1) z W)
  ?o1 ?o2 ⟨⟨rfl,B2.o,B3.o⟩,Zg _ _⟩
  (fun x a' W=>∃Bx,s+3≤Bx∧Qh W Bx #[ZU x.1,ZI x.2.1] 199∧a'={tmps:=#[ZP b,undef,ZP s,ZP (s+1),ZP Bx,ZP b,.func (.func 233) #[] #[ZP (s+1+1)],Yo x.1 x.2.1,ZU x.2.2,undef,undef],defers:=[]})
  ?o3 ?assign ?body ?done ?stop
 case assign=> rintro l' E x W K hI hK;obtain⟨xn,xi,xv⟩:=x;dsimp only[Qof,Yo];gi_wp2;have cc:Qc Qb W (W.alloc (.cells #[ZU xn,ZI xi] 199)):=(Zg _ _).alloc _;exact hK _ _ (Vg cc (fun k h=>h.elim)) (Le.chg cc (fun _ _ h=>h)) ⟨⟨hI.1.1,cc.blk hI.1.2.1 (fun h=>h),cc.blk hI.1.2.2 (fun h=>h)⟩,hI.2.aA cc⟩ ⟨W.heap.size,by have:=hI.2.size;omega,Qh.new W _ _,rfl⟩
 case body=>
  rintro l' E⟨xn,xi,xv⟩a' W hl ag⟨⟨rfl,I,J⟩,q⟩⟨Bx,af,bX,rfl⟩ae;obtain⟨x0,x1⟩:=Q4 bX;obtain⟨y0,y1⟩:=Q4 I;have y2:=Jf J;have z0:=I.frozen;have z1:=J.frozen 0;dsimp only[Yo]at*;have HW:Hi (∀w',w'=((W.setCell ⟨s,0,none⟩ (ZU xn)).setCell ⟨s,1,none⟩ (ZI xi)).setCell ⟨s+1,0,none⟩ (.bool true)→KeepsFrom z.heap.size W w'∧Qh w' s #[ZU xn,ZI xi] 199∧Qh w' (s+1) #[.bool true] 4∧Qc (fun k=>k=s∨k=s+1) z w'):=O (by
   rintro w' rfl;have c1:Qc (fun k=>k=s∨k=s+1) W (((W.setCell ⟨s,0,none⟩ (ZU xn)).setCell ⟨s,1,none⟩ (ZI xi)).setCell ⟨s+1,0,none⟩ (.bool true)):=(((Zg _ _).setCell _ (.inl (.inl rfl))).setCell _ (.inl (.inl rfl))).setCell _ (.inl (.inr rfl));refine⟨Vg c1 (fun k hk=>by rcases hk with h|h<;>omega),((I.set' 0 _ rfl).set' 1 _ rfl).other _ (by show s+1≠s;omega),?_,(q.none).aA c1⟩;exact((J.other (a:=⟨s,0,none⟩) _ (by show s≠s+1;omega)).other (a:=⟨s,1,none⟩) _ (by show s≠s+1;omega)).set' 0 _ rfl)
  clear I J bX q;gi_wp2;obtain⟨k1,k2,k3,k4⟩:=HW.o _ rfl;exact⟨k1,⟨rfl,⟨_,rfl,k2⟩,k3⟩,k4⟩
 case o1=>exact OwnFrom.and (OwnFrom.and (ownFrom_pure _ _) (OwnFrom.and (Yx _ _ (fun _=>_) _) (Yx _ _ (fun _=>_) _))) (Dr (Zv _))
 case o2=> intro c E W W' U h hg hr;obtain⟨⟨e,⟨x,e2,I⟩,J⟩,hc⟩:=h;exact⟨⟨e,⟨x,e2,Yx z.heap.size s (fun(_:Unit)=>#[ZU x.1,ZI x.2.1]) _ () W W' U I hg hr⟩,Yx z.heap.size (s+1) (fun(_:Unit)=>#[.bool true]) _ () W W' U J hg hr⟩,Dr (β:=Unit) (Zv _) () W W' U hc hg hr⟩
 case o3=>exact fun x a' _ X Y U V hg hr=>by obtain⟨Bx,e1,e2,e3⟩:=V;exact⟨Bx,e1,Yx z.heap.size Bx (fun(_:Unit)=>#[ZU x.1,ZI x.2.1]) _ () X Y U e2 hg hr,e3⟩
 case done=>
  rintro D ys W hD hp⟨⟨rfl,I,J⟩,q⟩hK;have hl:l=[]:=by rw[←HF.o];exact hp.symm
  subst hl;obtain⟨y0,y1⟩:=Q4 I;have y2:=Jf J;have z0:=I.frozen;have z1:=J.frozen 0;obtain⟨W2,R⟩:=Zx (((W.setCell ⟨s,0,none⟩ (ZU 0)).setCell ⟨s,1,none⟩ (ZI 0)).setCell ⟨s+1,0,none⟩ (.bool false));have c1:Qc (fun k=>k=s∨k=s+1) W W2:=by rw[R];exact(((Zg _ _).setCell _ (.inl (.inl rfl))).setCell _ (.inl (.inl rfl))).setCell _ (.inl (.inr rfl))
  have q2:Qh W2 s #[ZU 0,ZI 0] 199:=by rw[R];exact((I.set' 0 _ rfl).set' 1 _ rfl).other _ (by show s+1≠s;omega)
  have q3:Qh W2 (s+1) #[.bool false] 4:=by rw[R];exact((J.other (a:=⟨s,0,none⟩) _ (by show s≠s+1;omega)).other (a:=⟨s,1,none⟩) _ (by show s≠s+1;omega)).set' 0 _ rfl
  have d:=O (c1.heap hK (fun h=>by rcases h with h|h<;>omega));have CC:Hi (Qc Qb w W2):=O (C0.o.trans (q.none.aA c1) (fun k hk=>.inr (by rw[←Z.o];rcases hk with h|h<;>omega)));have Q2:=O q2;have Q3:=O q3;have aa:w.heap.size≤D:=by have:=Z.o;omega
  clear I J q c1 q2 q3 hK hp;gi_wp2;rw[←R];clear R;refine⟨by simp,.inl ⟨_,_,rfl,run_takeDeferred d.o,?_⟩⟩;have r2:=Uc Q2.o d.o;have r3:=Uc Q3.o d.o;obtain⟨e0,e1⟩:=Q4 r2;have e2:=Jf r3;refine⟨.tuple #[Yo 0 0,.bool false],?_,rfl,Ud CC.o aa (Z2.1 d.o).1⟩;clear r2 r3;simp[results,Tryz.results131,go_sem,e0,e1,e2,Yo]
 case stop=>
  rintro D c' E W hD u⟨⟨rfl,⟨x,rfl,I⟩,J⟩,q⟩hK;obtain⟨xn,xi,xv⟩:=x;obtain⟨l2,hl⟩:∃l2,l=(xn,xi,xv)::l2:=by
   rw[←HF.o];cases ht:t.flat with
   |nil=>rw[ht]at u;simp at u
   |cons y l2=> rw[ht]at u;obtain⟨rfl,_⟩:=List.cons_prefix_cons.1 u;exact⟨l2,rfl⟩
  subst hl;have CC:Hi (Qc Qb w W):=O (C0.o.trans q (fun k hk=>.inr (by rw[←Z.o];rcases hk with h|h<;>omega)));have aa:w.heap.size≤D:=by have:=Z.o;omega
  have Q2:=O I;have Q3:=O J;have d:=O hK;clear I J q hK u;gi_wp2;refine⟨by simp,.inl ⟨_,_,rfl,run_takeDeferred d.o,?_⟩⟩;have r2:=Uc Q2.o d.o;have r3:=Uc Q3.o d.o;obtain⟨e0,e1⟩:=Q4 r2;have e2:=Jf r3;refine⟨.tuple #[Yo xn xi,.bool true],?_,rfl,Ud CC.o aa (Z2.1 d.o).1⟩;clear r2 r3;simp[results,Tryz.results131,go_sem,e0,e1,e2,Yo]
end
end Go.Proofs.YtigcnnkagkbflaaGreat
