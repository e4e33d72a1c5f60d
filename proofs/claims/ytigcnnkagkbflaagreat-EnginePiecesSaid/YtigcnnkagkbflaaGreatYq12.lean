/- A part of the proof: no condition. -/
import Derived.Test.YtigcnnkagkbflaaGreatYq07
namespace Go.Proofs.YtigcnnkagkbflaaGreat
set_option linter.unusedVariables false
set_option maxRecDepth 100000
set_option maxHeartbeats 4000000
open Go.RowKit
open Go.Proofs.Tryz
attribute [local go_sem] Qp
structure O1{X Y:Type}(ty:TypeId)(cells:X->Nat->Array Value)(pr:X->Y)(Is:World->Fp->Nat->Y->Prop)(w:World)(F:Fp)(b:Nat)(x:X):Prop where
 ex:∃p G,Qh w b (cells x p) ty/\Is w G p (pr x)/\∀k,G k->F k/\k≠b
 bd:Bd F w
 own:F b
section
variable{X Y:Type}{ty:TypeId}{cells:X->Nat->Array Value}{pr:X->Y}{Is:World->Fp->Nat->Y->Prop}{w w1 w2:World}{F:Fp}{b:Nat}{x:X}
theorem O1.obj(I:Hf Is):Hf (O1 ty cells pr Is) where
 bd:=λh=>h.bd
 own:=λh=>h.own
 aB:=λh z B=>by obtain⟨p,G,q,u,c⟩:=h.ex;exact⟨⟨p,G,z.blk q (B _ h.own),I.aB u z (B.subL λk d=>(c k d).1),c⟩,h.bd.later z,h.own⟩
 more:=λh E J=>by obtain⟨p,G,q,u,c⟩:=h.ex;exact⟨⟨p,G,q,u,λk d=>⟨E k (c k d).1,(c k d).2⟩⟩,J,E _ h.own⟩
theorem O1.made{p:Nat}{G:Fp}{x':X}(h:O1 ty cells pr Is w F b x)(u:∀k,G k->F k/\k≠b)(z:Hf Is)
  (E:Qc G w w1)(I:Is w1 (Qn G w w1) p (pr x'))(q:Qc (λk=>k=b) w1 w2)(B:Qh w2 b (cells x' p) ty):O1 ty cells pr Is w2 (Qn F w w2) b x'/\Qc F w w2:=by
 have Xg:=h.bd b h.own;have c:Qc F w w2:=(E.sub λk d=>(u k d).1).aA (q.sub λk d=>d▸h.own);refine⟨⟨⟨p,Qn G w w1,B,z.aB I q ?_,?_⟩,h.bd.ext c,.inl h.own⟩,c⟩
 .rintro k d rfl;rcases d with d|d;·exact(u _ d).2 rfl
  .omega
 .intro k d;rcases d with d|d;·exact⟨.inl (u k d).1,(u k d).2⟩
  .exact⟨.inr ⟨d.1,Nat.lt_of_lt_of_le d.2 q.size⟩,by omega⟩
theorem O1.cell{p:Nat}{G:Fp}{x':X}(h:O1 ty cells pr Is w F b x)(z:Is w G p (pr x'))(u:∀k,G k->F k/\k≠b)(B:Hf Is)
  (q:Qc (λk=>k=b) w w2) (E:Qh w2 b (cells x' p) ty):O1 ty cells pr Is w2 (Qn F w w2) b x'/\Qc F w w2:=by
 have c:Qc F w w2:=q.sub λk d=>d▸h.own;exact⟨⟨⟨p,G,E,B.aB z q (λk d e=>(u k d).2 e),λk d=>⟨.inl (u k d).1,(u k d).2⟩⟩,h.bd.ext c,.inl h.own⟩,c⟩
theorem O1.new{p:Nat}{G:Fp}(q:Is w2 G p (pr x))(u:∀k,G k->w.heap.size<=k)(z:Hf Is)(d:Qh w2 b (cells x p) ty)(E:w.heap.size<=b)(B:¬G b):O1 ty cells pr Is w2 (Qn Qb w w2) b x:=
 ⟨⟨p,G,d,q,λk c=>⟨.inr ⟨u k c,z.bd q k c⟩,λe=>B (e▸c)⟩⟩,λk c=>c.elim (λh=>h.elim) (λh=>h.2),.inr ⟨E,d.lt⟩⟩
theorem Hf.same{Z:Type}{c:World->Fp->Nat->Z->Prop}(d:Hf c){z:Z}(h:c w F b z)(q:Qc Qb w w1):c w1 (Qn F w w1) b z/\Qc F w w1:=
 ⟨d.more (d.aB h q (Jl.none F)) (λk u=>.inl u) ((d.bd h).ext (q.none (F:=F))),q.none⟩
theorem Hf.two{Z:Type}{c:World->Fp->Nat->Z->Prop}(q:Hf c){z:Z}(h:c w2 (Qn (Qn F w w1) w1 w2) b z)(u:Bd F w)(d:Qc F w w1)(k:Qc (Qn F w w1) w1 w2):c w2 (Qn F w w2) b z/\Qc F w w2:=
 ⟨q.more h (Qn.trans d.size k.size) (u.ext (d.ext k)),d.ext k⟩
end
abbrev Yq:World->Fp->Nat->List Xu->Prop:=O1 185 (λ_ p=>#[ptr p]) (λl=>l) Jg
theorem Yq.obj:Hf Yq:=O1.obj Jg.obj
theorem Qod(w):Cl 64 #[] w λe w'=>∃b,e=.returned (ptr b)/\Yq w' (Qn Qb w w') b []/\Qc Qb w w':=by
 have z:=O (Bw w);apply WH func64;go_wp2_with fail;apply Zo z;rintro e w1⟨p,rfl,u,d⟩;have c:Hi (∀w',w'=w1.alloc (.cells #[ZP p] 185)->Yq w' (Qn Qb w w') w1.heap.size []/\Qc Qb w w'):=O (by
  rintro w' rfl;have q:Qc Qb w1 (w1.alloc (.cells #[ZP p] 185)):=(Zg _ _).alloc _;have s1:=d.size;exact⟨O1.new (p:=p) (Jg.obj.aB u q (Jl.none _)) (λk B=>B.elim (λh=>h.elim) (λh=>h.1)) Jg.obj (Qh.new _ _ _) (by omega) (λh=>h.elim (λh=>h.elim) (λh=>by omega)),d.aA q⟩)
 clear u d;go_wp2;go_ret;exact⟨_,rfl,c.o _ rfl⟩
theorem Qj8{w}{F:Fp}{b:Nat}{l:List Xu}(h:Yq w F b l):Cl 71 #[ptr b] w λe w'=>∃b',e=.returned (ptr b')/\Yq w' (Qn Qb w w') b' l/\Qc Qb w w':=by
 obtain⟨p,G,z,d,V⟩:=h.ex;have J:=O (Ao d);have R:=Jf z;have K:Hi (Cl 124 #[ptr b,.func (.func 125) #[] #[],.pointer none] w λe w'=>∃b',e=.returned (ptr b')/\Jg w' (Qn Qb w w') b' l/\Qc Qb w w'):=O (by
  clear h z d;apply WH func124;go_wp2_with fail;apply Zo J;rintro e w1⟨q,rfl,E,c⟩;have I:=O (Zt E c);clear E c;exact WG I)
 clear h z d R;apply WH func71;go_wp2_with fail;apply Zo K;rintro e w1⟨q,rfl,d,c⟩;have u:Hi (∀w',w'=w1.alloc (.cells #[ZP q] 185)->Yq w' (Qn Qb w w') w1.heap.size l/\Qc Qb w w'):=O (by
  rintro w' rfl;have B:Qc Qb w1 (w1.alloc (.cells #[ZP q] 185)):=(Zg _ _).alloc _;have s1:=c.size;exact⟨O1.new (p:=q) (Jg.obj.aB d B (Jl.none _)) (λk U=>U.elim (λh=>h.elim) (λh=>h.1)) Jg.obj (Qh.new _ _ _) (by omega) (λh=>h.elim (λh=>h.elim) (λh=>by omega)),c.aA B⟩)
 clear d c;go_wp2;go_ret;exact⟨_,rfl,u.o _ rfl⟩
theorem Qj9{w}{F:Fp}{b:Nat}{l:List Xu}(h:Yq w F b l)(hl:l.length<4611686018427387904)(id:Int):
  ZW 152 #[ptr b,ZI id] w (.bool (On id l).isSome) λw'=>Yq w' (Qn F w w') b (Xa id l)/\Qc F w w':=by
 obtain⟨q,I⟩:=Zx (w.heap.size);obtain⟨W,u⟩:=Zx (w.alloc (.cells #[ZI id] 3));have K:Hi (Qc Qb w W):=O (by rw[u];exact(Zg _ _).alloc _);have K0:Hi (Qh W q #[ZI id] 3):=O (by rw[u,I];exact Qh.new _ _ _);have Z:=O h.bd;have h:=Yq.obj.aB h K.o (Jl.none F);have H:=O h;obtain⟨p,G,E,R,hG⟩:=h.ex;have HA:=O (Tt R hl id);have B:=O hG;have a0:=Jf E;have HB:=O E;have k0:=Jf K0.o;generalize Xa id l=J at HA|-;have HC:Hi (ZW 209 #[ptr p,ptr q] W (.bool (On id l).isSome) λw'=>Jg w' (Qn G W w') p J/\Qc G W w'):=O (by
  clear h E R a0 u I;apply WH func209;go_wp2_with fail;apply ZQ HA;intro w1 z;exact WD z)
 have HK:Hi (ZW 208 #[ptr b,.func (.func 209) #[] #[ptr q],.bool false] W (.bool (On id l).isSome) λw'=>Jg w' (Qn G W w') p J/\Qc G W w'):=O (by
  clear h E R u I;apply WH func208;go_wp2_with fail;apply ZQ HC;intro w1 z;exact WD z)
 have V:Hi (∀w',Jg w' (Qn G W w') p J->Qc G W w'->Yq w' (Qn F w w') b J/\Qc F w w'):=O (by
  intro w' d c;have hp:=H.o.made (x':=J) B.o Jg.obj c d (Zg _ _) (c.blk HB.o (λh=>(B.o _ h).2 rfl));exact⟨Yq.obj.more hp.1 (λk U=>U.elim .inl (λU=>.inr ⟨Zp K.o.size U.1,U.2⟩)) (Z.o.ext (K.o.none.aA hp.2)),K.o.none.aA hp.2⟩)
 clear h E R a0 k0;apply WH func152;go_wp2_with fail;rw[<-I,<-u];apply ZF HK (λ_ ⟨d,c⟩=>V.o _ d c);intro w1 z;clear u I;exact WD z
theorem Qoe{w}{F:Fp}{b:Nat}{l:List Xu}(h:Yq w F b l)(hl:l.length<4611686018427387903)(id:Int)(n v:Nat):
  ZW 153 #[ptr b,ZI id,ZU n,ZU v] w (.tuple #[]) λw'=>Yq w' (Qn F w w') b (Vf id n v l)/\Qc F w w':=by
 obtain⟨q,z⟩:=Zx (w.heap.size);obtain⟨W,u⟩:=Zx (((w.alloc (.cells #[ZI id] 3)).alloc (.cells #[ZU n] 22)).alloc (.cells #[ZU v] 22));have K:Hi (Qc Qb w W):=O (by rw[u];exact(((Zg _ _).alloc _).alloc _).alloc _);have K0:Hi (Qh W q #[ZI id] 3):=O (by rw[u,z];exact((Qh.new _ _ _).alloc _).alloc _);have K1:Hi (Qh W (q+1) #[ZU n] 22):=O (by rw[u,z];exact(Qh.new' _ _ (by simp)).alloc _);have K2:Hi (Qh W (q+1+1) #[ZU v] 22):=O (by rw[u,z];exact Qh.new' _ _ (by simp));have Z:=O h.bd;have h:=Yq.obj.aB h K.o (Jl.none F);have H:=O h;obtain⟨p,G,I,R,hG⟩:=h.ex;have HA:=O (Qct R hl id n v);have E:=O hG;have a0:=Jf I;have HB:=O I;have k0:=Jf K0.o;have k1:=Jf K1.o;have k2:=Jf K2.o;generalize Vf id n v l=J at HA|-;have HC:Hi (ZW 211 #[ptr p,ptr q,ptr (q+1),ptr (q+1+1)] W (.bool true) λw'=>Jg w' (Qn G W w') p J/\Qc G W w'):=O (by
  clear h I R a0 u z;apply WH func211;go_wp2_with fail;apply ZQ HA;intro w1 B;exact WD B)
 have HK:Hi (ZW 208 #[ptr b,.func (.func 211) #[] #[ptr q,ptr (q+1),ptr (q+1+1)],.bool false] W (.bool true) λw'=>Jg w' (Qn G W w') p J/\Qc G W w'):=O (by
  clear h I R u z;apply WH func208;go_wp2_with fail;apply ZQ HC;intro w1 B;exact WD B)
 have V:Hi (∀w',Jg w' (Qn G W w') p J->Qc G W w'->Yq w' (Qn F w w') b J/\Qc F w w'):=O (by
  intro w' d c;have hp:=H.o.made (x':=J) E.o Jg.obj c d (Zg _ _) (c.blk HB.o (λh=>(E.o _ h).2 rfl));exact⟨Yq.obj.more hp.1 (λk U=>U.elim .inl (λU=>.inr ⟨Zp K.o.size U.1,U.2⟩)) (Z.o.ext (K.o.none.aA hp.2)),K.o.none.aA hp.2⟩)
 clear h I R a0 k0 k1 k2;apply WH func153;go_wp2_with fail;rw[<-z,<-u];apply ZF HK (λ_ ⟨d,c⟩=>V.o _ d c);intro w1 B;clear u z;exact WD B
theorem Qka{w}{F:Fp}{b:Nat}{l:List Xu}(h:Yq w F b l)(k:Nat):
  ZW 53 #[ptr b,ZU k] w (.tuple #[ZI ((Jt k l).getD (0,0)).2,.bool (Jt k l).isSome]) λw'=>Qc Qb w w':=by
 obtain⟨p,G,hB,hA,hG⟩:=h.ex;have HA:=O (λw'(U:Qc Qb w w')=>Qge (Jg.obj.aB hA U (Jl.none G)) k);obtain⟨d,aa⟩:=Zx (((Jt k l).getD (0,0)).2);obtain⟨u,ab⟩:=Zx ((Jt k l).isSome);rw[<-aa,<-ab]at HA|-;have HB:=O hB;clear aa ab h hB hA;have HC:Hi (∀W q,Qc Qb w W->Qh W q #[ZU k] 22->ZW 92 #[ptr p,ptr q] W (.agg #[ZI d,.bool u]) λw'=>Qc Qb W w'):=O (by
  intro W q U R;obtain⟨s,B⟩:=Zx (W.heap.size);obtain⟨z,c⟩:=Zx (W.alloc (.cells #[ZI 0,.bool false] 160));have I:Hi (Qc Qb W z):=O (by rw[c];exact(Zg _ _).alloc _);have Z:Hi (Qh z s #[ZI 0,.bool false] 160):=O (by rw[c,B];exact Qh.new _ _ _);have HL:=O (HA.o z (U.aA I.o));have HS:=O B;have q0:=Jf (show Qh (W.alloc (.cells #[ZI 0,.bool false] 160)) q _ _ from c▸I.o.blk R (λh=>h));clear U R;apply WH func92;go_wp2_with fail;rw[<-c,<-B];apply Zy HL;intro w1 J;have V:=O (J.blk Z.o (λh=>h));have s0:=Q4 V.o;have f1:=V.o.frozen;have E:Hi (Qc Qb W ((((w1.setCell ⟨s,0,none⟩ (ZI d)).setCell ⟨s,1,none⟩ (.bool u)).setCell ⟨s,0,none⟩ (ZI d)).setCell ⟨s,1,none⟩ (.bool u))):=O (by
   have c2:=I.o.aA J;have af:=HS.o;exact(((c2.setCell (a:=⟨s,0,none⟩) _ (.inr (by show W.heap.size<=s;omega))).setCell (a:=⟨s,1,none⟩) _ (.inr (by show W.heap.size<=s;omega))).setCell (a:=⟨s,0,none⟩) _ (.inr (by show W.heap.size<=s;omega))).setCell (a:=⟨s,1,none⟩) _ (.inr (by show W.heap.size<=s;omega)))
  have S9:Hi (Qh ((((w1.setCell ⟨s,0,none⟩ (ZI d)).setCell ⟨s,1,none⟩ (.bool u)).setCell ⟨s,0,none⟩ (ZI d)).setCell ⟨s,1,none⟩ (.bool u)) s #[ZI d,.bool u] 160):=O ((((V.o.set' 0 _ rfl).set' 1 _ rfl).set' 0 _ rfl).set' 1 _ rfl);clear c B q0 J;go_wp2;generalize((((w1.setCell ⟨s,0,none⟩ (ZI d)).setCell ⟨s,1,none⟩ (.bool u)).setCell ⟨s,0,none⟩ (ZI d)).setCell ⟨s,1,none⟩ (.bool u))=w9 at S9 E|-;have e0:=Q4 S9.o;refine bodyPost_ret (v:=.agg #[ZI d,.bool u]) ?_ rfl ⟨rfl,?_⟩;·simp[*,results,Tryz.results92,go_sem]
  .exact E.o)
 have HK:Hi (∀W q,Qc Qb w W->Qh W q #[ZU k] 22->ZW 91 #[ptr b,.func (.func 92) #[] #[ptr q],.agg #[ZI 0,.bool false]] W (.agg #[ZI d,.bool u]) λw'=>Qc Qb W w'):=O (by
  intro W q U R;obtain⟨s,B⟩:=Zx (W.heap.size);obtain⟨z,c⟩:=Zx ((W.alloc (.cells #[ZI 0,.bool false] 160)).alloc (.cells #[ZI 0,.bool false] 160));have I:Hi (Qc Qb W z):=O (by rw[c];exact((Zg _ _).alloc _).alloc _);have Z:Hi (Qh z (s+1) #[ZI 0,.bool false] 160):=O (by rw[c,B];exact Qh.new' _ _ (by simp));have HL:=O (HC.o z q (U.aA I.o) (I.o.blk R (λh=>h)));have HS:=O B;have b0:=Jf (show Qh ((W.alloc (.cells #[ZI 0,.bool false] 160)).alloc (.cells #[ZI 0,.bool false] 160)) b _ _ from c▸(U.aA I.o).blk HB.o (λh=>h));clear U R;apply WH func91;go_wp2_with fail;rw[<-c,<-B];apply Zy HL;intro w1 J;have V:=O (J.blk Z.o (λh=>h));have s0:=Q4 V.o;have f1:=V.o.frozen;have E:Hi (Qc Qb W ((w1.setCell ⟨s+1,0,none⟩ (ZI d)).setCell ⟨s+1,1,none⟩ (.bool u))):=O (by
   have c2:=I.o.aA J;have af:=HS.o;exact(c2.setCell (a:=⟨s+1,0,none⟩) _ (.inr (by show W.heap.size<=s+1;omega))).setCell (a:=⟨s+1,1,none⟩) _ (.inr (by show W.heap.size<=s+1;omega)))
  have S9:Hi (Qh ((w1.setCell ⟨s+1,0,none⟩ (ZI d)).setCell ⟨s+1,1,none⟩ (.bool u)) (s+1) #[ZI d,.bool u] 160):=O ((V.o.set' 0 _ rfl).set' 1 _ rfl);clear c B b0 J;go_wp2;generalize((w1.setCell ⟨s+1,0,none⟩ (ZI d)).setCell ⟨s+1,1,none⟩ (.bool u))=w9 at S9 E|-;have e0:=Q4 S9.o;refine bodyPost_ret (v:=.agg #[ZI d,.bool u]) ?_ rfl ⟨rfl,?_⟩;·simp[*,results,Tryz.results91,go_sem]
  .exact E.o)
 obtain⟨q,R⟩:=Zx (w.heap.size);obtain⟨W,hW⟩:=Zx (w.alloc (.cells #[ZU k] 22));have C0:Hi (Qc Qb w W):=O (by rw[hW];exact(Zg _ _).alloc _);have K0:Hi (Qh W q #[ZU k] 22):=O (by rw[hW,R];exact Qh.new _ _ _);have ae:=O (HK.o W q C0.o K0.o);apply WH func53;go_wp2_with fail;rw[<-R,<-hW];clear R hW;apply Zy ae;intro w1 J;have I:=O (C0.o.aA J);obtain⟨s,B⟩:=Zx (w1.heap.size);obtain⟨z,c⟩:=Zx (w1.alloc (.cells #[ZI d,.bool u] 160));have C2:Hi (Qc Qb w z):=O (by rw[c];exact I.o.alloc _);have Z:Hi (Qh z s #[ZI d,.bool u] 160):=O (by rw[c,B];exact Qh.new _ _ _);have E1:=λx=>Q4 (Qk (S:=Qb) Z.o (λh=>h) x);clear J;go_wp2_with fail;rw[<-B,<-c];clear B c;refine ZE [] [0,1,2,3] [4,5] [] (Qb) z ?_;simp only[pick,Zf,Ze,Zd];refine Qg ?_;iterate 4 (refine Ql (λK hK=>?_);go_simp;refine hK _ ?_;clear hK K)
 refine Qg ?_;intro _ ag;obtain⟨xo,ac⟩:=ag;subst ac;simp only[Jd];have c3:=O (Qv Qb z xo);generalize Qz Qb z xo=w3 at c3|-;clear E1;go_wp2;refine⟨Qd c3.o,?_⟩;go_wp2;refine⟨Qd c3.o,?_⟩;go_wp2;go_ret2;exact⟨rfl,C2.o.aA c3.o⟩
section
open Go.Shelf
attribute [local go_sem] Oper.semAt_some
theorem Qqi(n l' V b:Nat)(T:Fp)(J K:List Xu->World->Prop)(W){t:Tr}{p:Value}{k:Int}(hB:Qh W V #[ptr b] 201)(U:Qh W b #[Dd,Vv,t.aH,ZI k] 269)(hA:Jw W t)(u:∀a∈t.aC,T a)
  (hJ:∀c W,J c W->J c W.drew)
  (hY:∀m c x R,J c R->c.length<t.flat.length->YieldAt Fence.wide m prog l' (Qof x) R λe d=>(e=.returned (.bool true)/\J (c++[x]) d/\Le T R d)\/(e=.returned (.bool false)/\K (c++[x]) d))(h0:J [] W):
  CallsIn Fence.wide n prog 233 #[.func (.yield l') #[] #[],ZP V] W λe d=>(∃v,e=.returned v)/\((∃B,B=t.flat/\J B d)\/(∃c,c<+:t.flat/\K c d)):=by
 have Z:=O (λn=>Wf (n:=n) hJ hY t);have c0:=Jf hB;obtain⟨c1,c2,c3,c4⟩:=X9 U;have I:=O (Zt hA (Zt u h0));have HN:=O (λW(h:Qgc W b)=>Od h);have q:Hi (Qgc W b):=O ⟨_,_,U⟩;obtain⟨pv,z⟩:=Zx (t.aH);rw[<-z]at c3 Z;clear z hB U hA u hJ hY h0;refine callsIn_of_wp func233 rfl trivial ?_ rfl;simp only[ntmps233,List.size_toArray,Zm,List.length_nil,Nat.reduceAdd,Nat.reduceSub,Array.replicate_succ,Array.replicate_zero,List.push_toArray,List.append_toArray,List.nil_append,List.cons_append];gi_wp2;refine⟨trivial,(λh=>by cases h),?_⟩;refine(callsIn_wide.2 (HN.o _ q.o)).mono ?_;rintro e w1⟨rfl,rfl⟩;gi_wp2;refine⟨trivial,(λh=>by cases h),?_⟩;refine(Z.o _ [] W I.o.1 I.o.2.1 I.o.2.2 (by simp)).mono ?_;rintro e w2⟨b2,rfl,k1,k2⟩;have E:Hi ((∃B,B=t.flat/\J B w2)\/(∃c,c<+:t.flat/\K c w2)):=O (by
  cases b2 with
  |true=>exact .inl ⟨_,rfl,by simpa using(k1 rfl).1⟩
  |false=>
   obtain⟨p,hp,hx⟩:=k2 rfl;exact .inr ⟨p,hp,by simpa using hx⟩)
 clear k1 k2;gi_wp2;refine WB rfl rfl ?_;exact⟨⟨_,rfl⟩,E.o⟩
theorem Qjc(n q b:Nat)(T:Fp)(w){t:Tr}{p:Value}{k:Int}(U:Qh w q #[ptr b] 201)(Z:Qh w b #[Dd,Vv,t.aH,ZI k] 269)(R:Jw w t)(u:∀a∈t.aC,T a):
  SeqStopsK Fence.wide n prog 233 #[ZP q] Qof (Le T) (λys=>ys=t.flat) (λc=>c<+:t.flat) t.flat.length w:=λl' J B W z V _ hY E=>
 Qqi (p:=p) n l' q b T J B W ((Qc.ofBelow (S:=Qb) z).blk U (λh=>h)) ((Qc.ofBelow (S:=Qb) z).blk Z (λh=>h)) (Jw.aB (Qc.ofBelow (S:=Qb) z) t R (λ_ _ h=>h)) u
  (λc d h=>V c d d.drew none h ⟨rfl,rfl,rfl,Zv _,λ_ _ _=>rfl⟩ (λr e=>by cases e)) (λm c x d I K=>Qf6 (hY c x d I K)) E
theorem Qqj(b:Nat)(w):ZW 188 #[ptr b] w (.func (.func 233) #[] #[ZP w.heap.size]) λw'=>w'=w.alloc (.cells #[ptr b] 201):=by unfold ptr;apply WH func188;exact WE
def Qrf(l:List Xu):Nat:=(l.head?.map (·.1)).getD 0
def Wl(l:List Xu):Int:=(l.head?.map (·.2.1)).getD 0
theorem Qis{w}{F:Fp}{b:Nat}{l:List Xu}(h:Vz w F b l):
  ZW 131 #[ptr b] w (.tuple #[Yo (Qrf l) (Wl l),.bool (!l.isEmpty)]) λw'=>Qc Qb w w':=by
 obtain⟨t,hR⟩:=h;have HU:=O (Qqj b);refine callsIn_wide (n:=9).1 ?_;unfold ptr at HU|-;refine callsIn_of_wp_marks func131 rfl trivial ?_;simp only[ntmps131,List.size_toArray,Zm,List.length_nil,Nat.reduceAdd,Nat.reduceSub,Array.replicate_succ,Array.replicate_zero,List.push_toArray,List.append_toArray,List.nil_append,List.cons_append];gi_wp2_with (refine⟨trivial,?_⟩;gi_at_call 188;refine(callsIn_wide.2 (HU.o _)).mono ?_;rintro e w1⟨rfl,rfl⟩);obtain⟨s,V⟩:=Zx (w.heap.size);obtain⟨z,B⟩:=Zx ((((w.alloc (.cells #[ZU 0,ZI 0] 199)).alloc (.cells #[.bool false] 4)).alloc (.cells #[ZP b] 201)));have C0:Hi (Qc Qb w z):=O (by rw[B];exact(((Zg _ _).alloc _).alloc _).alloc _);have ah:z.heap.size=s+3:=by rw[B,V];simp
 have B2:Hi (Qh z s #[ZU 0,ZI 0] 199):=O (by rw[B,V];exact((Qh.new' _ _ (by simp)).alloc _).alloc _);have B3:Hi (Qh z (s+1) #[.bool false] 4):=O (by rw[B,V];exact(Qh.new' _ _ (by simp)).alloc _);have B4:Hi (Qh z (s+1+1) #[ptr b] 201):=O (by rw[B,V];exact Qh.new' _ _ (by simp));have ac:Hi (Qh z b #[Dd,Vv,t.aH,ZI l.length] 269):=O (C0.o.blk hR.top (λh=>h));have ab:Hi (Jw z t):=O (Jw.aB C0.o t hR.sub.at' (λ_ _ h=>h));have Xg:∀a∈t.aC,a<s:=λa ha=>by rw[V];exact Jw.lt t hR.sub.at' a ha
 have HF:=O hR.flat;rw[<-V,<-B];have Z:=O V;clear B V hR;refine wpIn_rangeFunc_ownH rfl (by decide) (gf:=233) (lb:=#[ZP (s+1+1)]) rfl trivial (enters_of func233 (by kernel_rfl) rfl)
  (Qjc (p:=.pointer none) 8 (s+1+1) b (λk=>k∈t.aC) z B4.o ac.o ab.o (λa h=>h))
  (λh k=>h.trans k) (λW l o o' h1 h2 h3 h4=>Le.put (w:=z) W l o o' h1 h2 h3 h4) (Below.refl _ _) (λ_=>rfl)
  (λE W=>(E=[]/\Qh W s #[ZU 0,ZI 0] 199/\Qh W (s+1) #[.bool false] 4)/\Qc Qb z W)
  (λc E W=>(c=.ret/\(∃x,E=[x]/\Qh W s #[ZU x.1,ZI x.2.1] 199)/\Qh W (s+1) #[.bool true] 4)/\Qc (λk=>k=s\/k=s+1) z W)
  ?o1 ?o2 ⟨⟨rfl,B2.o,B3.o⟩,Zg _ _⟩
  (λx a' W=>∃Bx,s+3<=Bx/\Qh W Bx #[ZU x.1,ZI x.2.1] 199/\a'={tmps:=#[ZP b,undef,ZP s,ZP (s+1),ZP Bx,ZP b,.func (.func 233) #[] #[ZP (s+1+1)],Yo x.1 x.2.1,ZU x.2.2,undef,undef],defers:=[]})
  ?o3 ?assign ?body ?done ?stop
 case assign=> rintro l' E x W K hI hK;obtain⟨xn,xi,xv⟩:=x;dsimp only[Qof,Yo];gi_wp2;have cc:Qc Qb W (W.alloc (.cells #[ZU xn,ZI xi] 199)):=(Zg _ _).alloc _;exact hK _ _ (Vg cc (λk h=>h.elim)) (Le.chg cc (λ_ _ h=>h)) ⟨⟨hI.1.1,cc.blk hI.1.2.1 (λh=>h),cc.blk hI.1.2.2 (λh=>h)⟩,hI.2.aA cc⟩ ⟨W.heap.size,by have:=hI.2.size;omega,Qh.new W _ _,rfl⟩
 case body=>
  rintro l' E⟨xn,xi,xv⟩a' W hl ag⟨⟨rfl,I,J⟩,q⟩⟨Bx,af,bX,rfl⟩ae;obtain⟨x0,x1⟩:=Q4 bX;obtain⟨y0,y1⟩:=Q4 I;have y2:=Jf J;have z0:=I.frozen;have z1:=J.frozen 0;dsimp only[Yo]at*;have HW:Hi (∀w',w'=((W.setCell ⟨s,0,none⟩ (ZU xn)).setCell ⟨s,1,none⟩ (ZI xi)).setCell ⟨s+1,0,none⟩ (.bool true)->KeepsFrom z.heap.size W w'/\Qh w' s #[ZU xn,ZI xi] 199/\Qh w' (s+1) #[.bool true] 4/\Qc (λk=>k=s\/k=s+1) z w'):=O (by
   rintro w' rfl;have c1:Qc (λk=>k=s\/k=s+1) W (((W.setCell ⟨s,0,none⟩ (ZU xn)).setCell ⟨s,1,none⟩ (ZI xi)).setCell ⟨s+1,0,none⟩ (.bool true)):=(((Zg _ _).setCell _ (.inl (.inl rfl))).setCell _ (.inl (.inl rfl))).setCell _ (.inl (.inr rfl));refine⟨Vg c1 (λk hk=>by rcases hk with h|h<;>omega),((I.set' 0 _ rfl).set' 1 _ rfl).other _ (by show s+1≠s;omega),?_,(q.none).aA c1⟩;exact((J.other (a:=⟨s,0,none⟩) _ (by show s≠s+1;omega)).other (a:=⟨s,1,none⟩) _ (by show s≠s+1;omega)).set' 0 _ rfl)
  clear I J bX q;gi_wp2;obtain⟨k1,k2,k3,k4⟩:=HW.o _ rfl;exact⟨k1,⟨rfl,⟨_,rfl,k2⟩,k3⟩,k4⟩
 case o1=>exact OwnFrom.and (OwnFrom.and (ownFrom_pure _ _) (OwnFrom.and (Yx _ _ (λ_=>_) _) (Yx _ _ (λ_=>_) _))) (Dr (Zv _))
 case o2=> intro c E W W' U h hg hr;obtain⟨⟨e,⟨x,e2,I⟩,J⟩,hc⟩:=h;exact⟨⟨e,⟨x,e2,Yx z.heap.size s (λ(_:Unit)=>#[ZU x.1,ZI x.2.1]) _ () W W' U I hg hr⟩,Yx z.heap.size (s+1) (λ(_:Unit)=>#[.bool true]) _ () W W' U J hg hr⟩,Dr (β:=Unit) (Zv _) () W W' U hc hg hr⟩
 case o3=>exact λx a' _ X Y U V hg hr=>by obtain⟨Bx,e1,e2,e3⟩:=V;exact⟨Bx,e1,Yx z.heap.size Bx (λ(_:Unit)=>#[ZU x.1,ZI x.2.1]) _ () X Y U e2 hg hr,e3⟩
 case done=>
  rintro D ys W hD hp⟨⟨rfl,I,J⟩,q⟩hK;have hl:l=[]:=by rw[<-HF.o];exact hp.symm
  subst hl;obtain⟨y0,y1⟩:=Q4 I;have y2:=Jf J;have z0:=I.frozen;have z1:=J.frozen 0;obtain⟨W2,R⟩:=Zx (((W.setCell ⟨s,0,none⟩ (ZU 0)).setCell ⟨s,1,none⟩ (ZI 0)).setCell ⟨s+1,0,none⟩ (.bool false));have c1:Qc (λk=>k=s\/k=s+1) W W2:=by rw[R];exact(((Zg _ _).setCell _ (.inl (.inl rfl))).setCell _ (.inl (.inl rfl))).setCell _ (.inl (.inr rfl))
  have q2:Qh W2 s #[ZU 0,ZI 0] 199:=by rw[R];exact((I.set' 0 _ rfl).set' 1 _ rfl).other _ (by show s+1≠s;omega)
  have q3:Qh W2 (s+1) #[.bool false] 4:=by rw[R];exact((J.other (a:=⟨s,0,none⟩) _ (by show s≠s+1;omega)).other (a:=⟨s,1,none⟩) _ (by show s≠s+1;omega)).set' 0 _ rfl
  have d:=O (c1.heap hK (λh=>by rcases h with h|h<;>omega));have CC:Hi (Qc Qb w W2):=O (C0.o.trans (q.none.aA c1) (λk hk=>.inr (by rw[<-Z.o];rcases hk with h|h<;>omega)));have Q2:=O q2;have Q3:=O q3;have aa:w.heap.size<=D:=by have:=Z.o;omega
  clear I J q c1 q2 q3 hK hp;gi_wp2;rw[<-R];clear R;refine⟨by simp,.inl ⟨_,_,rfl,run_takeDeferred d.o,?_⟩⟩;have r2:=Uc Q2.o d.o;have r3:=Uc Q3.o d.o;obtain⟨e0,e1⟩:=Q4 r2;have e2:=Jf r3;refine⟨.tuple #[Yo 0 0,.bool false],?_,rfl,Ud CC.o aa (Z2.1 d.o).1⟩;clear r2 r3;simp[results,Tryz.results131,go_sem,e0,e1,e2,Yo]
 case stop=>
  rintro D c' E W hD u⟨⟨rfl,⟨x,rfl,I⟩,J⟩,q⟩hK;obtain⟨xn,xi,xv⟩:=x;obtain⟨l2,hl⟩:∃l2,l=(xn,xi,xv)::l2:=by
   rw[<-HF.o];cases ht:t.flat with
   |nil=>rw[ht]at u;simp at u
   |cons y l2=> rw[ht]at u;obtain⟨rfl,_⟩:=List.cons_prefix_cons.1 u;exact⟨l2,rfl⟩
  subst hl;have CC:Hi (Qc Qb w W):=O (C0.o.trans q (λk hk=>.inr (by rw[<-Z.o];rcases hk with h|h<;>omega)));have aa:w.heap.size<=D:=by have:=Z.o;omega
  have Q2:=O I;have Q3:=O J;have d:=O hK;clear I J q hK u;gi_wp2;refine⟨by simp,.inl ⟨_,_,rfl,run_takeDeferred d.o,?_⟩⟩;have r2:=Uc Q2.o d.o;have r3:=Uc Q3.o d.o;obtain⟨e0,e1⟩:=Q4 r2;have e2:=Jf r3;refine⟨.tuple #[Yo xn xi,.bool true],?_,rfl,Ud CC.o aa (Z2.1 d.o).1⟩;clear r2 r3;simp[results,Tryz.results131,go_sem,e0,e1,e2,Yo]
end
end Go.Proofs.YtigcnnkagkbflaaGreat
