/- A part of the proof: no condition. -/
import Derived.Test.YtigcnnkagkbflaaGreatYq22
import Derived.Deep.MidRow
import Derived.Defers
import Derived.Sort.LoopGhostIn
namespace Go.Proofs.YtigcnnkagkbflaaGreat
set_option linter.unusedVariables false
set_option maxRecDepth 100000
set_option maxHeartbeats 4000000
open Go.RowKit
open Go.Proofs.Tryz
attribute [local go_sem] Qp
attribute [local irreducible] Kl J9 Xo
theorem Q0l(x:P5):(Qz2 x).length=3:=rfl
theorem Qy0.of{w}{rb:Nat}{l:List P5}{cs:Array Value}{t:TypeId}(h:Qh w rb cs t)(k:cs=(Jm Qz2 l).toArray):Qy0 w rb l:=by
 subst k;refine⟨h.lt,λi x d=>?_⟩;obtain⟨q,d⟩:=Z1.1 d;have c:=λj(u:j<3)=>Eb (cells:=Qz2) (sz:=3) Q0l l i j q u;rw[d]at c;refine⟨h.at _ ?_,h.at _ ?_,h.at _ ?_⟩;·have:=c 0 (by decide);simpa[Qz2]using this
 .have:=c 1 (by decide);simpa[Qz2]using this
 .have:=c 2 (by decide);simpa[Qz2]using this
section
variable{w W:World}{F:Fp}{b rb:Nat}{bk:V1}{p:Jr}
theorem Qzg(h:Qau w F b bk)(R:BOk bk)(d:Qc Qb w W)(c:Int)(l:List P5){cs:Array Value}(B:Qh W rb cs 181)(k:cs=(Jm Qz2 l).toArray)(U:w.heap.size<=rb)(I:∀x∈l,x.k<8/\x.n<18446744073709551616)(J:l.length<=8)(n:Int)(K:n=l.length)(cap:Nat):
  ZW 110 #[ZP b,ZI c,.slice (some ⟨rb,0,none⟩) l.length cap] W (.tuple #[]) λw'=>Qau w' (Qn F w w') b (bk.tell c l)/\Qc F w w':=by
 have u:=Qau.obj.bd h;apply Zz (Q07 (Qau.obj.aB h d (Jl.none F)) R c l rb cap (Qy0.of B k) (λE=>by have:=u _ E;omega) I J);rintro w'⟨h',z⟩;have q:Qc F w w':=d.none.aA z;exact⟨rfl,Qau.obj.more h' (Ke d.size) (u.ext q),q⟩
theorem Qzp{n:Int}(h:1<=n/\n<=65535):(Qx0 n:Int)=n/\Qx0 n<65536:=by unfold Qx0;omega
theorem Qy3(p:Jr)(c:Ll p)(w):ZW 115 #[.agg (ZL p)] w (ZU (Qx0 p.len:Int)) λw'=>Qc Qb w w':=by
 have K:=λ(E:Array TypeId)t k a b(w)=>Yd (P:=prog) E t k a b w;have q:=Qzp c;have B:IntKind.u64.wrap (max p.len 0)=(Qx0 p.len:Int):=by have I:=c;rw[IntWalk.u64_in _ (by omega)];omega
 have d:=O ((Zg Qb w).alloc (.cells (ZL p) 31));have z:Qh (w.alloc (.cells (ZL p) 31)) w.heap.size (ZL p) 31:=Qh.new _ _ _;have z0:=X9 z;generalize Qx0 p.len=n at B|-;clear z q;apply WH func115;exact WD d
theorem Qz3(h:Qau w F b bk)(u:BOk bk)(d:Int):ZW 61 #[ptr b,ZI d] w (.tuple #[]) λw'=>Qau w' (Qn F w w') b (bk.tell d Qwx)/\Qc F w w':=by
 have z:=O (λW(c:Qc Qb w W)B=>Qzg (W:=W) (rb:=w.heap.size) (cs:=#[.func (.func (M3 1)) #[] #[],ZU 1,.bool false]) h u c d Qwx B rfl (Zv _) (λx E=>by
  obtain rfl:=List.mem_singleton.1 E;exact⟨by decide,by decide⟩) (by decide) 1 rfl 1)
 clear h u;apply WH func61;go_wp2_with fail;apply ZD (z.o _ ((Zg _ _).alloc _) (Qh.new _ _ _));intro w2 K;exact WD K
theorem Q2t{s:X7}(h:St8 s)(k:Nat):s.getD k 0<18446744073709551616:=by
 have c:=Yz;rw[List.getD_eq_getElem?_getD];cases d:s[k]? with
 |none=>exact(by decide:(0:Nat)<18446744073709551616)
 |some y=> have:=h.2 y (List.mem_of_getElem? d);show y<_;omega
theorem Q04(h:Qau w F b bk)(Z:BOk bk)(p:Jr)(U:Ll p):ZW 62 #[ptr b,.agg (ZL p)] w (.tuple #[]) λw'=>Qau w' (Qn F w w') b (bk.tell p.cls (Qx4 p))/\Qc F w w':=by
 have k:=(Qzp U).2;obtain⟨n,z⟩:=Zx (Qx0 p.len);have HT:Hi (∀W rb,Qc Qb w W->w.heap.size<=rb->Qh W rb #[.func (.func (M3 0)) #[] #[],ZU 1,.bool false,.func (.func (M3 6)) #[] #[],ZU 1,.bool false,.func (.func (M3 7)) #[] #[],ZU n,.bool false] 181->
   ZW 110 #[ZP b,ZI p.cls,.slice (some ⟨rb,0,none⟩) 3 3] W (.tuple #[]) λw'=>Qau w' (Qn F w w') b (bk.tell p.cls (Qx4 p))/\Qc F w w'):=O (λW rb c hr hB=>Qzg h Z c p.cls (Qx4 p) hB (by rw[z];rfl) hr (λx V=>by
  simp only[Qx4,Zu,List.not_mem_nil,or_false]at V;rcases V with rfl|rfl|rfl<;>exact⟨by dsimp only;omega,by dsimp only;omega⟩) (show 3<=8 by decide) 3 rfl 3)
 have d:=O (λW=>Qy3 p U W);rw[<-z]at d;obtain⟨W,u⟩:=Zx (w.alloc (.cells (ZL p) 31));have B:Hi (Qc Qb w W):=O (by rw[u];exact(Zg _ _).alloc _);have E:Hi (Qh W w.heap.size (ZL p) 31):=O (by rw[u];exact Qh.new _ _ _);clear h Z k z;apply WH func62;go_wp2_with fail;rw[<-u];clear u;have g0:=X9 (E.o.drew);apply XC 3202011111 Qb W;iterate 2 (refine Qy (h:=?_);try simp only[Act.put,Za,Zc,Zb])
 iterate 1 (apply YK λ_ hv=>X9 (hv.blk E.o (λh=>h)))
 apply YA 0;clear g0;go_wp2_with fail;apply Z9 (d.o _) (λ_ I=>(Zg Qb W).drew.aA I);intro w2 q;go_wp2_with fail;refine⟨q.o,?_⟩;apply YA 0;go_wp2_with fail;refine⟨q.o.alloc _,?_⟩;refine Km ?_;go_wp2_with fail;apply ZD (HT.o _ w2.heap.size (B.o.aA (q.o.alloc _)) (Zp B.o.size q.o.size) (Qh.new _ _ _));intro w4 K;go_wp2_with fail;refine Ky ?_;exact WD K
theorem Qz4(h:Qau w F b bk)(Z:BOk bk)(p:Jr)(U:Ll p):ZW 81 #[ptr b,.agg (ZL p)] w (.tuple #[]) λw'=>Qau w' (Qn F w w') b (bk.tell p.cls (Qxv p))/\Qc F w w':=by
 have k:=(Qzp U).2;obtain⟨n,z⟩:=Zx (Qx0 p.len);have HT:Hi (∀W rb,Qc Qb w W->w.heap.size<=rb->Qh W rb #[.func (.func (M3 2)) #[] #[],ZU 1,.bool false,.func (.func (M3 3)) #[] #[],ZU n,.bool false] 181->
   ZW 110 #[ZP b,ZI p.cls,.slice (some ⟨rb,0,none⟩) 2 2] W (.tuple #[]) λw'=>Qau w' (Qn F w w') b (bk.tell p.cls (Qxv p))/\Qc F w w'):=O (λW rb c hr hB=>Qzg h Z c p.cls (Qxv p) hB (by rw[z];rfl) hr (λx V=>by
  simp only[Qxv,Zu,List.not_mem_nil,or_false]at V;rcases V with rfl|rfl<;>exact⟨by dsimp only;omega,by dsimp only;omega⟩) (show 2<=8 by decide) 2 rfl 2)
 have d:=O (λW=>Qy3 p U W);rw[<-z]at d;obtain⟨W,u⟩:=Zx (w.alloc (.cells (ZL p) 31));have B:Hi (Qc Qb w W):=O (by rw[u];exact(Zg _ _).alloc _);have E:Hi (Qh W w.heap.size (ZL p) 31):=O (by rw[u];exact Qh.new _ _ _);clear h Z k z;apply WH func81;go_wp2_with fail;rw[<-u];clear u;have g0:=X9 (E.o.drew);apply XC 320201111 Qb W;iterate 2 (refine Qy (h:=?_);try simp only[Act.put,Za,Zc,Zb])
 iterate 1 (apply YK λ_ hv=>X9 (hv.blk E.o (λh=>h)))
 apply YA 0;clear g0;go_wp2_with fail;apply Z9 (d.o _) (λ_ I=>(Zg Qb W).drew.aA I);intro w2 q;go_wp2_with fail;refine⟨q.o,?_⟩;apply YA 0;go_wp2_with fail;refine⟨q.o.alloc _,?_⟩;refine Km ?_;go_wp2_with fail;apply ZD (HT.o _ w2.heap.size (B.o.aA (q.o.alloc _)) (Zp B.o.size q.o.size) (Qh.new _ _ _));intro w4 K;go_wp2_with fail;refine Ky ?_;exact WD K
end
section
open Go.Shelf
attribute [local go_sem] Q0s
theorem Q0z{w}{b:Nat}{L:List (Int×Value)}(h:Xq w b L):ZW 101 #[.map (some b)] w (.map (some w.heap.size)) λw'=>Xq w' w.heap.size L/\Qc Qb w w':=by obtain⟨q,d,u,c⟩:=h;have k:=O c;have z:=λw=>run_eql_map_nil_sl (P:=prog) w 128 _ _ (some b) underlying128;clear c;apply WH func101;go_wp2;rw[run_callFunc_extern func144 (by kernel_rfl) (by kernel_rfl) (by kernel_rfl) (e:=Extern.MapsClone.clone) (by kernel_rfl),run_maps_clone_sl w 128 u];simp only[Result.andThen];rw[Oper.upon_value];go_wp2;rw[run_typeAssert_map_sl _ 128 _ _ _ _ underlying128];simp only[Result.andThen];rw[Oper.upon_value];go_wp2;go_ret;exact⟨rfl,⟨q,d,(MapKept.heap_alloc w _).1,k.o⟩,(Zg _ _).alloc _⟩
section
variable{w W:World}{F:Fp}{b rb:Nat}{bk:V1}{p:Jr}
theorem Qau.mk'{w w':World}{m b:Nat}(q:Qh w' b #[.map (some m)] 130)(u:Xq w' m (Qv7 bk))(E:w.heap.size<=b)(I:w.heap.size<=m)(c:b≠m):Qau w' (Qn Qb w w') b bk:=by refine⟨m,?_⟩;have z:=q.lt;have d:=u.lt;exact Q7 (G:=λk=>k=b) (H:=λk=>k=m) ⟨q,rfl,λk e=>e▸z⟩ (Y6 ⟨u,rfl,λk e=>e▸d⟩ (λk e=>e▸d)) (λk e h=>c (e.symm.trans h)) (λk e=>(Qr k).2 (by omega)) (λk e=>(Qr k).2 (by omega)) (λk B=>((Qr k).1 B).2)
theorem Q1l(h:Qau w F b bk)(E:BOk bk)(i:Int):ZW 39 #[ptr b,ZI i] w (.agg (Qw0 (bk.get i))) λw'=>Qc Qb w w':=by obtain⟨m,K,hM,_⟩:=h.opn;have HN:=O (λw'(c:Qc Qb w w')=>Qza (c.blk K (λh=>h)));obtain⟨V,Z,n2,n3,n4,n5,n6,n7,R⟩:=eight (E.get i).1;obtain⟨J,d⟩:=Zx (w.alloc (.cells ZJ 46));have B:Hi (Qc Qb w J):=O (by rw[d];exact(Zg _ _).alloc _);have B0:Hi (Qh J w.heap.size ZJ 46):=O (by rw[d];exact Qh.new _ _ _);have z:=Qau.lookup (w:=J) (hM.aB B.o (λh=>h)) i;have a0:=Jf (B.o.blk K (λh=>h));obtain⟨W3,s3,q,c3⟩:=Q0 (P:=prog) (vs:=Qw0 (bk.get i)) B0.o (by rw[M0 (E.get i).1];rfl) (Qy5 _);have U:(Qw0 (bk.get i)).size=8:=M0 (E.get i).1;have C3:=O (B.o.trans c3 (λk e=>.inr (by omega)));have B3:Hi (Qh W3 w.heap.size #[ZU V,ZU Z,ZU n2,ZU n3,ZU n4,ZU n5,ZU n6,ZU n7] 46):=O (by rw[R]at q;exact q);obtain⟨sa,u⟩:=Zx (Qw0 (bk.get i));have I:=O (show sa=#[ZU V,ZU Z,ZU n2,ZU n3,ZU n4,ZU n5,ZU n6,ZU n7] by rw[u,R];rfl);rw[<-u]at z s3 U|-;clear h E K hM R q c3 u;apply WH func39;go_wp2_with fail;rw[<-d];clear d;apply Zz (HN.o _ B.o);rintro w1 rfl;go_wp2_with fail;clear s3 z a0;have g0:=Ja B3.o;rw[I.o];refine bodyPost_ret (v:=.agg #[ZU V,ZU Z,ZU n2,ZU n3,ZU n4,ZU n5,ZU n6,ZU n7]) (by rw[Lv (p:=4) (ty:=46) (by kernel_rfl)];go_simp;try rfl) rfl ⟨rfl,C3.o⟩
theorem Q1m(w):Cl 31 #[] w λe w'=>∃b,e=.returned (ptr b)/\Qau w' (Qn Qb w w') b V1.new/\Qc Qb w w':=by
 have E:=@run_makeMap prog;obtain⟨d,z,c,B⟩:=Qau.update (bk:=[]) (w:=w.alloc (.map #[] 0)) (Xq.new w) 0 Qwi;have z:(Instr.mapUpdate 128 (.map (some w.heap.size)) (ZI 0) (.agg ZJ)).run prog (w.alloc (.map #[] 0))=.ok () d:=z;have q:Qc Qb w d:=((Zg Qb w).alloc (.map #[] 0)).trans B (λk e=>.inr (by omega));have Xg:=c.lt;have u:=O (show Qau (d.alloc (.cells #[.map (some w.heap.size)] 130)) (Qn Qb w (d.alloc (.cells #[.map (some w.heap.size)] 130))) d.heap.size V1.new/\Qc Qb w (d.alloc (.cells #[.map (some w.heap.size)] 130))from
  ⟨Qau.mk' (Qh.new _ _ _) (c.aB ((Zg Qb d).alloc _) (λh=>h)) q.size (Zv _) (by omega),q.alloc _⟩)
 clear c B q Xg;unfold ptr;apply WH func31;go_wp2_with fail;clear z;exact WG u
theorem Q05(h:Qau w F b bk):Cl 58 #[ptr b] w λe w'=>∃p,e=.returned (ptr p)/\Qau w' (Qn Qb w w') p bk/\Qc Qb w w':=by
 obtain⟨m,q,u,_⟩:=h.opn;have z:=O (Q0z u);have B:=Jf q;clear h q u;apply WH func58;go_wp2_with fail;apply Zy z;rintro w2⟨c,k⟩;have Xg:=c.lt;have d:=O (show Qau (w2.alloc (.cells #[.map (some w.heap.size)] 130)) (Qn Qb w (w2.alloc (.cells #[.map (some w.heap.size)] 130))) w2.heap.size bk/\Qc Qb w (w2.alloc (.cells #[.map (some w.heap.size)] 130))from
  ⟨Qau.mk' (Qh.new _ _ _) (c.aB ((Zg Qb w2).alloc _) (λh=>h)) k.size (Zv _) (by omega),k.alloc _⟩)
 clear c k Xg B;exact WG d
end
end
section
variable{w W:World}{F:Fp}{b rb:Nat}{bk:V1}
theorem Q06(h:Qau w F b bk)(B:BOk bk)(i:Int)(hi:1<=i):ZW 68 #[ptr b,ZI i] w (.tuple #[]) λw'=>Qau w' (Qn F w w') b (bk.drop i)/\Qc F w w':=by
 have ae:=O (Qau.obj.bd h);obtain⟨m,E,hM,_⟩:=h.opn;have HN:=O (Qza E);obtain⟨n0,n1,n2,n3,n4,n5,n6,n7,U⟩:=eight (B.get i).1;obtain⟨W0,d⟩:=Zx (w.alloc (.cells ZJ 46));have C0:Hi (Qc Qb w W0):=O (by rw[d];exact(Zg _ _).alloc _);have B0:Hi (Qh W0 w.heap.size ZJ 46):=O (by rw[d];exact Qh.new _ _ _);have R:=Qau.lookup hM i;have a0:=Jf E;obtain⟨W3,s3,u,c3⟩:=Q0 (P:=prog) (vs:=Qw0 (bk.get i)) B0.o (by rw[M0 (B.get i).1];rfl) (Qy5 _);have ac:(Qw0 (bk.get i)).size=8:=M0 (B.get i).1;have C3:=O (C0.o.trans c3 (λk e=>.inr (by omega)));have B3:Hi (Qh W3 w.heap.size #[ZU n0,ZU n1,ZU n2,ZU n3,ZU n4,ZU n5,ZU n6,ZU n7] 46):=O (by rw[U]at u;exact u);have ah:=O (C3.o.blk E (λh=>h));have aa:n6<18446744073709551616:=by have:=Q2t (B.get i) 6;rw[U]at this;exact this
 have ab:n7<18446744073709551616:=by have:=Q2t (B.get i) 7;rw[U]at this;exact this
 have HT:Hi (∀W rb,Qc Qb w W->w.heap.size<=rb->Qh W rb #[.func (.func (M3 6)) #[] #[],ZU n6,.bool true,.func (.func (M3 7)) #[] #[],ZU n7,.bool true] 181->
   ZW 110 #[ZP b,ZI 0,.slice (some ⟨rb,0,none⟩) 2 2] W (.tuple #[]) λw'=>Qau w' (Qn F w w') b (bk.tell 0 (Qx5 (bk.get i)))/\Qc F w w'):=O (λW rb c ag E=>by
  have:=Qzg h B c 0 [⟨6,n6,true⟩,⟨7,n7,true⟩] E rfl ag (λx hx=>by
   simp only[Zu,List.not_mem_nil,or_false]at hx;rcases hx with rfl|rfl;·exact⟨by dsimp only;omega,aa⟩
   .exact⟨by dsimp only;omega,ab⟩) (show 2<=8 by decide) 2 rfl 2
  rw[show Qx5 (bk.get i)=[⟨6,n6,true⟩,⟨7,n7,true⟩] by rw[U];rfl];exact this)
 have HD:=O (show bk.drop i=(bk.tell 0 (Qx5 (bk.get i))).filter λy=>!decide (y.1=i) by unfold V1.drop;rw[if_neg (by omega)]);have ai:decide (i<1)=false:=by simp;omega
 obtain⟨sa,Z⟩:=Zx (Qw0 (bk.get i));rw[<-Z]at R s3 ac;rw[d]at s3;have g0:=Ja B3.o;clear h B E hM U u c3 Z aa ab hi d;apply WH func68;go_wp2_with fail;apply Zy HN;rintro w1 rfl;go_wp2_with fail;clear s3 R a0 ac g0;apply Zz (HT.o _ W3.heap.size (C3.o.alloc _) C3.o.size (Qh.new _ _ _));rintro w4⟨h4,c4⟩;obtain⟨m4,I,J,f4,g4,V,af,q⟩:=h4.opn;obtain⟨w5,h5,z,c5⟩:=Di (P:=prog) J underlying128 underlying3 3 0 i;rw[Qxg,<-HD.o]at z;obtain⟨p1,p2⟩:=q w5 _ c5 z;obtain⟨q1,q2⟩:=Qau.obj.two p1 ae.o c4 p2;have K:=O (Zt q1 q2);have a0:=Jf I;clear h4 c4 I J f4 g4 V af q z c5 p1 p2 q1 q2;go_wp2_with fail;clear h5 a0;exact WD K
end
section
variable{A:EAd}{w:World}{F:Fp}{b:Nat}{e:Vi}
theorem Qyu(h:Qh w b (Qyg A e) 87):ZW 32 #[ptr b] w (.bool false) λw'=>w=w':=by have c:=Av h;clear h;apply WH func32;exact WE
theorem Qzt(h:Qh w b (Qyg A e) 87):ZW 13 #[ptr b] w (ZU e.now) λw'=>w=w':=by have c:=O (Qyu h);have d:=Av h;clear h;apply WH func13;go_wp2_with fail;apply Zo c;rintro r w1⟨rfl,rfl⟩;exact WE
theorem Qy1(h:Qh w b (Qyg A e) 87):ZW 10 #[ptr b] w (.bool e.stopped) λw'=>Qc Qb w w':=by
 have q:=O (λw'(c:Qc Qb w w')=>Qyu (c.blk h (λh=>h)));have k:=O (Zg Qb w).drew;have z:=Av ((Zg Qb w).drew.blk h (λh=>h));have u:decide ((e.hor:Int)<=(e.now:Int))=e.stopped:=by unfold Vi.stopped;simp
 have d:decide (e.hor<=e.now)=e.stopped:=rfl;generalize e.stopped=Z at u d|-;clear h;apply WH func10;go_wp2_with fail;apply XB 2000000000000020;apply YA 0;go_wp2_with fail;refine(q.o _ k.o).mono ?_;rintro r w1⟨rfl,rfl⟩;go_wp2_with fail;apply YI 0;exact WD k
theorem Qyv(h:Qh w b (Qyg A e) 87):ZW 36 #[ptr b] w (ZI (if e.stopped then 261 else 0)) λw'=>Qc Qb w w':=by
 have u:=O (Qyu h);have c:=O (Qy1 h);clear h;cases k:e.stopped;all_goals
  rw[k]at c;clear k;go_enter func36,ntmps36;go_wp2_with fail;refine Zo u ?_;rintro r w1⟨rfl,rfl⟩;go_wp2_with fail;refine Zo c ?_;rintro r w2⟨rfl,d⟩;have q:=O d;clear d;go_wp2;go_ret;exact⟨rfl,q.o⟩
end
section
variable{A:EAd}{w:World}{F:Fp}{b:Nat}{e:Vi}{v:Value}{x:D7}{cs:Array Value}
theorem Qxw.one(h:Qxw w v [x]):∃g cap,v=.slice (some ⟨g,0,none⟩) 1 cap/\v.ownBlock=some g/\∃cs,Qh w g cs 51/\∀(j:Nat)(u:Value),(Qxe x)[j]? =some u->cs[j]? =some u:=by
 obtain⟨_,h⟩:=h;rcases h with⟨rfl,B⟩|⟨g,cap,d,rfl,I,z,K,k,E,c⟩;·cases B
 .refine⟨g,cap,rfl,rfl,d,z,λj u q=>?_⟩;have J:j<8:=(Z1.1 q).1;have e:(d.toList.take (1*8))[j]? =(Qxe x)[j]? :=by rw[show(1:Nat)=[x].length from rfl];rw[c];simp[Jm]
  rw[List.getElem?_take_of_lt (by omega),q]at e;simpa using e
theorem Q2u(h:Qh w b cs 51)(c:∀(j:Nat)(u:Value),(Qxe x)[j]? =some u->cs[j]? =some u):
  w.cell? ⟨b,0,none⟩=some (ZU x.p.id)/\w.cell? ⟨b,1,none⟩=some (ZI x.p.cls)/\w.cell? ⟨b,2,none⟩=some (ZI x.p.len)/\w.cell? ⟨b,3,none⟩=some (ZU x.p.at_)/\
  w.cell? ⟨b,4,none⟩=some (.int .u8 x.rule)/\w.cell? ⟨b,5,none⟩=some (ZU x.frm)/\w.cell? ⟨b,6,none⟩=some (ZU x.til)/\w.cell? ⟨b,7,none⟩=some (ZU x.due):=
 ⟨h.at 0 (c 0 _ rfl),h.at 1 (c 1 _ rfl),h.at 2 (c 2 _ rfl),h.at 3 (c 3 _ rfl),h.at 4 (c 4 _ rfl),h.at 5 (c 5 _ rfl),h.at 6 (c 6 _ rfl),h.at 7 (c 7 _ rfl)⟩
theorem Qz8(h:V6 (Qyg A e) A w F b e)(z:e.sent.length<1099511627776):Cl 14 #[ptr b] w λr w'=>∃c,r=.returned c/\Qxw w' c e.sent/\Qc Qb w w'/\∀k,c.ownBlock=some k->w.heap.size<=k:=by have I:=O (Qyu h.blk.1);obtain⟨G,u,_⟩:=h.sentOf;have E:=O (Qzo A.ss e.sent w u.1 z);have J:=Av h.blk.1;clear h u z;apply WH func14;go_wp2_with fail;apply Zo I;rintro r w1⟨rfl,rfl⟩;go_wp2_with fail;apply Zo E;rintro r w2⟨c,rfl,q,d,B,_⟩;have K:=O (Zt q (Zt d B));clear q d B;exact WG K
end
section
variable{A:EAd}{w:World}{F:Fp}{b:Nat}{e:Vi}
theorem Qzu(h:V6 (Qyg A e) A w F b e)(E:BOk e.book)(i:Int):ZW 15 #[ptr b,ZI i] w (.agg (Qw0 (e.book.get i))) λw'=>Qc Qb w w':=by
 have HN:=O (λw'(c:Qc Qb w w')=>Qyu (c.blk h.blk.1 (λh=>h)));obtain⟨G,hK,_⟩:=h.bookOf;obtain⟨Z,n1,n2,n3,n4,n5,n6,n7,U⟩:=eight (E.get i).1;obtain⟨R,q⟩:=Zx (w.alloc (.cells ZJ 46));have I:Hi (Qc Qb w R):=O (by rw[q];exact(Zg _ _).alloc _);have B0:Hi (Qh R w.heap.size ZJ 46):=O (by rw[q];exact Qh.new _ _ _);have HG:=O (Q1l (Qau.obj.aB hK I.o (Jl.none G)) E i);have a0:=Av (I.o.blk h.blk.1 (λh=>h));have ST:Hi (∀w2,Qc Qb R w2->∃z,(storeCells ⟨w.heap.size,0,none⟩ (Qw0 (e.book.get i)).toList 0).run prog w2=.ok () z/\Qh z w.heap.size #[ZU Z,ZU n1,ZU n2,ZU n3,ZU n4,ZU n5,ZU n6,ZU n7] 46/\Qc Qb w z):=O (λw2 B=>by
  obtain⟨z,s3,d,J⟩:=Q0 (P:=prog) (vs:=Qw0 (e.book.get i)) (B.blk B0.o (λh=>h)) (by rw[M0 (E.get i).1];rfl) (Qy5 _);rw[U]at d;exact⟨z,s3,d,(I.o.aA B).trans J (λk e=>.inr (by omega))⟩)
 have V:(Qw0 (e.book.get i)).size=8:=M0 (E.get i).1;obtain⟨sa,u⟩:=Zx (Qw0 (e.book.get i));have K:=O (show sa=#[ZU Z,ZU n1,ZU n2,ZU n3,ZU n4,ZU n5,ZU n6,ZU n7] by rw[u,U];rfl);rw[<-u]at HG ST V|-;clear h E hK U u;apply WH func15;go_wp2_with fail;rw[<-q];clear q;refine(HN.o _ I.o).mono ?_;rintro r w1⟨rfl,rfl⟩;go_wp2_with fail;apply Zo HG;rintro r w2⟨rfl,B⟩;obtain⟨z,s3,d,J⟩:=ST.o w2 B;have B3:=O d;have C3:=O J;clear d J B;go_wp2_with fail;clear s3 a0;have g0:=Ja B3.o;rw[K.o];refine bodyPost_ret (v:=.agg #[ZU Z,ZU n1,ZU n2,ZU n3,ZU n4,ZU n5,ZU n6,ZU n7]) (by rw[Lv (p:=4) (ty:=46) (by kernel_rfl)];go_simp;try rfl) rfl ⟨rfl,C3.o⟩
def Lq:Option D7->Array Value
 |none=>#[ZU 0,ZI 0,ZI 0,ZU 0,.int .u8 0,ZU 0,ZU 0,ZU 0]
 |some x=>#[ZU x.p.id,ZI x.p.cls,ZI x.p.len,ZU x.p.at_,.int .u8 x.rule,ZU x.frm,ZU x.til,ZU x.due]
theorem Qzv(h:V6 (Qyg A e) A w F b e):ZW 21 #[ptr b] w (.tuple #[.agg (Lq e.aM),.bool e.aM.isSome]) λw'=>Qc Qb w w':=by
 have HN:=O (λw'(c:Qc Qb w w')=>Qyu (c.blk h.blk.1 (λh=>h)));obtain⟨G,E,_⟩:=h.underOf;obtain⟨R,d⟩:=Zx (w.alloc (.cells ZG 51));have B:Hi (Qc Qb w R):=O (by rw[d];exact(Zg _ _).alloc _);have K:Hi (Qh R w.heap.size ZG 51):=O (by rw[d];exact Qh.new _ _ _);have Z:=O (B.o.blk h.blk.1 (λh=>h));cases I:e.aM with
 |some x=> rw[I]at E;obtain⟨g,cap,q,_,cs,hB,hx⟩:=Qxw.one E.1;have HL:Hi (R.rangeAt g 0 (Qxe x)):=O (λj u I=>by rw[Nat.zero_add];exact(B.o.blk hB (λh=>h)).at j (hx j u I));obtain⟨a0,a1,a2,a3,a4,a5,a6,U,a8⟩:=Av Z.o;rw[q]at U;obtain⟨W3,s3,J,c3⟩:=Q0 (P:=prog) (vs:=(Qxe x).toArray) K.o rfl (λv hv=>sentT.one x v (by simpa using hv));have C3:=O (B.o.trans c3 (λk e=>.inr (by omega)));have B3:Hi (Qh W3 w.heap.size (ZM x) 51):=O J;have V:(Qxe x).toArray.size=8:=rfl;have z:Hi ((Qxe x).toArray=(ZM x)):=O (rfl);show Cl 21 #[ptr b] w λr w'=>r=.returned (.tuple #[.agg (ZM x),.bool true])/\Qc Qb w w';rw[<-z.o];clear h E I q hB hx J c3;apply WH func21;go_wp2_with fail;rw[<-d];clear d;refine(HN.o _ B.o).mono ?_;rintro r w1⟨rfl,rfl⟩;go_wp2_with (with_reducible refine wpList_load_mid rfl 51 (.tmp 19) rfl g 0 rfl (Qxe x) _ HL.o underlying51 rfl (by kernel_rfl) ?_);generalize(Qxe x).toArray=sa at s3 V z|-;go_wp2_with fail;clear s3;have g0:=Ja B3.o;rw[z.o];refine bodyPost_ret (v:=.tuple #[.agg (ZM x),.bool true]) (by rw[results_cell_tmp (p:=2) (u:=3) (ty:=51) (by kernel_rfl)];go_simp;try rfl) rfl ⟨rfl,C3.o⟩
 |none=>
  rw[I]at E;obtain⟨ad,cap,q,_⟩:=Own.row Qws E.1;obtain⟨a0,a1,a2,a3,a4,a5,a6,U,a8⟩:=Av Z.o;rw[q]at U;clear h E I q;apply WH func21;go_wp2_with fail;rw[<-d];clear d;refine(HN.o _ B.o).mono ?_;rintro r w1⟨rfl,rfl⟩;have z0:=Ja K.o;have fz:=K.o.frozen;go_wp2_with fail;refine bodyPost_ret (v:=.tuple #[.agg ZG,.bool false]) (by rw[results_cell_tmp (p:=2) (u:=3) (ty:=51) (by kernel_rfl)];go_simp;try rfl) rfl ⟨rfl,?_⟩;iterate 8 (with_reducible refine Qc.setCell ?_ _ (Or.inr (Zv _)))
  exact B.o
end
section
variable{w W:World}{F:Fp}{b n3 n5 n6 n7 n8 fr now:Nat}{l:V2}{len:Int}
theorem Q1y(K:Qh W n3 #[ZP b] 79)(B5:Qh W n5 #[ZI len] 3)(c:Qh W n6 #[ZU 0] 22)(B:Qh W n7 #[ZI 0] 37)(B8:Qh W n8 #[ZU fr] 22)
  (E:Qh W b (Qx6 l) 125)(h3:b≠n3)(h5:b≠n5)(h6:b≠n6)(h7:b≠n7)(h8:b≠n8)(d:n6≠n3)(q:n6≠n7)(hr:1<=l.rate/\l.rate<=1048576)(hl:1<=len/\len<=65535)(hf:fr<=1152921504606846976)(u:FrameMode):
  CallsD prog 138 #[ZP n7,ZP n8,ZP n5,ZP n3,ZP n6] u W λe u' w'=>u'=u/\(e=.returned (.tuple #[])/\
   Qh w' b (Qx6 ⟨l.rate,fr+len.toNat*256,false⟩) 125/\Qh w' n6 #[ZU ((V2.aU ⟨l.rate,fr+len.toNat*256,false⟩:Nat):Int)] 22/\Qh w' n7 #[ZI 0] 37/\Qc (λk=>k=b\/k=n6) W w'):=by
 have e1:IntKind.u64.wrap len=len:=by rw[IntWalk.u64_in _ (by omega)]
 have e2:IntKind.u64.wrap (len*256)=((len.toNat*256:Nat):Int):=by rw[IntWalk.u64_in _ (by omega)];omega
 have e3:IntKind.u64.wrap ((fr:Int)+((len.toNat*256:Nat):Int))=((fr+len.toNat*256:Nat):Int):=by rw[IntWalk.u64_in _ (by omega)];omega
 have OK:Qy9 ⟨l.rate,fr+len.toNat*256,false⟩:=⟨hr,by show fr+len.toNat*256<=_;omega⟩;obtain⟨tk,z⟩:=Zx (fr+len.toNat*256);rw[<-z]at e3 OK|-;generalize len.toNat*256=lg at e2 e3;have W1:Hi (∀w1,w1=(W.setCell ⟨b,1,none⟩ (ZU tk)).setCell ⟨b,2,none⟩ (.bool false)->Qh w1 b (Qx6 ⟨l.rate,tk,false⟩) 125/\Qc (λk=>k=b) W w1):=O (by
  rintro w1 rfl;exact⟨(E.set' 1 _ rfl).set' 2 _ rfl,((Zg (λk=>k=b) W).setCell (a:=⟨b,1,none⟩) _ (.inl rfl)).setCell (a:=⟨b,2,none⟩) _ (.inl rfl)⟩)
 have Z:=O c;have aa:=O B;have ab:=O K;have I:=O (Zt h3 (Zt h6 (Zt h7 (Zt d q))));have a0:=L6 E;have fb:=E.frozen;have c3:=Jf K;have c5:=Jf B5;have c7:=Jf B;have c8:=Jf B8;clear K B5 B8 E z hl hf hr h5 h8;go_enter_d func138,ntmps138;go_wp2_with fail;obtain⟨J,k2⟩:=W1.o _ rfl;generalize(W.setCell ⟨b,1,none⟩ (ZU tk)).setCell ⟨b,2,none⟩ (.bool false)=V at J k2|-;apply Zz (Qy4 J OK);intro w2 c2;have U:=O (k2.aA c2.none);have R:=O (c2.blk J (λh=>h));have c:=O (U.o.blk Z.o (λe=>I.o.2.1 e.symm));have B:=O (U.o.blk aa.o (λe=>I.o.2.2.1 e.symm));have d6:=Jf c.o;have f6:=c.o.frozen 0;clear J k2 c2 a0 fb c3 c5 c7 c8 h3 h6 h7 d q;go_wp2_with fail;go_end0;refine⟨rfl,R.o.other (a:=⟨n6,0,none⟩) _ (λe=>I.o.2.1 e.symm),c.o.set' 0 _ rfl,B.o.other (a:=⟨n6,0,none⟩) _ (λe=>I.o.2.2.2.2 e),?_⟩;exact(U.o.sub λk h=>.inl h).setCell (a:=⟨n6,0,none⟩) _ (.inl (.inr rfl))
theorem Q1b(h:P3 w F b l)(ok:Qy9 l)(he:l.sendE now len=0)(hn:now<=1099511627776)(al:l.from_ now<=1152921504606846976):
  ZW 83 #[ptr b,ZU now,ZI len] w (.tuple #[ZU (l.til now len:Int),ZI 0]) λw'=>P3 w' (Qn F w w') b (l.send now len)/\Qc F w w':=by
 have aq:∀(fn:Fn)(R cap:Array Value)(w),(Instr.makeFunc fn R cap).run prog w=.ok (.func fn R cap) w:=λ_ _ _ _=>rfl;obtain⟨n,J⟩:=Zx (w.heap.size);have Xg:b<n:=by rw[J];exact h.1.lt
 have ae:1<=len/\len<=65535:=by
  unfold V2.sendE at he;split at he;·exact absurd he (by decide)
  split at he;·exact absurd he (by decide)
  .omega
 obtain⟨W,hW⟩:=Zx (((((w.alloc (.cells #[ZP b] 79)).alloc (.cells #[ZI len] 3)).alloc (.cells #[ZU 0] 22)).alloc (.cells #[ZI 0] 37)).alloc (.cells #[ZU 0] 22));have C0:Hi (Qc Qb w W):=O (by rw[hW];exact(((((Zg _ _).alloc _).alloc _).alloc _).alloc _).alloc _);have B3:Hi (Qh W n #[ZP b] 79):=O (by rw[hW,J];exact((((Qh.new' _ _ (by simp<;>omega)).alloc _).alloc _).alloc _).alloc _);have B5:Hi (Qh W (n+1) #[ZI len] 3):=O (by rw[hW,J];exact(((Qh.new' _ _ (by simp<;>omega)).alloc _).alloc _).alloc _);have B6:Hi (Qh W (n+1+1) #[ZU 0] 22):=O (by rw[hW,J];exact((Qh.new' _ _ (by simp<;>omega)).alloc _).alloc _);have B7:Hi (Qh W (n+1+1+1) #[ZI 0] 37):=O (by rw[hW,J];exact(Qh.new' _ _ (by simp<;>omega)).alloc _);have B8:Hi (Qh W (n+1+1+1+1) #[ZU 0] 22):=O (by rw[hW,J];exact Qh.new' _ _ (by simp<;>omega));have BL:=O (C0.o.blk h.1 (λh=>h));have ah:=O (λw1(c:Qc Qb W w1)=>Q0y (c.blk BL.o (λh=>h)) ok he);obtain⟨id,ac⟩:=Zx (l.idles);have ag:=O (λw1(hB:Qh w1 b #[ZU l.rate,ZU l.taken,.bool id] 125)=>Qy4 (l:=l) (by rw[ac]at hB;exact hB) ok);have HL:=O h;have E1:IntKind.u64.wrap ((now:Int)*(l.rate:Int))=((now*l.rate:Nat):Int):=by have:=Nat.mul_le_mul hn ok.rate.2;rw[IntWalk.u64_in _ (by omega)];omega
 obtain⟨pr,ak⟩:=Zx (now*l.rate);rw[<-ak]at E1;have aa:l.from_ now=if !id&&decide (now=l.aU)then l.taken else pr:=by rw[ak,ac];rfl
 have Z:l.send now len=⟨l.rate,l.from_ now+len.toNat*256,false⟩:=by unfold V2.send;rw[if_pos he]
 have am:l.til now len=(V2.aU ⟨l.rate,l.from_ now+len.toNat*256,false⟩):=by unfold V2.til;rw[if_pos he,Z]
 rw[Z,am];have E:=O (show∀V,Qc (λk=>n+1+1<=k) W V->Qh V (n+1+1) #[ZU 0] 22->Qh V (n+1+1+1) #[ZI 0] 37->Qh V (n+1+1+1+1) #[ZU (l.from_ now:Int)] 22->
  CallsD prog 138 #[ZP (n+1+1+1),ZP (n+1+1+1+1),ZP (n+1),ZP n,ZP (n+1+1)] .returning V λe u' w'=>u'=.returning/\(e=.returned (.tuple #[])/\
   w'.cell? ⟨n+1+1,0,none⟩=some (ZU ((V2.aU ⟨l.rate,l.from_ now+len.toNat*256,false⟩:Nat):Int))/\w'.cell? ⟨n+1+1+1,0,none⟩=some (ZI 0)/\P3 w' (Qn F w w') b ⟨l.rate,l.from_ now+len.toNat*256,false⟩/\Qc F w w')from by
  intro V c B6 B7 B8;have ao:=c.blk BL.o (λh=>by omega);refine(Q1y (c.blk B3.o (λh=>by omega)) (c.blk B5.o (λh=>by omega)) B6 B7 B8 ao (by omega) (by omega) (by omega) (by omega) (by omega) (by omega) (by omega) ok.rate ae al .returning).mono ?_;rintro e u' w'⟨rfl,rfl,b1,b2,b3,I⟩;have cc:Qc (λk=>k=b) w w':=((C0.o.none (F:=λk=>k=b)).trans c λk hk=>.inr (by omega)).trans I λk hk=>hk.elim .inl (λe=>.inr (by omega));exact⟨rfl,rfl,Jf b2,Jf b3,h.set cc b1⟩)
 have BL:Hi (Qh W b #[ZU l.rate,ZU l.taken,.bool id] 125):=O (by rw[ac];exact BL.o);have d0:decide ((now:Int)=(l.aU:Int))=decide (now=l.aU):=decide_eq_decide.2 (by omega);have d1:((now:Int)==(l.aU:Int))=decide (now=l.aU):=by rw[Bool.eq_iff_iff,beq_iff_eq,decide_eq_true_eq];omega
 generalize l.from_ now=fr at aa E|-;have K:=O aa;generalize l.aU=un at ag d0 d1 aa K;have q0:¬b=n+1+1:=by omega
 have q1:¬b=n+1+1+1:=by omega
 have q2:¬b=n+1+1+1+1:=by omega
 have q3:¬n+1+1=b:=by omega
 have q4:¬n+1+1+1=b:=by omega
 have q5:¬n+1+1+1+1=b:=by omega
 have af:=O J;have ai:=O hW;clear h ok he hn al Xg ae ak J hW aa;unfold ptr Qx6 at*;have QQ:=O (Zt q0 (Zt q1 q2));clear ac;cases id with
 |true=> have U:fr=pr:=K.o;subst U;clear d0 d1;go_enter_defers func83,ntmps83;go_wp2_with fail;rw[<-af.o,<-ai.o];apply Zz (ah.o _ (Zg _ _));intro w1 d;have q:=O (d.blk B6.o (λh=>h));have u:=O (d.blk B7.o (λh=>h));have z:=O (d.blk B8.o (λh=>h));have B:=O (d.blk BL.o (λh=>h));have b3:=Jf (d.blk B3.o (λh=>h));have b5:=Jf (d.blk B5.o (λh=>h));have a0:=L6 B.o;have b6:=Jf q.o;have b7:=Jf u.o;have b8:=Jf z.o;have g6:=q.o.frozen 0;have g7:=u.o.frozen 0;have g8:=z.o.frozen 0;have C1:=O (d.none (F:=λk=>n+1+1<=k));clear d;go_wp2_with fail;refine leaves_cons (f:=138) (args:=#[ZP (n+1+1+1),ZP (n+1+1+1+1),ZP (n+1),ZP n,ZP (n+1+1)]) (by simp) (by simp[go_sem]) ?_;refine(E.o _ ((((C1.o.setCell _ (by show _\/_;left;show n+1+1<=n+1+1+1;omega)).setCell _ (by left;show n+1+1<=n+1+1+1+1;omega)).setCell _ (by left;exact Zv _)).setCell _ (by left;show n+1+1<=n+1+1+1;omega)) ((((q.o.other _ (by simp<;>omega)).other _ (by simp<;>omega)).set' 0 _ rfl).other _ (by simp<;>omega)) ((((u.o.set' 0 _ rfl).other _ (by simp<;>omega)).other _ (by simp<;>omega)).set' 0 _ rfl) ((((z.o.other _ (by simp<;>omega)).set' 0 _ rfl).other _ (by simp<;>omega)).other _ (by simp<;>omega))).mono ?_;rintro e u' an⟨rfl,rfl,r6,r7,hh,hc⟩;exact⟨.tuple #[ZU ((V2.aU ⟨l.rate,fr+len.toNat*256,false⟩:Nat):Int),ZI 0],by simp[results,Tryz.results83,go_sem,r6,r7],rfl,hh,hc⟩
 |false=>
  cases ab:decide (now=un)with
  |true=> rw[ab]at d0 d1 K;have U:fr=l.taken:=K.o;subst U;clear ab;go_enter_defers func83,ntmps83;go_wp2_with fail;rw[<-af.o,<-ai.o];apply Zz (ah.o _ (Zg _ _));intro w1 d;have q:=O (d.blk B6.o (λh=>h));have u:=O (d.blk B7.o (λh=>h));have z:=O (d.blk B8.o (λh=>h));have B:=O (d.blk BL.o (λh=>h));have aj:=O (d.blk B3.o (λh=>h));have b3:=Jf (d.blk B3.o (λh=>h));have b5:=Jf (d.blk B5.o (λh=>h));have a0:=L6 B.o;have b6:=Jf q.o;have b7:=Jf u.o;have b8:=Jf z.o;have g6:=q.o.frozen 0;have g7:=u.o.frozen 0;have g8:=z.o.frozen 0;have C1:=O (d.none (F:=λk=>n+1+1<=k));clear d;go_wp2_with fail;apply Zz (ag.o _ ((B.o.other _ (by simp<;>omega)).other _ (by simp<;>omega)));intro w2 I;have D6:=O (I.blk ((q.o.other (a:=⟨n+1+1+1,0,none⟩) (ZI 0) (by simp<;>omega)).other (a:=⟨n+1+1+1+1,0,none⟩) (ZU pr) (by simp<;>omega)) (λh=>h));have D7:=O (I.blk ((u.o.set' 0 (ZI 0) rfl).other (a:=⟨n+1+1+1+1,0,none⟩) (ZU pr) (by simp<;>omega)) (λh=>h));have D8:=O (I.blk ((z.o.other (a:=⟨n+1+1+1,0,none⟩) (ZI 0) (by simp<;>omega)).set' 0 (ZU pr) rfl) (λh=>h));have DL:=O (I.blk ((B.o.other (a:=⟨n+1+1+1,0,none⟩) (ZI 0) (by simp<;>omega)).other (a:=⟨n+1+1+1+1,0,none⟩) (ZU pr) (by simp<;>omega)) (λh=>h));have ap:=Jf (I.blk ((aj.o.other (a:=⟨n+1+1+1,0,none⟩) (ZI 0) (by simp<;>omega)).other (a:=⟨n+1+1+1+1,0,none⟩) (ZU pr) (by simp<;>omega)) (λh=>h));have C2:=O (((C1.o.setCell (a:=⟨n+1+1+1,0,none⟩) (ZI 0) (by left;show n+1+1<=n+1+1+1;omega)).setCell (a:=⟨n+1+1+1+1,0,none⟩) (ZU pr) (by left;show n+1+1<=n+1+1+1+1;omega)).trans I (λk h=>h.elim));clear I a0 b3 b5 b6 b7 b8 g6 g7 g8;have a0:=L6 DL.o;have b6:=Jf D6.o;have b7:=Jf D7.o;have b8:=Jf D8.o;have g6:=D6.o.frozen 0;have g7:=D7.o.frozen 0;have g8:=D8.o.frozen 0;go_wp2_with fail;refine leaves_cons (f:=138) (args:=#[ZP (n+1+1+1),ZP (n+1+1+1+1),ZP (n+1),ZP n,ZP (n+1+1)]) (by simp) (by simp[go_sem]) ?_;refine(E.o _ ((C2.o.setCell _ (by left;show n+1+1<=n+1+1+1+1;omega)).setCell _ (by left;show n+1+1<=n+1+1;omega) |>.setCell _ (by left;show n+1+1<=n+1+1+1;omega)) (((D6.o.other _ (by simp<;>omega)).set' 0 _ rfl).other _ (by simp<;>omega)) (((D7.o.other _ (by simp<;>omega)).other _ (by simp<;>omega)).set' 0 _ rfl) (((D8.o.set' 0 _ rfl).other _ (by simp<;>omega)).other _ (by simp<;>omega))).mono ?_;rintro e u' an⟨rfl,rfl,r6,r7,hh,hc⟩;exact⟨.tuple #[ZU ((V2.aU ⟨l.rate,l.taken+len.toNat*256,false⟩:Nat):Int),ZI 0],by simp[results,Tryz.results83,go_sem,r6,r7],rfl,hh,hc⟩
  |false=> rw[ab]at d0 d1 K;have U:fr=pr:=K.o;subst U;clear ab;go_enter_defers func83,ntmps83;go_wp2_with fail;rw[<-af.o,<-ai.o];apply Zz (ah.o _ (Zg _ _));intro w1 d;have q:=O (d.blk B6.o (λh=>h));have u:=O (d.blk B7.o (λh=>h));have z:=O (d.blk B8.o (λh=>h));have B:=O (d.blk BL.o (λh=>h));have aj:=O (d.blk B3.o (λh=>h));have b3:=Jf (d.blk B3.o (λh=>h));have b5:=Jf (d.blk B5.o (λh=>h));have a0:=L6 B.o;have b6:=Jf q.o;have b7:=Jf u.o;have b8:=Jf z.o;have g6:=q.o.frozen 0;have g7:=u.o.frozen 0;have g8:=z.o.frozen 0;have C1:=O (d.none (F:=λk=>n+1+1<=k));clear d;go_wp2_with fail;apply Zz (ag.o _ ((B.o.other _ (by simp<;>omega)).other _ (by simp<;>omega)));intro w2 I;have D6:=O (I.blk ((q.o.other (a:=⟨n+1+1+1,0,none⟩) (ZI 0) (by simp<;>omega)).other (a:=⟨n+1+1+1+1,0,none⟩) (ZU fr) (by simp<;>omega)) (λh=>h));have D7:=O (I.blk ((u.o.set' 0 (ZI 0) rfl).other (a:=⟨n+1+1+1+1,0,none⟩) (ZU fr) (by simp<;>omega)) (λh=>h));have D8:=O (I.blk ((z.o.other (a:=⟨n+1+1+1,0,none⟩) (ZI 0) (by simp<;>omega)).set' 0 (ZU fr) rfl) (λh=>h));have DL:=O (I.blk ((B.o.other (a:=⟨n+1+1+1,0,none⟩) (ZI 0) (by simp<;>omega)).other (a:=⟨n+1+1+1+1,0,none⟩) (ZU fr) (by simp<;>omega)) (λh=>h));have ap:=Jf (I.blk ((aj.o.other (a:=⟨n+1+1+1,0,none⟩) (ZI 0) (by simp<;>omega)).other (a:=⟨n+1+1+1+1,0,none⟩) (ZU fr) (by simp<;>omega)) (λh=>h));have C2:=O (((C1.o.setCell (a:=⟨n+1+1+1,0,none⟩) (ZI 0) (by left;show n+1+1<=n+1+1+1;omega)).setCell (a:=⟨n+1+1+1+1,0,none⟩) (ZU fr) (by left;show n+1+1<=n+1+1+1+1;omega)).trans I (λk h=>h.elim));clear I a0 b3 b5 b6 b7 b8 g6 g7 g8;have a0:=L6 DL.o;have b6:=Jf D6.o;have b7:=Jf D7.o;have b8:=Jf D8.o;have g6:=D6.o.frozen 0;have g7:=D7.o.frozen 0;have g8:=D8.o.frozen 0;go_wp2_with fail;refine leaves_cons (f:=138) (args:=#[ZP (n+1+1+1),ZP (n+1+1+1+1),ZP (n+1),ZP n,ZP (n+1+1)]) (by simp) (by simp[go_sem]) ?_;refine(E.o _ ((C2.o.setCell _ (by left;show n+1+1<=n+1+1;omega)).setCell _ (by left;show n+1+1<=n+1+1+1;omega)) ((D6.o.set' 0 _ rfl).other _ (by simp<;>omega)) ((D7.o.other _ (by simp<;>omega)).set' 0 _ rfl) ((D8.o.other _ (by simp<;>omega)).other _ (by simp<;>omega))).mono ?_;rintro e u' an⟨rfl,rfl,r6,r7,hh,hc⟩;exact⟨.tuple #[ZU ((V2.aU ⟨l.rate,fr+len.toNat*256,false⟩:Nat):Int),ZI 0],by simp[results,Tryz.results83,go_sem,r6,r7],rfl,hh,hc⟩
end
section
variable{A:EAd}{w:World}{F:Fp}{b:Nat}{e:Vi}
theorem V6.lift{cs:Array Value}{c:Fp}(h:V6 cs A w F b e)(q:∀k,F k->c k)(d:Bd c w):V6 cs A w c b e:=(V6.good cs A b e).more h q d
theorem Q14{s:Qf}{id:Int}(u:J8 s.tree)(q:s.aP id=0):1<=id:=by
 obtain⟨_,d⟩:=Ng q;unfold Qm.aP at d;cases k:s.tree.at id with
 |none=>rw[k]at d;exact absurd d (by simp)
 |some c=>exact(u.pos k).1
theorem Q0p(h:Qxn w F b e){N:Nat}(ok:Xp N e.sched)(c:Yk):ZW 27 #[ptr b,Fb c] w (ZI (e.aO c)) λw'=>Qxn w' (Qn F w w') b (e.add c)/\Qc F w w':=by
 obtain⟨A,h⟩:=h;have k:=(V6.good (Qyg A e) A b e).bd h;obtain⟨W,B⟩:=Zx (w.alloc (.cells (Z4 c.leaf c) 29));have S0:Hi (Xx W w.heap.size c):=O (by rw[B];exact Xx.new w c);have J:Hi (Qc Qb w W):=O (by rw[B];exact(Zg _ _).alloc _);have z:=h.aB J.o;have R:=O (Qyv z.blk.1);have q:Hi (∀w' t,Qxn w' (Qn F W w') b t->Qc F W w'->Qxn w' (Qn F w w') b t/\Qc F w w'):=O (λw' t h1 V=>by
  have u:Qc F w w':=J.o.none.aA V;exact⟨Qxn.obj.more h1 (Ke J.o.size) (k.ext u),u⟩)
 have AT:=O (λw1(d:Qc Qb W w1)=>Zt (z.aB d).blk.1 (Zt (Xx.aB S0.o d).cells d.drew));unfold Vi.aO Vi.add;cases Z:e.stopped with
 |true=> rw[Z]at R;rw[if_pos rfl,if_pos rfl];have E:=O (λw'(u:Qc Qb W w')=>q.o w' e (Qxn.obj.same ⟨A,z⟩ u).1 u.none);unfold Fb ptr at*;clear h z Z k ok;apply WH func27;go_wp2_with fail;rw[<-B];clear B;apply Zo R;rintro r w1⟨rfl,d⟩;have K:=O (E.o w1 d);clear d;exact WD K
 |false=>
  rw[Z]at R;rw[if_neg Bool.false_ne_true,if_neg Bool.false_ne_true];have HS:Hi (∀w1,Qc Qb W w1->ZW 59 #[ptr A.sb,Fb c] w1 (ZI (e.sched.aO c)) λw2=>Qxn w2 (Qn F w w2) b {e with sched:=e.sched.add c}/\Qc F w w2):=O (λw1 d=>by
   obtain⟨G,hS,_,_,I⟩:=(z.aB d).schedOf;refine(Cy hS ok c).mono ?_;rintro r w2⟨rfl,ag,U⟩;obtain⟨m1,m2⟩:=I w2 _ ag U;have u:Qc F W w2:=d.none.aA m2;obtain⟨n1,n2⟩:=q.o w2 {e with sched:=e.sched.add c} ⟨A,m1.lift (Ke d.size) ((k.later J.o).ext u)⟩ u;exact⟨rfl,n1,n2⟩)
  generalize e.sched.aO c=er at HS|-;unfold Fb ptr at*;clear h z Z k ok;apply WH func27;go_wp2_with fail;rw[<-B];clear B;apply Zo R;rintro r w1⟨rfl,d⟩;have C1:=O d.drew;obtain⟨g9,z9,_⟩:=AT.o w1.drew d.drew;have a0:=Av g9;have g0:=z9;clear d;go_wp2_with fail;apply XB 2200000;apply YA 0;clear a0 g0 g9;go_wp2_with fail;refine(HS.o _ C1.o).mono ?_;rintro r w2⟨rfl,V,U⟩;have K:=O (Zt V U);clear V U;go_wp2_with fail;apply YI 0;exact WD K
theorem Q0q(h:Qxn w F b e){N:Nat}(ok:Xp N e.sched)(c:Yk):ZW 33 #[ptr b,Fb c] w (ZI (e.aG c)) λw'=>Qxn w' (Qn F w w') b (e.change c)/\Qc F w w':=by
 obtain⟨A,h⟩:=h;have k:=(V6.good (Qyg A e) A b e).bd h;obtain⟨W,B⟩:=Zx (w.alloc (.cells (Z4 c.leaf c) 29));have S0:Hi (Xx W w.heap.size c):=O (by rw[B];exact Xx.new w c);have J:Hi (Qc Qb w W):=O (by rw[B];exact(Zg _ _).alloc _);have z:=h.aB J.o;have R:=O (Qyv z.blk.1);have q:Hi (∀w' t,Qxn w' (Qn F W w') b t->Qc F W w'->Qxn w' (Qn F w w') b t/\Qc F w w'):=O (λw' t h1 V=>by
  have u:Qc F w w':=J.o.none.aA V;exact⟨Qxn.obj.more h1 (Ke J.o.size) (k.ext u),u⟩)
 have AT:=O (λw1(d:Qc Qb W w1)=>Zt (z.aB d).blk.1 (Zt (Xx.aB S0.o d).cells d.drew));unfold Vi.aG Vi.change;cases Z:e.stopped with
 |true=> rw[Z]at R;rw[if_pos rfl,if_pos rfl];have E:=O (λw'(u:Qc Qb W w')=>q.o w' e (Qxn.obj.same ⟨A,z⟩ u).1 u.none);unfold Fb ptr at*;clear h z Z k ok;apply WH func33;go_wp2_with fail;rw[<-B];clear B;apply Zo R;rintro r w1⟨rfl,d⟩;have K:=O (E.o w1 d);clear d;exact WD K
 |false=>
  rw[Z]at R;rw[if_neg Bool.false_ne_true,if_neg Bool.false_ne_true];have HS:Hi (∀w1,Qc Qb W w1->ZW 66 #[ptr A.sb,Fb c] w1 (ZI (e.sched.aG c)) λw2=>Qxn w2 (Qn F w w2) b {e with sched:=e.sched.change c}/\Qc F w w2):=O (λw1 d=>by
   obtain⟨G,hS,_,_,I⟩:=(z.aB d).schedOf;refine(Qfp hS ok c).mono ?_;rintro r w2⟨rfl,ag,U⟩;obtain⟨m1,m2⟩:=I w2 _ ag U;have u:Qc F W w2:=d.none.aA m2;obtain⟨n1,n2⟩:=q.o w2 {e with sched:=e.sched.change c} ⟨A,m1.lift (Ke d.size) ((k.later J.o).ext u)⟩ u;exact⟨rfl,n1,n2⟩)
  generalize e.sched.aG c=er at HS|-;unfold Fb ptr at*;clear h z Z k ok;apply WH func33;go_wp2_with fail;rw[<-B];clear B;apply Zo R;rintro r w1⟨rfl,d⟩;have C1:=O d.drew;obtain⟨g9,z9,_⟩:=AT.o w1.drew d.drew;have a0:=Av g9;have g0:=z9;clear d;go_wp2_with fail;apply XB 2200000;apply YA 0;clear a0 g0 g9;go_wp2_with fail;refine(HS.o _ C1.o).mono ?_;rintro r w2⟨rfl,V,U⟩;have K:=O (Zt V U);clear V U;go_wp2_with fail;apply YI 0;exact WD K
theorem Q1p(h:Qxn w F b e){K:Nat}(ok:V4 K e)(id:Int):ZW 34 #[ptr b,ZI id] w (ZI (e.aP id)) λw'=>Qxn w' (Qn F w w') b (e.drop id)/\Qc F w w':=by
 obtain⟨A,h⟩:=h;obtain⟨N,u,_⟩:=ok.sok;have k:=(V6.good (Qyg A e) A b e).bd h;have I:=O (Qyv h.blk.1);have R:=O (λw'(cc:Qc Qb w w')=>Qxn.obj.same ⟨A,h⟩ cc);unfold Vi.aP Vi.drop;cases hs:e.stopped with
 |true=> rw[hs]at I;rw[if_pos rfl,if_pos rfl];clear h hs k ok u;apply WH func34;go_wp2_with fail;apply Zo I;rintro r w1⟨rfl,c⟩;have K:=O (R.o w1 c);clear c;exact WD K
 |false=>
  rw[hs]at I;rw[if_neg Bool.false_ne_true,if_neg Bool.false_ne_true];have AT:=O (λw1(c:Qc Qb w w1)=>(h.aB c).blk.1);have HS:Hi (∀w1,Qc Qb w w1->ZW 67 #[ptr A.sb,ZI id] w1 (ZI (e.sched.aP id)) λw2=>Qyf A w2 (Qn F w w2) b {e with sched:=e.sched.drop id}/\Qc F w w2):=O (λw1 c=>by
   obtain⟨G,hS,_,_,q⟩:=(h.aB c).schedOf;refine(Qmd hS u id).mono ?_;rintro r w2⟨rfl,E,d⟩;obtain⟨m1,m2⟩:=q w2 _ E d;have cc:Qc F w w2:=c.none.aA m2;exact⟨rfl,m1.lift (Ke c.size) (k.ext cc),cc⟩)
  by_cases z:e.sched.aP id=0
  .rw[z]at HS;rw[if_pos z,z];have HB:Hi (∀w1,Qyf A w1 (Qn F w w1) b {e with sched:=e.sched.drop id}->Qc F w w1->ZW 68 #[ptr A.kb,ZI id] w1 (.tuple #[]) λw2=>Qxn w2 (Qn F w w2) b {e with sched:=e.sched.drop id,book:=e.book.drop id}/\Qc F w w2):=O (λw1 h1 c=>by
    obtain⟨G,hS,_,_,q⟩:=h1.bookOf;refine(Q06 hS ok.book id (Q14 u.tree z)).mono ?_;rintro r w2⟨rfl,E,d⟩;obtain⟨m1,m2⟩:=q w2 _ E d;obtain⟨n1,n2⟩:=Qxn.obj.two (show Qxn w2 _ b {e with sched:=e.sched.drop id,book:=e.book.drop id}from⟨A,m1⟩) k c m2;exact⟨rfl,n1,n2⟩)
   clear h hs k ok u z;apply WH func34;go_wp2_with fail;apply Zo I;rintro r w1⟨rfl,c⟩;have C1:=O c;have U:=Av (AT.o w1 c);clear c;go_wp2_with fail;clear U;refine(HS.o _ C1.o).mono ?_;rintro r w2⟨rfl,B,d⟩;have K:=O (Zt B d);have U:=Av B.blk.1;clear B d;go_wp2_with fail;refine(HB.o _ K.o.1 K.o.2).mono ?_;rintro r w3⟨rfl,h3,c3⟩;have K3:=O (Zt h3 c3);clear h3 c3 U;exact WD K3
  .rw[if_neg z];have J:Hi (∀w1,Qc Qb w w1->ZW 67 #[ptr A.sb,ZI id] w1 (ZI (e.sched.aP id)) λw2=>Qxn w2 (Qn F w w2) b e/\Qc F w w2):=O (λw1 c=>(HS.o w1 c).mono (by
    rintro r w2⟨rfl,B,d⟩;have he:e.sched.drop id=e.sched:=by unfold Qf.drop;rw[if_neg z]
    rw[he]at B;exact⟨rfl,⟨A,B⟩,d⟩))
   obtain⟨er,aa⟩:=Zx (e.sched.aP id);rw[<-aa]at J z|-;have d0:(er==0)=false:=by simpa using z
   clear h hs k ok u aa;apply WH func34;go_wp2_with fail;apply Zo I;rintro r w1⟨rfl,c⟩;have C1:=O c;have U:=Av (AT.o w1 c);clear c;go_wp2_with fail;clear U;refine(J.o _ C1.o).mono ?_;rintro r w2⟨rfl,B,d⟩;have K:=O (Zt B d);clear B d;exact WD K
end
section
variable{w wz W1 W2 W3:World}{A:EAd}{e:Vi}{b:Nat}
theorem Qyf.made(c:Nat->Nat){F q u F3 F4 z:Fp}(hB:Qh wz b (Qyg A e) 87)(hs:Qt wz q A.sb e.sched)(hl:P3 wz u A.lb e.link)(E:Qau wz F3 A.kb e.book)(hu:Qwq A.us e.aM.toList wz F4)(Z:Qwq A.ss e.sent wz z)
  (c0:c b=0) (I:∀k,q k->c k=1) (J:∀k,u k->c k=2) (K:∀k,F3 k->c k=3) (R:∀k,F4 k->c k=4) (U:∀k,z k->c k=5) (V:F b) (f1:∀k,q k->F k) (f2:∀k,u k->F k) (f3:∀k,F3 k->F k) (f4:∀k,F4 k->F k) (f5:∀k,z k->F k) (B:Bd F wz):Qyf A wz F b e:=by
 have d:∀i,Bd (λk=>F k/\i<c k) wz:=λi k E=>B k E.1;refine Q7 (G:=λk=>k=b) (H:=λk=>F k/\0<c k) ⟨hB,rfl,λk e=>e▸B b V⟩ ?_ (λk e h=>by subst e;omega) (λk e=>e▸V) (λk h=>h.1) B;refine Q7 (H:=λk=>F k/\1<c k) hs ?_ (λk e h=>by have:=I k e;omega) (λk e=>⟨f1 k e,by have:=I k e;omega⟩) (λk h=>⟨h.1,by omega⟩) (d 0);refine Q7 (H:=λk=>F k/\2<c k) hl ?_ (λk e h=>by have:=J k e;omega) (λk e=>⟨f2 k e,by have:=J k e;omega⟩) (λk h=>⟨h.1,by omega⟩) (d 1);refine Q7 (H:=λk=>F k/\3<c k) E ?_ (λk e h=>by have:=K k e;omega) (λk e=>⟨f3 k e,by have:=K k e;omega⟩) (λk h=>⟨h.1,by omega⟩) (d 2);exact Q7 hu (Y6 Z Z.2.2) (λk e h=>by have:=R k e;have:=U k h;omega) (λk e=>⟨f4 k e,by have:=R k e;omega⟩) (λk e=>⟨f5 k e,by have:=U k e;omega⟩) (d 3)
theorem Qwq.none(w):Qwq (.slice none 0 0) [] w (λ_=>False):=⟨Own.nil _ _ _ _,nofun,nofun⟩
theorem Q1k(d:Nat)(c:Int)(k:Nat)(w)(h:Qxy d c k≠0):ZW 9 #[.agg #[ZU d,ZI c,ZU k]] w (.tuple #[.pointer none,ZI (Qxy d c k)]) λw'=>Qc Qb w w':=by
 obtain⟨W0,B⟩:=Zx (w.alloc (.cells #[ZU d,ZI c,ZU k] 24));have C0:Hi (Qc Qb w W0):=O (by rw[B];exact(Zg _ _).alloc _);have K:Hi (Qh W0 w.heap.size #[ZU d,ZI c,ZU k] 24):=O (by rw[B];exact Qh.new _ _ _);have z:=O B;unfold Qxy at h|-;clear B;by_cases hr:d<1\/1048576<d;·rw[if_pos hr];have HL:=O (Q16 d W0 hr);clear h hr;have R:=L6 (show Qh (w.alloc (.cells #[ZU d,ZI c,ZU k] 24)) w.heap.size #[ZU d,ZI c,ZU k] 24 from Qh.new _ _ _);apply WH func9;go_wp2_with fail;rw[<-z.o];apply Zo HL;rintro r w1⟨rfl,q⟩;have I:=O (C0.o.aA q);clear q;exact WD I
 .rw[if_neg hr]at h|-;have J:1<=d/\d<=1048576:=by omega
  have HL:=O (Qz9 d W0 J.1 J.2);have Z:c<1\/65536<=c\/k<1\/1099511627776<k:=by
   by_cases Z:c<1\/65536<=c\/k<1\/1099511627776<k;·exact Z
   .rw[if_neg Z]at h;exact absurd rfl h
  rw[if_pos Z];clear h hr J;by_cases hm:c<1\/65536<=c;·have HS:=O (λw1=>Qiz c w1 hm);clear Z hm;have R:=L6 (show Qh (w.alloc (.cells #[ZU d,ZI c,ZU k] 24)) w.heap.size #[ZU d,ZI c,ZU k] 24 from Qh.new _ _ _);apply WH func9;go_wp2_with fail;rw[<-z.o];apply Zo HL;rintro r w1⟨lb,rfl,E,q⟩;have I:=O (C0.o.aA q);have L1:=O (Zt E q);have b0:=L6 (q.blk K.o (λh=>h));clear q E R;go_wp2_with fail;refine(HS.o _).mono ?_;rintro r w2⟨rfl,u⟩;have C2:=O (I.o.aA u);have b0:=L6 (u.blk (L1.o.2.blk K.o (λh=>h)) (λh=>h));clear u;exact WD C2
  .have HS:=O (λw1=>Qeb c (show 1<=c by omega) (show c<65536 by omega) w1);have h3:k<1\/1099511627776<k:=by omega
   clear Z hm;by_cases h4:k<1
   .have d1:decide ((k:Int)<1)=true:=by simp;omega
    have aa:decide (k<1)=true:=by simp;omega
    clear h3 h4;have R:=L6 (show Qh (w.alloc (.cells #[ZU d,ZI c,ZU k] 24)) w.heap.size #[ZU d,ZI c,ZU k] 24 from Qh.new _ _ _);apply WH func9;go_wp2_with fail;rw[<-z.o];apply Zo HL;rintro r w1⟨lb,rfl,E,q⟩;have I:=O (C0.o.aA q);have L1:=O (Zt E q);have b0:=L6 (q.blk K.o (λh=>h));clear q E R;go_wp2_with fail;refine(HS.o _).mono ?_;rintro r w2⟨sb,rfl,hs,u⟩;have C2:=O (I.o.aA u);have b0:=L6 (u.blk (L1.o.2.blk K.o (λh=>h)) (λh=>h));clear u hs;exact WD C2
   .have d1:decide ((k:Int)<1)=false:=by simp;omega
    have aa:decide (k<1)=false:=by simp;omega
    have d2:decide ((1099511627776:Int)<(k:Int))=true:=by simp;omega
    have ab:decide (1099511627776<k)=true:=by simp;omega
    clear h3 h4;have R:=L6 (show Qh (w.alloc (.cells #[ZU d,ZI c,ZU k] 24)) w.heap.size #[ZU d,ZI c,ZU k] 24 from Qh.new _ _ _);apply WH func9;go_wp2_with fail;rw[<-z.o];apply Zo HL;rintro r w1⟨lb,rfl,E,q⟩;have I:=O (C0.o.aA q);have L1:=O (Zt E q);have b0:=L6 (q.blk K.o (λh=>h));clear q E R;go_wp2_with fail;refine(HS.o _).mono ?_;rintro r w2⟨sb,rfl,hs,u⟩;have C2:=O (I.o.aA u);have b0:=L6 (u.blk (L1.o.2.blk K.o (λh=>h)) (λh=>h));clear u hs;exact WD C2
end
theorem Q0r(d:Nat)(c:Int)(q:Nat)(w)(h:Qxy d c q=0):Cl 9 #[.agg #[ZU d,ZI c,ZU q]] w λr w'=>∃b,r=.returned (.tuple #[ptr b,ZI 0])/\Qxn w' (Qn Qb w w') b (.new d c q)/\Qc Qb w w':=by
 obtain⟨W0,z⟩:=Zx (w.alloc (.cells #[ZU d,ZI c,ZU q] 24));have C0:Hi (Qc Qb w W0):=O (by rw[z];exact(Zg _ _).alloc _);have U:Hi (Qh W0 w.heap.size #[ZU d,ZI c,ZU q] 24):=O (by rw[z];exact Qh.new _ _ _);have Z:=O z;have hh:(1<=d/\d<=1048576)/\(1<=c/\c<65536)/\1<=q/\q<=1099511627776:=by
  unfold Qxy at h;split at h;·exact absurd h (by decide)
  split at h;·exact absurd h (by decide)
  omega
 obtain⟨⟨r1,r2⟩,⟨m1,m2⟩,p1,p2⟩:=hh;have HL:=O (Qz9 d W0 r1 r2);have HS:=O (λw1=>Qeb c m1 m2 w1);have HK:=O Q1m;have d1:decide ((q:Int)<1)=false:=by simp;omega
 have aa:decide (q<1)=false:=by simp;omega
 have d2:decide ((1099511627776:Int)<(q:Int))=false:=by simp;omega
 have ab:decide (1099511627776<q)=false:=by simp;omega
 clear h r1 r2 m1 m2 p1 p2 z;have a0:=L6 (show Qh (w.alloc (.cells #[ZU d,ZI c,ZU q] 24)) w.heap.size #[ZU d,ZI c,ZU q] 24 from Qh.new _ _ _);apply WH func9;go_wp2_with fail;rw[<-Z.o];apply Zo HL;rintro r w1⟨lb,rfl,hl,J⟩;have C1:=O (C0.o.aA J);have L1:=O (Zt hl J);have b0:=L6 (J.blk U.o (λh=>h));clear J hl a0;go_wp2_with fail;refine(HS.o _).mono ?_;rintro r w2⟨sb,rfl,hs,K⟩;have C2:=O (C1.o.aA K);have S2:=O (Zt hs K);have I:=O (K.blk (L1.o.2.blk U.o (λh=>h)) (λh=>h));have b0:=L6 I.o;clear K hs;go_wp2_with fail;apply XC 33302111 Qb w2;iterate 1 (apply YK λ_ hv=>L6 (hv.blk I.o (λh=>h)))
 apply YA 0;go_wp2_with fail;refine(HK.o _).mono ?_;rintro r w3⟨kb,rfl,u,c3⟩;have E:=O (Zt u ((Zg Qb w2).drew.aA c3));clear u c3;go_wp2_with fail;refine⟨E.o.2,?_⟩;apply YA 0;go_wp2_with fail;refine Km ?_;go_wp2_with fail;apply YI 0;have V:Hi (∀B,B=w3.alloc (.cells #[ZU d,ZI c,ZU q,ZU 0,ptr sb,ptr lb,ptr kb,.slice none 0 0,.slice none 0 0] 87)->Qxn B (Qn Qb w B) w3.heap.size (.new d c q)/\Qc Qb w B):=O (by
  intro B hz;have R:Qc Qb w3 B:=by rw[hz];exact(Zg _ _).alloc _
  have hB:Qh B w3.heap.size #[ZU d,ZI c,ZU q,ZU 0,ptr sb,ptr lb,ptr kb,.slice none 0 0,.slice none 0 0] 87:=by rw[hz];exact Qh.new _ _ _
  have z0:=U.o.lt;have z1:=L1.o.2.size;have z2:=S2.o.2.size;have z3:=E.o.2.size;have z4:=hB.lt;have hd:w2.drew.heap.size=w2.heap.size:=rfl;have hm:Qyf ⟨sb,lb,kb,.slice none 0 0,.slice none 0 0⟩ B (Qn Qb w B) w3.heap.size (.new d c q):=Qyf.made
   (λk=>if k<w1.heap.size then 2 else if k<w2.heap.size then 1 else if k<w3.heap.size then 3 else 0) hB (Qt.obj.aB S2.o.1 (E.o.2.aA R) (Jl.none _)) (P3.obj.aB L1.o.1 ((S2.o.2.aA E.o.2).aA R) (Jl.none _)) (Qau.obj.aB E.o.1 R (Jl.none _)) (Qwq.none _) (Qwq.none _)
   (by(try dsimp only);rw[if_neg (by omega),if_neg (by omega),if_neg (by omega)])
   (λk u=>u.elim (λh=>h.elim) (λh=>by(try dsimp only);rw[if_neg (by omega),if_pos (by omega)]))
   (λk u=>u.elim (λh=>h.elim) (λh=>by(try dsimp only);rw[if_pos (by omega)]))
   (λk u=>u.elim (λh=>h.elim) (λh=>by(try dsimp only);rw[if_neg (by omega),if_neg (by omega),if_pos (by omega)]))
   (λk u=>u.elim) (λk u=>u.elim) (.inr ⟨by omega,by omega⟩)
   (λk u=>u.elim (λh=>h.elim) (λh=>.inr ⟨by omega,by omega⟩)) (λk u=>u.elim (λh=>h.elim) (λh=>.inr ⟨by omega,by omega⟩)) (λk u=>u.elim (λh=>h.elim) (λh=>.inr ⟨by omega,by omega⟩)) (λk u=>u.elim) (λk u=>u.elim)
   (λk u=>u.elim (λh=>h.elim) (λh=>h.2))
  exact⟨⟨_,hm⟩,(C2.o.aA E.o.2).aA R⟩)
 go_wp2;go_ret2;exact⟨_,rfl,V.o _ rfl⟩
section
variable{cs cs':Array Value}{A:EAd}{w w' W:World}{F:Fp}{b:Nat}{e:Vi}{x:D7}{v:Value}
theorem V6.sentUp(h:V6 cs A w F b e){l:List D7}(u:Qxw w' v l)(B:Qc (λk=>A.ss.ownBlock=some k) w w')(E:v.ownBlock=A.ss.ownBlock\/v.ownBlock=some w.heap.size):
  V6 cs {A with ss:=v} w' (Qn F w w') b {e with sent:=l}/\Qc F w w':=by
 obtain⟨G,d,I,J,z⟩:=h.sentOf;have c:Qc G w w':=B.sub λk e=>d.2.1 k e;refine z w' v l ⟨u,λk q=>?_,d.2.2.ext c⟩ c;rcases E with e|e;·exact .inl (d.2.1 k (e.symm.trans q))
 .rw[e]at q;cases q;exact .inr ⟨Zv _,u.lt _ e⟩
theorem V6.ssNot(h:V6 cs A w F b e):A.ss.ownBlock≠some b:=λk=>by obtain⟨G,c,q,d,u⟩:=h.sentOf;exact d (c.2.1 b k)
theorem V6.gone(h:Qyf A w F b e)(c:Qc Qb w W)(d:Nat)(z:w'=(W.setCell ⟨b,7,none⟩ (.slice none 0 0)).setCell ⟨b,3,none⟩ (ZU d)):
  Qyf {A with us:=.slice none 0 0} w' F b {e with aM:=none,now:=d}/\Qc F w w':=by
 have q:=(V6.good (Qyg A e) A b e).bd h;have E:=h.aB c;have R:Qh w' b (Qyg {A with us:=.slice none 0 0} {e with aM:=none,now:=d}) 87:=by rw[z];exact(E.blk.1.set' 7 _ rfl).set' 3 _ rfl
 have I:Qc (λk=>k=b) W w':=by rw[z];exact((Zg (λk=>k=b) W).setCell (a:=⟨b,7,none⟩) _ (.inl rfl)).setCell (a:=⟨b,3,none⟩) _ (.inl rfl)
 have hz:w'.heap.size=W.heap.size:=by rw[z];simp[World.setCell]
 obtain⟨U,V⟩:=E.cells I R;have B:Qc F w w':=c.none.aA V;obtain⟨G,J,g2,g3,K⟩:=U.underOf;obtain⟨Z,q2⟩:=K w' (.slice none 0 0) none ⟨Own.nil _ _ _ _,nofun,λk u=>u.elim (J.2.2 k) (λh=>h.2)⟩ (Zg _ _);exact⟨Z.lift (λk u=>u.elim (λh=>h.elim id (λh=>by omega)) (λh=>by omega)) (q.later B),B⟩
theorem Q2b(x:D7){g:Nat}(h:Qh w g (Qxe x).toArray 51):Kb Qxe 8 w (some ⟨g,0,none⟩) [x]:=by
 intro i c;have:i=0:=by simpa using c
 subst this;exact⟨g,0,rfl,λj u d=>by rw[show 0+0*8+j=j by omega];exact h.at j (by simpa using d)⟩
def evA(k:Nat)(x:D7):Array Value:=#[.int .u8 k,ZU x.p.id,ZI x.p.cls,ZI x.p.len,ZU x.p.at_,.int .u8 x.rule,ZU x.frm,ZU x.til,ZU x.due]
theorem Q0e(h:Qxn w F b e){K:Nat}(ok:V4 K e)(hK:K<1099511627776)(hx:e.aM=some x)(hg:Ll x.p):ZW 44 #[ptr b] w (.agg (evA 2 x)) λw'=>Qxn w' (Qn F w w') b (e.through x)/\Qc F w w':=by
 obtain⟨A,h⟩:=h;have J:=(V6.good (Qyg A e) A b e).bd h;have Xg:b<w.heap.size:=h.blk.1.lt;obtain⟨W0,R⟩:=Zx (w.alloc (.cells ZH 53));obtain⟨W1,U⟩:=Zx (W0.alloc (.cells ZG 51));have C1:Hi (Qc Qb w W1):=O (by rw[U,R];exact((Zg _ _).alloc _).alloc _);have az:Hi (Qh W1 w.heap.size ZH 53):=O (by rw[U,R];exact(Qh.new' _ _ (by simp)).alloc _);have am:Qh W1 (w.heap.size+1) ZG 51:=by rw[U,R];exact Qh.new' _ _ (by simp)
 obtain⟨g,cap,aw,_,cs,hB,ay⟩:=Qxw.one (by obtain⟨G,hU,_⟩:=h.underOf;rw[hx]at hU;exact hU.1);obtain⟨W3,s3,ae,c3⟩:=Q0 (P:=prog) (vs:=(Qxe x).toArray) am rfl (λv hv=>sentT.one x v (by simpa using hv));have C3:Hi (Qc Qb w W3):=O (C1.o.trans c3 (λk e=>.inr (by omega)));have B3:=O ae;have a9:=O (c3.blk az.o (λe=>by omega));obtain⟨I,aa⟩:=Zx ((W3.setCell ⟨b,7,none⟩ (.slice none 0 0)).setCell ⟨b,3,none⟩ (ZU x.til));have Z:=O (h.gone C3.o x.til aa);have B5:Hi (Qh I (w.heap.size+1) (Qxe x).toArray 51):=O (by rw[aa];exact(ae.other _ (by show b≠w.heap.size+1;omega)).other _ (by show b≠w.heap.size+1;omega));have ba:Hi (Qh I w.heap.size ZH 53):=O (by rw[aa];exact(a9.o.other _ (by show b≠w.heap.size;omega)).other _ (by show b≠w.heap.size;omega));obtain⟨a0,a1,a2,a3,a4,a5,a6,a7,a8⟩:=Av (h.blk.1.alloc (.cells ZH 53));rw[aw]at a7;have bh:(Qxe x).toArray.size=8:=rfl;have HL:Hi ((w.alloc (.cells ZH 53)).rangeAt g 0 (Qxe x)):=O (λj u hu=>by rw[Nat.zero_add];exact(hB.alloc _).at j (ay j u hu));rw[U,R]at s3;have au:Qxw I A.ss e.sent:=by obtain⟨G,g1,_⟩:=Z.o.1.sentOf;exact g1.1
 obtain⟨d,E⟩:=Zx ((I.alloc (.cells (Qxe x).toArray 51)).drew);have C6:Hi (Qc Qb I d):=O (by rw[E];exact((Zg _ _).alloc _).drew);have ap:e.sent.length<1099511627776:=by obtain⟨N,_,h⟩:=ok.sok;omega
 obtain⟨v6,w6,ac,al,c6,ax⟩:=Qz0 sentT (P:=prog) 43 A.ss e.sent (au.aB C6.o (λk hk h=>h)) (some ⟨I.heap.size,0,none⟩) 1 [x] nofun
  (Q2b x (show Qh d I.heap.size (Qxe x).toArray 51 by rw[E];exact(Qh.new _ _ _).drew)) (by simp only[maxLen,List.length_singleton];omega) (by simp only[List.length_singleton];omega)
 obtain⟨z,m6,B,bg⟩:∃ad m c,v6=.slice ad m c:=by obtain⟨a,c,h,_⟩:=Own.row Qws al;exact⟨_,_,_,h⟩
 subst bg;have af:(Builtin.append_ #[43,43] 43 #[A.ss,.slice (some ⟨I.heap.size,0,none⟩) 1 1]).run prog d=.ok (.slice z m6 B) w6:=ac;have ah:Hi (Qc (λk=>A.ss.ownBlock=some k) I w6):=O (C6.o.none.aA c6);have av:w.heap.size+2<=d.heap.size:=Zp (by have:=B5.o.lt;omega) C6.o.size;have UP:Hi (∀q,q=w6.setCell ⟨b,8,none⟩ (.slice z m6 B)->∃V,Qyg V {e with aM:=none,now:=x.til,sent:=e.sent++[x]}=Qyg {A with us:=.slice none 0 0,ss:=.slice z m6 B} {e with now:=x.til}/\Qyf V q (Qn F d q) b {e with aM:=none,now:=x.til,sent:=e.sent++[x]}/\Qc F w q/\(∀k,w.heap.size<=k->k<w.heap.size+2->¬Qn F d q k)/\Qc F d q):=O (by
  rintro q rfl;obtain⟨p1,p2⟩:=(Z.o.1.aB C6.o).sentUp al c6 ax;obtain⟨q1,q2⟩:=p1.cells (cs':=Qyg {A with us:=.slice none 0 0,ss:=.slice z m6 B} {e with aM:=none,now:=x.til,sent:=e.sent++[x]}) ((Zg (λk=>k=b) w6).setCell (a:=⟨b,8,none⟩) (.slice z m6 B) (.inl rfl)) (p1.blk.1.set' 8 (.slice z m6 B) rfl);have cc:=p2.ext q2;have cw:=(Z.o.2.aA C6.o.none).aA cc;exact⟨_,rfl,q1.lift (Qn.trans p2.size q2.size) ((J.later ((Z.o.2.aA C6.o.none))).ext cc),cw,λk h1 h2 h3=>h3.elim (λh=>by have:=J k h;omega) (λh=>by omega),cc⟩)
 have bb:=O (λq(c:Qc F d q)=>Zt (c.blk (C6.o.blk ba.o (λh=>h)) (λh=>by have:=J _ h;omega)) (c.blk (C6.o.blk (show Qh I (w.heap.size+1) (ZM x) 51 from B5.o) (λh=>h)) (λh=>by have:=J _ h;omega)));have an:=O (show∀q V,Qyg V {e with aM:=none,now:=x.til,sent:=e.sent++[x]}=Qyg {A with us:=.slice none 0 0,ss:=.slice z m6 B} {e with now:=x.til}->Qyf V q (Qn F d q) b {e with aM:=none,now:=x.til,sent:=e.sent++[x]}->Qc F w q->(∀k,w.heap.size<=k->k<w.heap.size+2->¬Qn F d q k)->w.heap.size+2<=q.heap.size->
   ZW 81 #[ptr A.kb,.agg (ZL x.p)] q.drew (.tuple #[]) λw8=>(∀w9,Qc (λk=>w.heap.size<=k/\k<w.heap.size+2) w8 w9->Qxn w9 (Qn F w w9) b (e.through x)/\Qc F w w9)/\Qc (λk=>¬(w.heap.size<=k/\k<w.heap.size+2)) q w8 from by
  intro q V hA h7 c7 aq bk;have bf:ptr V.kb=ptr A.kb:=by have:=congrArg (λa:Array Value=>a[6]?) hA;simpa[Qyg]using this
  obtain⟨G,hB,hG,_,ar⟩:=(h7.aB (Zg Qb q).drew).bookOf;rw[<-bf];refine(Qz4 hB ok.book x.p hg).mono ?_;rintro r w8⟨rfl,be,c8⟩;obtain⟨m1,m2⟩:=ar w8 _ be c8;have m3:Qc (Qn F d q) q w8:=m2.aT;refine⟨rfl,λw9 c9=>?_,m3.sub λk hk ab=>aq k ab.1 ab.2 hk⟩;have hd:Jl (Qn (Qn F d q) q w8) (λk=>w.heap.size<=k/\k<w.heap.size+2):=λk hk ab=>hk.elim (λh=>aq k ab.1 ab.2 h) (λh=>by omega);have k1:=(V6.good _ V b _).aB (show V6 _ V w8 (Qn (Qn F d q) q w8) b (e.through x)from m1) c9 hd;have cc:Qc F w w9:=((c7.trans m3 λk hk=>hk.elim .inl (λh=>.inr (by omega)))).trans c9 λk hk=>.inr hk.1;exact⟨⟨V,k1.lift (λk hk=>hk.elim (λh=>h.elim .inl (λh=>.inr ⟨by omega,Nat.lt_of_lt_of_le h.2 (Zp m3.size c9.size)⟩)) (λh=>.inr ⟨by omega,Nat.lt_of_lt_of_le h.2 c9.size⟩)) (J.ext cc)⟩,cc⟩)
 have ag:=O (Zt (C3.o.blk h.blk.1 (λh=>h)).frozen (Ja (show Qh W3 (w.heap.size+1) (ZM x) 51 from ae)));have A3:=O (Av (C3.o.blk h.blk.1 (λh=>h)));have q1:¬b=w.heap.size+1:=by omega
 have q2:¬w.heap.size+1=b:=by omega
 have ao:Hi (d=(I.alloc (.cells (ZM x) 51)).drew):=O (E);have ac:=af;have bj:=O U;have bi:=O R;have bc:=O aa;clear h J ok hx E au ap af al c6 ax Xg R U am aw hB ay ae c3 aa;obtain⟨f3,g0,g1,g2,g3,g4,g5,g6,g7⟩:=ag.o;obtain⟨z0,z1,z2,z3,z4,z5,z6,z7,z8⟩:=A3.o;apply WH func44;go_wp2_with (with_reducible refine wpList_load_mid rfl 51 (.tmp 8) rfl g 0 rfl (Qxe x) _ HL.o underlying51 rfl (by kernel_rfl) ?_);rw[<-bc.o];clear f3 g0 g1 g2 g3 g4 g5 g6 g7 z0 z1 z2 z3 z4 z5 z6 z7 z8 s3 a0 a1 a2 a3 a4 a5 a6 a7 a8 bh;generalize(Qxe x).toArray=sa;obtain⟨g0,g1,g2,g3,g4,g5,g6,g7⟩:=Ja (show Qh I.drew (w.heap.size+1) (ZM x) 51 from B5.o.drew);obtain⟨z0,z1,z2,z3,z4,z5,z6,z7,z8⟩:=Av Z.o.1.blk.1.drew;apply XC 30022011111 (λk=>A.ss.ownBlock=some k) I;iterate 4 (refine Qy (h:=?_);try simp only[Act.put,Za,Zc,Zb])
 iterate 1 (apply YK λ_ hv=>Av (hv.blk Z.o.1.blk.1 (λh=>Z.o.1.ssNot h)))
 apply YA 0;go_wp2_with fail;rw[<-ao.o];refine⟨C6.o.none,?_⟩;refine Yb ?_;refine Lib.wpList_append_run _ rfl (.tmp 22) (.tmp 24) 43 43 rfl _ _ rfl rfl _ _ ac ?_;go_wp2_with fail;refine⟨ah.o,?_⟩;clear ac g0 g1 g2 g3 g4 g5 g6 g7 z0 z1 z2 z3 z4 z5 z6 z7 z8;obtain⟨z0,z1,z2,z3,z4,z5,z6,z7,z8⟩:=Av (ah.o.blk Z.o.1.blk.1 (λh=>Z.o.1.ssNot h));have f6:=(ah.o.blk Z.o.1.blk.1 (λh=>Z.o.1.ssNot h)).frozen;apply YI 0;clear z0 z1 z2 z3 z4 z5 z6 z7 z8 f6 ac;obtain⟨W7,ak⟩:=Zx (w6.setCell ⟨b,8,none⟩ (.slice z m6 B));rw[<-ak];obtain⟨V,aj,h7,c7,n7,ai⟩:=UP.o W7 ak;have EV:=O (bb.o W7 ai);have HC:=O (an.o W7 V aj h7 c7 n7 (Zp av ai.size));obtain⟨z0,z1,z2,z3,z4,z5,z6,z7,z8⟩:=Av (show Qh W7.drew b (Qyg {A with us:=.slice none 0 0,ss:=.slice z m6 B} {e with now:=x.til}) 87 from aj▸h7.blk.1.drew);obtain⟨g0,g1,g2,g3,g4,g5,g6,g7⟩:=Ja EV.o.2.drew;clear ak h7 c7 n7 ai aj;go_wp2_with fail;apply XB 2000000;apply YA 0;clear z0 z1 z2 z3 z4 z5 z6 z7 z8 g0 g1 g2 g3 g4 g5 g6 g7;go_wp2_with fail;apply Zo HC;rintro r w8⟨rfl,k8,c8⟩;have K8:=O k8;have E8:=O (c8.blk EV.o.1 (λh=>h ⟨Zv _,by omega⟩));have S8:=O (c8.blk EV.o.2 (λh=>h ⟨by omega,by omega⟩));clear k8 c8;go_wp2_with fail;refine Jo ?_;obtain⟨g0,g1,g2,g3,g4,g5,g6,g7⟩:=Ja S8.o;obtain⟨z0,z1,z2,z3,z4,z5,z6,z7,z8⟩:=Av E8.o;have f8:=E8.o.frozen;have bd:Hi (∀k,k=w.heap.size->w.heap.size<=k/\k<w.heap.size+2):=O (λk e=>by omega);go_wp2_with fail;refine bodyPost_ret (v:=.agg (evA 2 x)) (by unfold evA;rw[Lv (p:=2) (ty:=53) (by kernel_rfl)];go_simp;try rfl) rfl ⟨rfl,K8.o _ ?_⟩;iterate 9 (with_reducible refine Qc.setCell ?_ _ (Or.inl (bd.o _ rfl)))
 exact Zg _ _
end
section
variable{w W:World}{F:Fp}{b rb:Nat}{bk:V1}{p:Jr}
theorem Q0c(h:Qau w F b bk)(ok:BOk bk)(p:Jr)(hg:Ll p)(d:Nat)(hr:d=1\/d=2):ZW 84 #[ptr b,.agg (ZL p),.int .u8 d] w (.tuple #[]) λw'=>Qau w' (Qn F w w') b (bk.tell p.cls (Qwn p d))/\Qc F w w':=by
 have q:=(Qzp hg).2;obtain⟨n,I⟩:=Zx (Qx0 p.len);have B:Hi (∀W rb,Qc Qb w W->w.heap.size<=rb->Qh W rb #[.func (.func (M3 (if d=1 then 4 else 5))) #[] #[],ZU n,.bool false,.func (.func (M3 6)) #[] #[],ZU 1,.bool true,.func (.func (M3 7)) #[] #[],ZU n,.bool true] 181->
   ZW 110 #[ZP b,ZI p.cls,.slice (some ⟨rb,0,none⟩) 3 3] W (.tuple #[]) λw'=>Qau w' (Qn F w w') b (bk.tell p.cls (Qwn p d))/\Qc F w w'):=O (λW rb c J hB=>Qzg h ok c p.cls (Qwn p d) hB (by rw[I];rfl) J (λx hx=>by
  simp only[Qwn,Zu,List.not_mem_nil,or_false]at hx;rcases hx with rfl|rfl|rfl;·refine⟨?_,by dsimp only;omega⟩;dsimp only;split<;>omega
  .exact⟨by dsimp only;omega,by dsimp only;omega⟩
  .exact⟨by dsimp only;omega,by dsimp only;omega⟩) (show 3<=8 by decide) 3 rfl 3)
 have k:=O (λW=>Qy3 p hg W);rw[<-I]at k;obtain⟨W,z⟩:=Zx (w.alloc (.cells (ZL p) 31));have V:Hi (Qc Qb w W):=O (by rw[z];exact(Zg _ _).alloc _);have E:Hi (Qh W w.heap.size (ZL p) 31):=O (by rw[z];exact Qh.new _ _ _);clear h ok q I;rcases hr with rfl|rfl;all_goals
  first
  |rw[if_pos rfl]at B
  |rw[if_neg (by decide)]at B
  apply WH func84;go_wp2_with fail;rw[<-z];clear z;have g0:=X9 (E.o.drew);apply YC [100,101,102,103,4,107,108,205,106,209,10,211,312] Qb W;iterate 2 (refine Qy (h:=?_);try simp only[Act.put,Za,Zc,Zb])
  iterate 1 (apply YK λ_ R=>X9 (R.blk E.o (λh=>h)))
  (refine Qy (h:=?_);try simp only[Act.put,Za,Zc,Zb]);refine Xe (h:=?_)
  (refine Qy (h:=?_);try simp only[Act.put,Za,Zc,Zb]);iterate 1 (apply YK λ_ R=>X9 (R.blk E.o (λh=>h)))
  clear g0;refine Yb ?_;go_wp2_with fail;apply Z9 (k.o _) (λ_ c2=>(Zg Qb W).drew.aA c2);intro w2 Z;go_wp2_with fail;refine⟨Z.o,?_⟩;apply YA 0;go_wp2_with fail;apply Z9 (k.o _) (λ_ c3=>Z.o.aA c3);intro w3 u;go_wp2_with fail;refine⟨u.o,?_⟩;apply YA 0;go_wp2_with fail;refine⟨u.o.alloc _,?_⟩;refine Km ?_;go_wp2_with fail;apply ZD (B.o _ w3.heap.size (V.o.aA (u.o.alloc _)) (Zp V.o.size u.o.size) (Qh.new _ _ _));intro w4 K;go_wp2_with fail;refine Ky ?_;exact WD K
end
section
theorem Q2r(o:Option ChM):∀v∈(Bq o).toList,v.oneCell'=true:=by
 cases o with
 |none=>exact Iy _ _ _
 |some c=>exact Iy _ _ _
theorem Q2m(o:Option ChM):(Bq o).size=6:=by cases o<;>rfl
attribute [local go_sem] Q2m
def evO:Option EvM->Array Value
 |none=>#[.int .u8 0,ZU 0,ZI 0,ZI 0,ZU 0,.int .u8 0,ZU 0,ZU 0,ZU 0]
 |some c=>evA c.kind c.x
theorem Q2g(l:V2)(now:Nat)(h:1<=l.rate):l.from_ now<=now*l.rate:=by
 unfold V2.from_;split;·rename_i c;rw[Zw,decide_eq_true_eq]at c;rw[c.2];unfold V2.aU;have d:=Nat.div_add_mod (l.taken+l.rate-1) l.rate;have k:=Nat.mod_lt (l.taken+l.rate-1) (show l.rate>0 from h);rw[Nat.mul_comm]at d;omega
 .exact Zv _
section
variable{A:EAd}{w w' W V:World}{F F1:Fp}{b:Nat}{e:Vi}{x:D7}
theorem V6.last{cs:Array Value}{n:Nat}(h:V6 cs A V F1 b e)(z:cs=Qyg A e)(B:¬F1 n)(c:∀k,F1 k->F k\/(w.heap.size<=k/\k<V.heap.size))(u:Bd F w)(I:w.heap.size<=n)(cV:Qc F w V)(q:Qc (λk=>k=n) V w'):
  Qxn w' (Qn F w w') b e/\Qc F w w':=by
 subst z;have E:Qc F w w':=cV.trans q λk d=>.inr (by omega);exact⟨⟨A,((V6.good _ A b e).aB h q (λk d e=>B (e▸d))).lift (λk d=>(c k d).elim .inl λh=>.inr ⟨h.1,Nat.lt_of_lt_of_le h.2 q.size⟩) (u.ext E)⟩,E⟩
theorem Qxw.fresh(x:D7)(c:Qh w b (Qxe x).toArray 51):Qxw w (.slice (some ⟨b,0,none⟩) 1 1) [x]:=
 ⟨rfl,.inr ⟨b,1,(Qxe x).toArray,rfl,Nat.zero_le _,c,Zv _,by simp[maxLen],rfl,by simp[Jm,Qxe]⟩⟩
theorem V6.came(h:Qyf A w F b e)(x:D7)(u:w'=(w.alloc (.cells (Qxe x).toArray 51)).setCell ⟨b,7,none⟩ (.slice (some ⟨w.heap.size,0,none⟩) 1 1)):
  Qyf {A with us:=.slice (some ⟨w.heap.size,0,none⟩) 1 1} w' (Qn F w w') b {e with aM:=some x}/\Qc F w w':=by
 obtain⟨G,J,Z,g3,K⟩:=h.underOf;have c:Qc Qb w (w.alloc (.cells (Qxe x).toArray 51)):=(Zg _ _).alloc _;have q:Qh (w.alloc (.cells (Qxe x).toArray 51)) w.heap.size (Qxe x).toArray 51:=Qh.new _ _ _;generalize w.alloc (.cells (Qxe x).toArray 51)=w1 at*;obtain⟨z,B⟩:=K w1 (.slice (some ⟨w.heap.size,0,none⟩) 1 1) (some x) ⟨Qxw.fresh x q,λk R=>by cases R;exact .inr ⟨Zv _,q.lt⟩,J.2.2.ext c⟩ c.none;have I:Qc (λk=>k=b) w1 w':=by rw[u];exact(Zg (λk=>k=b) w1).setCell (a:=⟨b,7,none⟩) _ (.inl rfl)
 obtain⟨U,E⟩:=z.cells (cs':=Qyg {A with us:=.slice (some ⟨w.heap.size,0,none⟩) 1 1} {e with aM:=some x}) I (by rw[u];exact z.blk.1.set' 7 _ rfl);have d:=B.ext E;exact⟨U.lift (Qn.trans B.size E.size) (((V6.good _ A b e).bd h).ext d),d⟩
theorem Qzm(h:Qxn w F b e){K:Nat}(ok:V4 K e)(hK:K<549755813000)(hu:e.aM=none):ZW 46 #[ptr b] w (.tuple #[.agg (evO e.choose.1),.bool e.choose.1.isSome]) λw'=>Qxn w' (Qn F w w') b e.choose.2/\Qc F w w':=by
 obtain⟨A,h⟩:=h;obtain⟨N,bq,hN⟩:=ok.sok;have av:=(V6.good (Qyg A e) A b e).bd h;obtain⟨B,af⟩:=Zx (w.alloc (.cells ZH 53));have C0:Hi (Qc Qb w B):=O (by rw[af];exact(Zg _ _).alloc _);have a9:Hi (Qh B w.heap.size ZH 53):=O (by rw[af];exact Qh.new _ _ _);have h0:=h.aB C0.o;have bi:B.heap.size=w.heap.size+1:=by rw[af];simp
 have HB:=O h0.blk.1;obtain⟨G,ai⟩:∃G:Fp,G=λk=>F k/\k≠b:=⟨_,rfl⟩;have bj:¬G b:=by rw[ai];exact λh=>h.2 rfl
 have hG:∀k,G k->F k:=by rw[ai];exact λk h=>h.1
 have aq:Hi (∀w',Qc Qb B w'->ZW 25 #[ptr A.sb,ZU e.now] w' (.tuple #[.agg (Bq (e.sched.next e.now).1),.bool (e.sched.next e.now).1.isSome]) λaz=>Qyf A az (Qn F w' az) b {e with sched:=(e.sched.next e.now).2}/\Qc G w' az):=O (λw' cc=>by
  obtain⟨G',hS,bz,bk,U⟩:=(h0.aB cc).schedOf;refine(Pg hS bq (by omega) e.now).mono ?_;rintro r w2⟨rfl,h2,c2⟩;obtain⟨m1,m2⟩:=U w2 _ h2 c2;exact⟨rfl,m1,c2.sub λk d=>by rw[ai];exact⟨bz k d,λe=>bk (e▸d)⟩⟩)
 have NG:Hi (∀k,w.heap.size<=k->¬F k):=O (λk d b0=>by have:=av _ b0;omega);have J:=O hG;have bb:=O av;have ar:=O bi;have CH:=O (ok.choose hu);have RT:=O (Zt (show Qy9 e.link from⟨by rw[ok.lrate];exact ok.rate,ok.taken⟩) (Zt (Zp ok.now ok.hor.2) (Zt (show e.link.from_ e.now<=1152921504606846976 from Zp (Q2g _ _ (by rw[ok.lrate];exact ok.rate.1)) (by rw[ok.lrate];exact Zp (Nat.mul_le_mul (Zp ok.now ok.hor.2) ok.rate.2) (by decide))) ok.book)));obtain⟨o,ho⟩:=Zx ((e.sched.next e.now).1);obtain⟨s1,ax⟩:=Zx ((e.sched.next e.now).2);rw[<-ho,<-ax]at aq;have HO:=O (Zt ho ax);have bu:=O af;clear ho ax bi;have a0:=Av h0.blk.1;have ab:=O (λ(w')(c:Qc G B w')=>Av (c.blk HB.o bj));clear h h0 bj hG ai av bq hN ok af hu;apply WH func46;go_wp2_with fail;rw[<-bu.o];go_cut [4,5] (λs4 s5 wz=>(∃r F1,s4=ZP r/\Qh wz r (Bq o) 70/\Qyf A wz F1 b {e with sched:=s1}/\¬F1 r/\¬F1 w.heap.size/\(∀k,F1 k->F k\/(w.heap.size<=k/\k<wz.heap.size))/\w.heap.size<r)/\s5=.bool o.isSome/\
  Qh wz w.heap.size ZH 53/\Qc F w wz)
 case first=>
  refine Ui (.lookp 0 (.lookp 1 (.lookp 2 (.lookp 3 (.lookp 4 (.lookp 5 (.lookp 6 (.lookp 7 (.fork 8 (.lookp 9 (.lookp 10 (.lookp 11 (.walk 12 (.walk 13 (.walk 14 .nil)))))) 12 (.walk 8 (.look 9 (.look 10 (.lookp 11 (.walk 13 (.walk 14 .nil))))))))))))))) (λz=>Qc (G) (B) z) Zq (by kernel_rfl) (λ_ _ _ _ _ h=>h) Z0 ?_;simp only[O0,Zf,Ze,Zd];iterate 3 (first|refine Vd (h:=?_)|refine Xi (h:=?_);try simp only[Act.put,Za,Zc,Zb])
  iterate 1 (apply YL λz E=>ab.o z E)
  iterate 3 (first|refine Vd (h:=?_)|refine Xi (h:=?_);try simp only[Act.put,Za,Zc,Zb])
  iterate 1 (apply YL λz E=>ab.o z E)
  clear a0;refine Gn ?_ ?_
  .go_wp2_with fail;refine(aq.o _ (Zg Qb B).drew).mono ?_;rintro r w2⟨rfl,h2,c2⟩;have C2:Hi (Qc G B w2):=O ((Zg G B).drew.aA c2);have H2:=O h2;clear h2 c2;go_wp2_with fail;refine⟨C2.o,?_⟩;iterate 3 (first|refine Vd (h:=?_)|refine Xi (h:=?_);try simp only[Act.put,Za,Zc,Zb])
   refine Xt ?_;go_wp2_with fail;refine⟨C2.o.alloc _,?_⟩;obtain⟨W3,s3,ae,C3⟩:=Q0 (P:=prog) (vs:=Bq o) (Qh.new w2 ZK 70) (Q2m o) (Q2r _);have D3:Hi (Qc G B W3):=O ((C2.o.alloc _).trans C3 (λk e=>.inr (by have:=C2.o.size;omega)));have N3:Hi (Qc Qb w2 W3):=O (((Zg Qb w2).alloc _).trans C3 (λk e=>.inr (by omega)));have an:=O ae;clear ae C3;refine Xt ?_;go_wp2_with fail;refine⟨D3.o,?_⟩;refine Xt ?_;go_wp2_with fail;refine⟨D3.o,?_⟩;refine U9 ?_;clear s3;go_wp2_with fail;go_meet;have cF:=C0.o.none.aA (D3.o.sub J.o);have I:=C2.o.size;have z2:=ar.o;have z3:=N3.o.size;exact⟨⟨_,Qn F B.drew w2,rfl,an.o,H2.o.aB N3.o,λd=>d.elim (λd=>NG.o _ (by omega) d) (λd=>by omega),λd=>d.elim (λd=>NG.o _ (Zv _) d) (λd=>by have:=d.1;simp only[World.size_drew]at this;omega),λk d=>d.elim .inl (λd=>.inr ⟨by have:=d.1;simp only[World.size_drew]at this;omega,by omega⟩),by omega⟩,rfl,D3.o.blk a9.o (λd=>NG.o _ (Zv _) (J.o _ d)),cF⟩
  .go_wp2_with fail;have CA:=O ((Zg Qb B).drew.alloc (.cells ZK 70));have BA:Hi (Qh (B.drew.alloc (.cells ZK 70)) B.heap.size ZK 70):=O (Qh.new B.drew _ _);refine⟨CA.o.mono (λk h=>h.elim),?_⟩;refine Xt ?_;go_wp2_with fail;refine(aq.o _ CA.o).mono ?_;rintro r w2⟨rfl,h2,c2⟩;have C2:Hi (Qc G B w2):=O ((CA.o.none (F:=G)).aA c2);have H2:=O h2;obtain⟨W3,s3,ae,C3⟩:=Q0 (P:=prog) (vs:=Bq o) (c2.blk BA.o (λd=>NG.o _ (by have:=ar.o;omega) (J.o _ d))) (Q2m o) (Q2r _);have an:=O ae;have N3:Hi (Qc (λk=>k=B.heap.size) w2 W3):=O (C3);have D3:Hi (Qc G B W3):=O (C2.o.trans C3 (λk e=>.inr (by omega)));clear h2 c2 ae C3;go_wp2_with fail;refine⟨C2.o,?_⟩;iterate 3 (first|refine Vd (h:=?_)|refine Xi (h:=?_);try simp only[Act.put,Za,Zc,Zb])
   refine Xt ?_;go_wp2_with fail;refine⟨D3.o,?_⟩;refine Xt ?_;go_wp2_with fail;refine⟨D3.o,?_⟩;refine U9 ?_;clear s3;go_wp2_with fail;go_meet;have cF:=C0.o.none.aA (D3.o.sub J.o);have I:=CA.o.size;have z2:=N3.o.size;have z3:=ar.o;have z4:=BA.o.lt;obtain⟨ba,be⟩:=Zx (B.drew.alloc (.cells ZK 70));have bc:=H2.o;rw[<-be]at bc I z4;have nr:¬Qn F ba w2 B.heap.size:=λd=>d.elim (λd=>NG.o _ (by omega) d) (λd=>by omega);exact⟨⟨_,Qn F ba w2,rfl,an.o,(V6.good _ A b _).aB bc N3.o (λk d e=>nr (e▸d)),nr,λd=>d.elim (λd=>NG.o _ (Zv _) d) (λd=>by omega),λk d=>d.elim .inl (λd=>.inr ⟨by omega,by omega⟩),by omega⟩,rfl,D3.o.blk a9.o (λd=>NG.o _ (Zv _) (J.o _ d)),cF⟩
 case rest=>
  obtain⟨⟨r,F1,rfl,hR,hA,nr,nE,Z,hr⟩,rfl,hE,cW⟩:=hcut;obtain⟨V,hV⟩:=Zx wc;rw[<-hV]at hR hA hE cW Z|-;clear hV a0;have HA:=O hA;have CW:=O cW;have NN:=O (Zt nr (Zt nE (Zt Z hr)));cases o with
  |none=>
   obtain⟨bd,ag⟩:e.choose=(none,e)/\({e with sched:=s1}:Vi)=e:=by
    obtain⟨h1,h2⟩:=HO.o;rcases CH.o with⟨hc,_⟩|⟨c,s,hc,_⟩
    .refine⟨hc,?_⟩;have h3:e.choose=(none,{e with sched:=s1}):=by
      have hp:e.sched.next e.now=(none,s1):=by rw[h1,h2]
      unfold Vi.choose;rw[hp]
     exact(Prod.mk.inj (h3.symm.trans hc)).2
    .rw[hc]at h1;cases h1
   rw[ag]at hA;have ao:=O bd;have ap:=O (λw'(c9:Qc (λk=>k=w.heap.size) V w')=>hA.last (w':=w') rfl nE Z bb.o (Zv _) cW c9);have z0:=Av hE;have fE:=hE.frozen;clear hR hA hE cW Z nr nE hr bd ag;go_wp2_with fail;rw[ao.o];refine bodyPost_ret (v:=.tuple #[.agg (evO none),.bool false]) (by unfold evO;rw[results_cell_tmp (p:=2) (u:=3) (ty:=53) (by kernel_rfl)];go_simp;try rfl) rfl ⟨rfl,ap.o _ ?_⟩;iterate 9 (with_reducible refine Qc.setCell ?_ _ (Or.inl rfl))
   exact Zg _ _
  |some c=>
   obtain⟨b1,ak,bf,bg,bh⟩:e.sched.next e.now=(some c,s1)/\e.choose=(some ⟨1,e.chosen c⟩,{e with sched:=s1,link:=e.link.send e.now c.p.len,aM:=some (e.chosen c),book:=e.book.tell c.p.cls (Qwn c.p c.rule)})/\e.link.sendE e.now c.p.len=0/\Ll c.p/\(c.rule=1\/c.rule=2):=by
    obtain⟨h1,h2⟩:=HO.o;have hp:e.sched.next e.now=(some c,s1):=by rw[h1,h2]
    rcases CH.o with⟨hc,_⟩|⟨c',s,hc,ak,_,_,hs,hg,hr,_⟩
    .have h3:e.choose=(some ⟨1,e.chosen c⟩,{e with sched:=s1,link:=e.link.send e.now c.p.len,aM:=some (e.chosen c),book:=e.book.tell c.p.cls (Qwn c.p c.rule)}):=by unfold Vi.choose;rw[hp]
     rw[h3]at hc;cases hc
    .rw[hp]at hc;cases hc;exact⟨hp,ak,hs,hg,hr⟩
   obtain⟨bl,bm,bo,bp⟩:=RT.o;have ao:=O ak;obtain⟨tl,ay⟩:=Zx (e.link.til e.now c.p.len);have bw:Hi (e.chosen c=⟨c.p,c.rule,e.now,tl,c.due⟩):=O (by unfold Vi.chosen;rw[ay]);have au:Hi (∀w1,Qc Qb V w1->ZW 83 #[ptr A.lb,ZU e.now,ZI c.p.len] w1 (.tuple #[ZU tl,ZI 0]) λw2=>Qyf A w2 (Qn F1 w1 w2) b {e with sched:=s1,link:=e.link.send e.now c.p.len}/\Qc F1 w1 w2):=O (λw1 c1=>by
    obtain⟨G,hL,_,_,U⟩:=(hA.aB c1).linkOf;rw[ay];refine(Q1b hL bl bf bm bo).mono ?_;rintro r w2⟨rfl,h2,c2⟩;obtain⟨m1,m2⟩:=U w2 _ h2 c2;exact⟨rfl,m1,m2⟩)
   have DR:=(Zg Qb V).drew;have z0:=Av (DR.blk hA.blk.1 (λh=>h));have r0:=Lf (show Qh V.drew r #[ZU c.p.id,ZI c.p.cls,ZI c.p.len,ZU c.p.at_,.int .u8 c.rule,ZU c.due] _ from DR.blk hR (λh=>h));have b2:=O ((V6.good _ A b _).bd hA);have ah:=O (Zt hR hE);have ac:=O (Zt bg (Zt bh bp));clear hR hA hE cW Z nr nE hr b1 ak bf bg bh bl bm bo bp ay DR;go_wp2_with fail;apply XC 32100200000000000 (λ_=>True) V;apply YA 0;clear z0 r0;go_wp2_with fail;refine(au.o _ (Zg Qb V).drew).mono ?_;rintro rr q⟨rfl,h4,c4⟩;have H4:=O (show Qyf A q (Qn F1 V q) b _ from h4);have C4:=O c4.aT;clear h4 c4;go_wp2_with fail;refine⟨C4.o.sub λ_ _=>trivial,?_⟩;apply YA 0;go_wp2_with fail;refine⟨C4.o.sub λ_ _=>trivial,?_⟩;apply YI 0;have R4:=O (C4.o.blk ah.o.1 NN.o.1);have E4:=O (C4.o.blk ah.o.2 NN.o.2.1);obtain⟨z0,I,z2,z3,z4,z5,z6,z7,z8⟩:=Av H4.o.blk.1;obtain⟨r0,r1,r2,r3,r4,r5⟩:=Lf (show Qh q r #[ZU c.p.id,ZI c.p.cls,ZI c.p.len,ZU c.p.at_,.int .u8 c.rule,ZU c.due] _ from R4.o);have aa:=O (λ(z)(E:Qc Qb q z)=>Zt (Av (E.blk H4.o.blk.1 (λh=>h))) (Lf (show Qh z r #[ZU c.p.id,ZI c.p.cls,ZI c.p.len,ZU c.p.at_,.int .u8 c.rule,ZU c.due] _ from E.blk R4.o (λh=>h))));go_wp2_with fail;apply XC 32111111111111 Qb q
   (refine Qy (h:=?_);try simp only[Act.put,Za,Zc,Zb]);iterate 1 (refine Qy (by kernel_rfl) (λz E=>by(obtain⟨⟨z0,I,z2,z3,z4,z5,z6,z7,z8⟩,r0,r1,r2,r3,r4,r5⟩:=aa.o z E);go_simp;try rfl) ?_;try simp only[Act.put,Za,Zc,Zb])
   (refine Qy (h:=?_);try simp only[Act.put,Za,Zc,Zb]);iterate 1 (refine Qy (by kernel_rfl) (λz E=>by(obtain⟨⟨z0,I,z2,z3,z4,z5,z6,z7,z8⟩,r0,r1,r2,r3,r4,r5⟩:=aa.o z E);go_simp;try rfl) ?_;try simp only[Act.put,Za,Zc,Zb])
   iterate 3 (refine Qy (h:=?_);try simp only[Act.put,Za,Zc,Zb])
   iterate 1 (refine Qy (by kernel_rfl) (λz E=>by(obtain⟨⟨z0,I,z2,z3,z4,z5,z6,z7,z8⟩,r0,r1,r2,r3,r4,r5⟩:=aa.o z E);go_simp;try rfl) ?_;try simp only[Act.put,Za,Zc,Zb])
   iterate 2 (refine Qy (h:=?_);try simp only[Act.put,Za,Zc,Zb])
   iterate 1 (refine Qy (by kernel_rfl) (λz E=>by(obtain⟨⟨z0,I,z2,z3,z4,z5,z6,z7,z8⟩,r0,r1,r2,r3,r4,r5⟩:=aa.o z E);go_simp;try rfl) ?_;try simp only[Act.put,Za,Zc,Zb])
   apply YA 0;clear z0 I z2 z3 z4 z5 z6 z7 z8 r0 r1 r2 r3 r4 r5;go_wp2_with fail;refine⟨(Zg Qb q).drew.alloc _,?_⟩;apply YI 0;obtain⟨W6,aj⟩:=Zx ((q.alloc (.cells #[ZU c.p.id,ZI c.p.cls,ZI c.p.len,ZU c.p.at_,.int .u8 c.rule,ZU e.now,ZU tl,ZU c.due] 51)).drew);rw[<-aj];have C6:Hi (Qc Qb q W6):=O (by rw[aj];exact((Zg _ _).alloc _).drew);have S6:Hi (Qh W6 q.heap.size #[ZU c.p.id,ZI c.p.cls,ZI c.p.len,ZU c.p.at_,.int .u8 c.rule,ZU e.now,ZU tl,ZU c.due] 51):=O (by rw[aj];exact(Qh.new _ _ _).drew);have H6:=O (H4.o.aB C6.o);have SZ:Hi (q.heap.size+1<=W6.heap.size):=O (S6.o.lt);obtain⟨W7,aw⟩:=Zx ((W6.alloc (.cells #[ZU c.p.id,ZI c.p.cls,ZI c.p.len,ZU c.p.at_,.int .u8 c.rule,ZU e.now,ZU tl,ZU c.due] 51)).setCell ⟨b,7,none⟩ (.slice (some ⟨W6.heap.size,0,none⟩) 1 1));have bv:=O aw;have H7:=O (H6.o.came ⟨c.p,c.rule,e.now,tl,c.due⟩ (w':=W7) aw);have br:Hi (∀k,Qn F1 V q k->k<q.heap.size):=O ((V6.good _ A b _).bd H4.o);have N7:Hi ((∀k,k<W6.heap.size->¬Qn F1 V q k->¬Qn (Qn F1 V q) W6 W7 k)):=O (λk h1 h2 h3=>h3.elim h2 (λh=>by omega));have R:Hi (r<V.heap.size/\w.heap.size<V.heap.size/\V.heap.size<=q.heap.size):=O (⟨ah.o.1.lt,ah.o.2.lt,C4.o.size⟩);have M4:Hi (¬Qn F1 V q r/\¬Qn F1 V q w.heap.size/\¬Qn F1 V q q.heap.size):=O (⟨λh=>h.elim NN.o.1 (λh=>by have:=R.o.1;omega),λh=>h.elim NN.o.2.1 (λh=>by have:=R.o.2.1;omega),λh=>by have:=br.o _ h;omega⟩);have M7:Hi (¬Qn (Qn F1 V q) W6 W7 r/\¬Qn (Qn F1 V q) W6 W7 w.heap.size/\¬Qn (Qn F1 V q) W6 W7 q.heap.size):=O (by
    have h1:=R.o;have h2:=SZ.o;exact⟨N7.o _ (by omega) M4.o.1,N7.o _ (by omega) M4.o.2.1,N7.o _ (by omega) M4.o.2.2⟩)
   have R7:=O (H7.o.2.blk (C6.o.blk R4.o (λh=>h)) M4.o.1);have E7:=O (H7.o.2.blk (C6.o.blk E4.o (λh=>h)) M4.o.2.1);have S7:=O (H7.o.2.blk S6.o M4.o.2.2);have bt:Hi (ZW 84 #[ptr A.kb,.agg (ZL c.p),.int .u8 c.rule] W7.drew (.tuple #[]) λw8=>Qyf {A with us:=(.slice (some ⟨W6.heap.size,0,none⟩) 1 1)} w8 (Qn (Qn (Qn F1 V q) W6 W7) W7 w8) b {e with sched:=s1,link:=e.link.send e.now c.p.len,aM:=some ⟨c.p,c.rule,e.now,tl,c.due⟩,book:=e.book.tell c.p.cls (Qwn c.p c.rule)}/\Qc (Qn (Qn F1 V q) W6 W7) W7 w8):=O (by
    obtain⟨G,hB,_,_,U⟩:=(H7.o.1.aB (Zg Qb W7).drew).bookOf;refine(Q0c hB ac.o.2.2 c.p ac.o.1 c.rule ac.o.2.1).mono ?_;rintro r w8⟨rfl,h8,c8⟩;obtain⟨m1,m2⟩:=U w8 _ h8 c8;exact⟨rfl,m1,m2.aT⟩)
   have t0:=Ja S6.o;have z0:=Av (H6.o.blk.1.alloc (.cells #[ZU c.p.id,ZI c.p.cls,ZI c.p.len,ZU c.p.at_,.int .u8 c.rule,ZU e.now,ZU tl,ZU c.due] 51));have fb:=(H6.o.blk.1.alloc (.cells #[ZU c.p.id,ZI c.p.cls,ZI c.p.len,ZU c.p.at_,.int .u8 c.rule,ZU e.now,ZU tl,ZU c.due] 51)).frozen;clear aj aw;go_wp2_with fail;rw[<-bv.o];clear t0 z0 fb;have z0:=Av H7.o.1.blk.1.drew;have r0:=Lf (show Qh W7.drew r #[ZU c.p.id,ZI c.p.cls,ZI c.p.len,ZU c.p.at_,.int .u8 c.rule,ZU c.due] _ from R7.o.drew);apply XB 200000000;apply YA 0;clear z0 r0;go_wp2_with fail;apply Zo bt;rintro rr w8⟨rfl,h8,c8⟩;have S8:=O (c8.blk S7.o M7.o.2.2);have E8:=O (c8.blk E7.o M7.o.2.1);have al:Hi (∀k,Qn F1 V q k->F k\/(w.heap.size<=k/\k<q.heap.size)):=O (λk h=>h.elim (λh=>(NN.o.2.2.1 k h).elim .inl (λh=>.inr ⟨h.1,by have:=R.o;omega⟩)) (λh=>.inr ⟨by have:=R.o;omega,h.2⟩));have am:Hi (∀k,Qn (Qn F1 V q) W6 W7 k->F k\/(w.heap.size<=k/\k<W7.heap.size)):=O (λk h=>h.elim (λh=>(al.o k h).elim .inl (λh=>.inr ⟨h.1,by have:=SZ.o;have:=H7.o.2.size;omega⟩)) (λh=>.inr ⟨by have:=R.o;have:=SZ.o;omega,h.2⟩));have bs:Hi (Qc F w w8):=O (((((CW.o.trans C4.o (λk h=>(NN.o.2.2.1 k h).elim .inl (λh=>.inr h.1))).trans C6.o (λk h=>h.elim)).trans H7.o.2 (λk h=>(al.o k h).elim .inl (λh=>.inr h.1))).trans c8 (λk h=>(am.o k h).elim .inl (λh=>.inr h.1))));have ap:=O (λw'(c9:Qc (λk=>k=w.heap.size) w8 w')=>h8.last (w:=w) (F:=F) (w':=w') rfl (λh=>h.elim M7.o.2.1 (λh=>by have:=R.o;have:=SZ.o;have:=H7.o.2.size;omega)) (λk h=>h.elim (λh=>(am.o k h).elim .inl (λh=>.inr ⟨h.1,Nat.lt_of_lt_of_le h.2 c8.size⟩)) (λh=>.inr ⟨by have:=R.o;have:=SZ.o;have:=H7.o.2.size;omega,h.2⟩)) bb.o (Zv _) bs.o c9);clear h8 c8;go_wp2_with fail;refine Jo ?_;have t0:=Ja S8.o;have z0:=Av E8.o;have f8:=E8.o.frozen;go_wp2_with fail;rw[ao.o,bw.o];refine bodyPost_ret (v:=.tuple #[.agg (evO (some ⟨1,⟨c.p,c.rule,e.now,tl,c.due⟩⟩)),.bool true]) (by unfold evO evA;rw[results_cell_tmp (p:=2) (u:=3) (ty:=53) (by kernel_rfl)];go_simp;try rfl) rfl ⟨rfl,ap.o _ ?_⟩;iterate 9 (with_reducible refine Qc.setCell ?_ _ (Or.inl rfl))
   exact Zg _ _
end
end
section
variable{A:EAd}{w w' W V:World}{F F1:Fp}{b:Nat}{e:Vi}{x:D7}
theorem Qxn.last{n:Nat}(h:Qxn V F1 b e)(q:¬F1 n)(c:∀k,F1 k->F k\/(w.heap.size<=k/\k<V.heap.size))(d:Bd F w)(z:w.heap.size<=n)(cV:Qc F w V)(u:Qc (λk=>k=n) V w'):
  Qxn w' (Qn F w w') b e/\Qc F w w':=by
 obtain⟨A,h⟩:=h;exact h.last rfl q c d z cV u
theorem Qxn.last'{n:Nat}(h:Qxn V (Qn F W V) b e)(c:Qc F W V)(d:Bd F w)(B:w.heap.size<=n)(E:n<W.heap.size)(u:Qc F w W)(z:Qc (λk=>k=n) V w'):
  Qxn w' (Qn F w w') b e/\Qc F w w':=by
 refine h.last (n:=n) (λq=>q.elim (λh=>by have:=d _ h;omega) (λh=>by omega)) (λk q=>q.elim .inl λh=>.inr ⟨Zp u.size h.1,h.2⟩) d B (u.aA c) z
theorem Qyf.later(h:Qyf A w F b e)(t:Nat):Qyf A (w.setCell ⟨b,3,none⟩ (ZU t)) (Qn F w (w.setCell ⟨b,3,none⟩ (ZU t))) b {e with now:=t}/\Qc F w (w.setCell ⟨b,3,none⟩ (ZU t)):=by obtain⟨c,d⟩:=V6.cells (cs':=Qyg A {e with now:=t}) h ((Zg (λk=>k=b) w).setCell (a:=⟨b,3,none⟩) _ (.inl rfl)) (h.blk.1.set' 3 _ rfl);exact⟨c,d⟩
theorem Qzi(h:Qxn w F b e){K:Nat}(ok:V4 K e)(hK:K<549755813000)(hg:∀x,e.aM=some x->Ll x.p)(til:Nat):ZW 18 #[ptr b,ZU til] w (.tuple #[.agg (evO (e.step til).1),.bool (e.step til).1.isSome]) λw'=>Qxn w' (Qn F w w') b (e.step til).2/\Qc F w w':=by
 obtain⟨A,h⟩:=h;have ay:=(V6.good (Qyg A e) A b e).bd h;obtain⟨W0,ak⟩:=Zx (w.alloc (.cells ZH 53));have C0:Hi (Qc Qb w W0):=O (by rw[ak];exact(Zg _ _).alloc _);have an:Hi (Qh W0 w.heap.size ZH 53):=O (by rw[ak];exact Qh.new _ _ _);have H0:=O (h.aB C0.o);have HN:=O (Qyv H0.o.blk.1);have d:=O ay;have ax:=O ak;have OK:=O ok;clear h ay ak ok;cases hs:e.stopped with
 |true=>
  have ba:e.step til=(none,e):=by unfold Vi.step;rw[if_pos hs]
  rw[ba];rw[hs]at HN;clear hs ba;apply WH func18;go_wp2_with fail;rw[<-ax.o];apply Zo HN;rintro r w1⟨rfl,c1⟩;have z0:=Av (c1.blk an.o (λh=>h));have fE:=(c1.blk an.o (λh=>h)).frozen;have z:=O (λw'(c9:Qc (λk=>k=w.heap.size) w1 w')=>V6.last (w:=w) (w':=w') (H0.o.aB c1) rfl (λh=>by have:=d.o _ h;omega) (λk h=>.inl h) d.o (Zv _) (C0.o.none.aA c1.none) c9);clear c1;go_wp2_with fail;refine bodyPost_ret (v:=.tuple #[.agg (evO none),.bool false]) (by unfold evO;rw[results_cell_tmp (p:=4) (u:=5) (ty:=53) (by kernel_rfl)];go_simp;try rfl) rfl ⟨rfl,z.o _ ?_⟩;iterate 9 (with_reducible refine Qc.setCell ?_ _ (Or.inl rfl))
  exact Zg _ _
 |false=>
  rw[hs]at HN;have E1:min (max (til:Int) (e.now:Int)) (e.hor:Int)=((e.clip til:Nat):Int):=by unfold Vi.clip;omega
  have HS:=O hs;clear hs;obtain⟨B,aq⟩:=Zx (e.clip til);rw[<-aq]at E1;have R:=O aq;clear aq;apply WH func18;go_wp2_with fail;rw[<-ax.o];apply Zo HN;rintro r w1⟨rfl,c1⟩;have C1:=O c1;have a0:=Av (H0.o.aB c1).blk.1.drew;clear c1;go_wp2_with fail;apply XB 2000000000000;apply YA 0;clear a0;go_wp2_with fail;refine Jo ?_;obtain⟨U,ap⟩:=Zx (w1.drew);have I:Hi (Qc Qb W0 U):=O (by rw[ap];exact C1.o.drew);rw[<-ap];clear ap E1;have H1:=O (H0.o.aB I.o);have J:=O (I.o.blk an.o (λh=>h));obtain⟨a0,a1,a2,a3,a4,a5,a6,a7,a8⟩:=Av H1.o.blk.1;cases hu:e.aM with
  |some x=>
   obtain⟨g,cap,ag,_,cs,hB,au⟩:=Qxw.one (by obtain⟨G,hU,_⟩:=H1.o.underOf;rw[hu]at hU;exact hU.1);rw[ag]at a7;have g6:U.cell? ⟨g,6,none⟩=some (ZU x.til):=hB.at 6 (au 6 _ rfl);by_cases hx:x.til<=B
   .have d1:decide ((x.til:Int)<=(B:Int))=true:=by simp;omega
    have d2:decide (x.til<=B)=true:=by simp;omega
    have E:Hi (e.step til=(some ⟨2,x⟩,e.through x)):=O (by unfold Vi.step;rw[if_neg (by rw[HS.o];exact Bool.false_ne_true),hu];dsimp only;rw[if_pos (by rw[<-R.o];exact hx)]);have bd:=O (Q0e ⟨A,H1.o⟩ OK.o (by omega) hu (hg x hu));unfold evA ptr at*;clear hu ag hB au hx;go_wp2_with fail;apply Zo bd;rintro r w2⟨rfl,h2,c2⟩;have z:=O (λw'(c9:Qc (λk=>k=w.heap.size) w2 w')=>h2.last' (w':=w') c2 d.o (Zv _) J.o.lt (C0.o.aA I.o).none c9);have aa:=c2.blk J.o (λh=>by have:=d.o _ h;omega);have z0:=Av aa;have fE:=aa.frozen;clear h2 c2 aa a0 a1 a2 a3 a4 a5 a6 a7 a8 g6;go_wp2_with fail;rw[E.o];refine bodyPost_ret (v:=.tuple #[.agg (evO (some ⟨2,x⟩)),.bool true]) (by unfold evO evA;rw[results_cell_tmp (p:=4) (u:=5) (ty:=53) (by kernel_rfl)];go_simp;try rfl) rfl ⟨rfl,z.o _ ?_⟩;iterate 9 (with_reducible refine Qc.setCell ?_ _ (Or.inl rfl))
    exact Zg _ _
   .have d1:decide ((x.til:Int)<=(B:Int))=false:=by simp;omega
    have d2:decide (x.til<=B)=false:=by simp;omega
    have E:Hi (e.step til=(none,{e with now:=B})):=O (by unfold Vi.step;rw[if_neg (by rw[HS.o];exact Bool.false_ne_true),hu];dsimp only;rw[if_neg (by rw[<-R.o];exact hx),<-R.o]);obtain⟨h2,c2⟩:=Qyf.later H1.o B;have z:=O (λw'(c9:Qc (λk=>k=w.heap.size) (U.setCell ⟨b,3,none⟩ (ZU B)) w')=>Qxn.last' (w':=w') ⟨A,h2⟩ c2 d.o (Zv _) J.o.lt (C0.o.aA I.o).none c9);have aa:=c2.blk J.o (λh=>by have:=d.o _ h;omega);have z0:=Av aa;have fE:=aa.frozen;have fb:=H1.o.blk.1.frozen;clear h2 c2 aa hu ag hB au hx;go_wp2_with fail;rw[E.o];refine bodyPost_ret (v:=.tuple #[.agg (evO none),.bool false]) (by unfold evO;rw[results_cell_tmp (p:=4) (u:=5) (ty:=53) (by kernel_rfl)];go_simp;try rfl) rfl ⟨rfl,z.o _ ?_⟩;iterate 9 (with_reducible refine Qc.setCell ?_ _ (Or.inl rfl))
    exact Zg _ _
  |none=>
   have HU:=O hu;obtain⟨ad,cap,ag,_⟩:=Own.row Qws (show Qxw U A.us e.aM.toList from by obtain⟨G,hU,_⟩:=H1.o.underOf;exact hU.1);rw[ag,hu]at a7;obtain⟨N,bb,_⟩:=OK.o.sok;have aw:Hi (∀w',Qc Qb U w'->ZW 17 #[ptr A.sb] w' (ZU ((e.sched.tick:Nat):Int)) λbe=>Qc Qb w' be):=O (λw' c=>by
    obtain⟨G,⟨AS,hS⟩,_⟩:=(H1.o.aB c).schedOf;exact Qbo hS bb)
   obtain⟨tk,am⟩:=Zx (e.sched.tick);obtain⟨Z,al⟩:=Zx (max e.now tk);rw[<-am]at aw;have E2:max (e.now:Int) (tk:Int)=(Z:Int):=by rw[al];omega
   have E3:min (Z:Int) (B:Int)=((min Z B:Nat):Int):=by omega
   have af:=O (show Z=max e.now e.sched.tick by rw[al,am]);have av:=O (λ(wv)(hv:Qc Qb U wv)=>Av (H1.o.aB hv).blk.1);have HT:=O (Zt am al);clear am al ag hu bb;go_wp2_with fail;apply XC 30200001111 Qb U;iterate 3 (refine Qy (h:=?_);try simp only[Act.put,Za,Zc,Zb])
   iterate 1 (apply YK λwv hv=>av.o wv hv)
   apply YA 0;clear a0 a1 a2 a3 a4 a5 a6 a7 a8;go_wp2_with fail;refine(aw.o _ (Zg Qb U).drew).mono ?_;rintro r w2⟨rfl,c2⟩;have C2:Hi (Qc Qb U w2):=O (c2.aT);clear c2;go_wp2_with fail;refine⟨C2.o,?_⟩;apply YI 0;obtain⟨W2,az⟩:=Zx w2;rw[<-az]at C2|-;clear az E2;have H2:=O (H1.o.aB C2.o);have z0:=Av H2.o.blk.1;by_cases ht:e.now<tk
   .have d1:decide ((e.now:Int)<(Z:Int))=true:=by have q:=HT.o;simp;omega
    have d2:decide (e.now<Z)=true:=by have q:=HT.o;simp;omega
    have ao:Hi (e.idle B={e with link:=e.link.idle e.now,now:=min Z B}):=O (by unfold Vi.idle;rw[if_pos (by rw[<-HT.o.1];exact ht),<-af.o]);have bc:Hi (ZW 45 #[ptr A.lb,ZU e.now] W2.drew (.tuple #[]) λw3=>Qyf A w3 (Qn F U w3) b {e with link:=e.link.idle e.now}/\Qc F U w3):=O (by
     obtain⟨G,hL,_,_,a9⟩:=(H2.o.aB (Zg Qb W2).drew).linkOf;refine(Q1a hL ⟨by rw[OK.o.lrate];exact OK.o.rate,OK.o.taken⟩ e.now).mono ?_;rintro r w3⟨rfl,h3,c3⟩;obtain⟨m1,m2⟩:=a9 w3 _ h3 c3;have cc:Qc F U w3:=C2.o.none.aA m2.aT;exact⟨rfl,m1.lift (Ke C2.o.size) ((d.o.later (C0.o.aA I.o)).ext cc),cc⟩)
    have x0:=Av H2.o.blk.1.drew;clear ht;go_wp2_with fail;apply XB 200000000;apply YA 0;clear x0 z0;go_wp2_with fail;apply Zo bc;rintro r wv⟨rfl,h3,c3⟩;have HV:=O (Zt h3 c3);clear h3 c3;go_wp2_with fail;refine Jo ?_;have z0:=Av HV.o.1.blk.1;have fb:=HV.o.1.blk.1.frozen;obtain⟨W5,ae⟩:=Zx (wv.setCell ⟨b,3,none⟩ (ZU ((min Z B:Nat):Int)));have ac:=O ae;have H5:Hi (Qxn W5 (Qn F U W5) b (e.idle B)/\Qc F U W5):=O (by
     obtain⟨h2,c2⟩:=Qyf.later HV.o.1 (min Z B);rw[<-ae]at h2 c2;have cc:=HV.o.2.ext c2;rw[ao.o];exact⟨⟨A,h2.lift (Qn.trans HV.o.2.size c2.size) ((d.o.later (C0.o.aA I.o)).ext cc)⟩,cc⟩)
    have ah:=O (H5.o.2.blk J.o (λh=>by have:=d.o _ h;omega));clear ae;by_cases hx:B<Z
    .have d3:=ZT (show B<Z by omega);have E:Hi (e.step til=(none,e.idle B)):=O (by unfold Vi.step;rw[if_neg (by rw[HS.o];exact Bool.false_ne_true),HU.o];dsimp only;rw[<-R.o,<-af.o,if_pos hx]);have z:=O (λw'(c9:Qc (λk=>k=w.heap.size) W5 w')=>H5.o.1.last' (w':=w') H5.o.2 d.o (Zv _) J.o.lt (C0.o.aA I.o).none c9);obtain⟨y0,y1,y2,y3,y4,y5,y6,y7,y8⟩:=Av ah.o;have fE:=ah.o.frozen;rw[ac.o]at y0 y1 y2 y3 y4 y5 y6 y7 y8 fE;rw[ac.o]at z;clear hx;go_wp2_with fail;rw[E.o];refine bodyPost_ret (v:=.tuple #[.agg (evO none),.bool false]) (by unfold evO;rw[results_cell_tmp (p:=4) (u:=5) (ty:=53) (by kernel_rfl)];go_simp;try rfl) rfl ⟨rfl,z.o _ ?_⟩;iterate 9 (with_reducible refine Qc.setCell ?_ _ (Or.inl rfl))
     exact Zg _ _
    .have d3:=ZN (show¬B<Z by omega);have E:Hi (e.step til=(e.idle B).choose):=O (by unfold Vi.step;rw[if_neg (by rw[HS.o];exact Bool.false_ne_true),HU.o];dsimp only;rw[<-R.o,<-af.o,if_neg hx]);have ai:=O (Qzm H5.o.1 (OK.o.idle HU.o (by rw[R.o];exact(Qwo OK.o til).1) (by rw[R.o];exact(Qwo OK.o til).2)) hK HU.o);obtain⟨ch,aj⟩:=Zx ((e.idle B).choose);rw[<-aj]at E ai;obtain⟨o,e'⟩:=ch;clear hx aj;go_wp2_with fail;rw[<-ac.o];clear z0 fb;apply Zo ai;rintro r w6⟨rfl,h6,c6⟩;have C6:=O (H5.o.2.ext c6);have H6:Hi (Qxn w6 (Qn F U w6) b e'):=O (Qxn.obj.more h6 (Qn.trans H5.o.2.size c6.size) ((d.o.later (C0.o.aA I.o)).ext C6.o));have z:=O (λw'(c9:Qc (λk=>k=w.heap.size) w6 w')=>H6.o.last' (w':=w') C6.o d.o (Zv _) J.o.lt (C0.o.aA I.o).none c9);have ab:=C6.o.blk J.o (λh=>by have:=d.o _ h;omega);have y0:=Av ab;have fE:=ab.frozen;clear h6 c6 ab;cases o with
     |none=>
      unfold evO;go_wp2_with fail;rw[E.o];refine bodyPost_ret (v:=.tuple #[.agg (evO none),.bool false]) (by unfold evO;rw[results_cell_tmp (p:=4) (u:=5) (ty:=53) (by kernel_rfl)];go_simp;try rfl) rfl ⟨rfl,z.o _ ?_⟩;iterate 9 (with_reducible refine Qc.setCell ?_ _ (Or.inl rfl))
      exact Zg _ _
     |some ev=>
      unfold evO evA;go_wp2_with fail;rw[E.o];refine bodyPost_ret (v:=.tuple #[.agg (evO (some ev)),.bool true]) (by unfold evO evA;rw[results_cell_tmp (p:=4) (u:=5) (ty:=53) (by kernel_rfl)];go_simp;try rfl) rfl ⟨rfl,z.o _ ?_⟩;iterate 9 (with_reducible refine Qc.setCell ?_ _ (Or.inl rfl))
      exact Zg _ _
   .have d1:decide ((e.now:Int)<(Z:Int))=false:=by have q:=HT.o;simp;omega
    have d2:decide (e.now<Z)=false:=by have q:=HT.o;simp;omega
    have ao:Hi (e.idle B={e with now:=min Z B}):=O (by unfold Vi.idle;rw[if_neg (by rw[<-HT.o.1];exact ht),<-af.o]);obtain⟨wv,ar⟩:=Zx W2;have HV:Hi (Qyf A wv (Qn F U wv) b e/\Qc F U wv):=O (by rw[ar];exact⟨H2.o.lift (λk h=>.inl h) ((d.o.later (C0.o.aA I.o)).ext C2.o),C2.o.none⟩);rw[<-ar];clear ht z0 ar;have z0:=Av HV.o.1.blk.1;have fb:=HV.o.1.blk.1.frozen;obtain⟨W5,ae⟩:=Zx (wv.setCell ⟨b,3,none⟩ (ZU ((min Z B:Nat):Int)));have ac:=O ae;have H5:Hi (Qxn W5 (Qn F U W5) b (e.idle B)/\Qc F U W5):=O (by
     obtain⟨h2,c2⟩:=Qyf.later HV.o.1 (min Z B);rw[<-ae]at h2 c2;have cc:=HV.o.2.ext c2;rw[ao.o];exact⟨⟨A,h2.lift (Qn.trans HV.o.2.size c2.size) ((d.o.later (C0.o.aA I.o)).ext cc)⟩,cc⟩)
    have ah:=O (H5.o.2.blk J.o (λh=>by have:=d.o _ h;omega));clear ae;by_cases hx:B<Z
    .have d3:=ZT (show B<Z by omega);have E:Hi (e.step til=(none,e.idle B)):=O (by unfold Vi.step;rw[if_neg (by rw[HS.o];exact Bool.false_ne_true),HU.o];dsimp only;rw[<-R.o,<-af.o,if_pos hx]);have z:=O (λw'(c9:Qc (λk=>k=w.heap.size) W5 w')=>H5.o.1.last' (w':=w') H5.o.2 d.o (Zv _) J.o.lt (C0.o.aA I.o).none c9);obtain⟨y0,y1,y2,y3,y4,y5,y6,y7,y8⟩:=Av ah.o;have fE:=ah.o.frozen;rw[ac.o]at y0 y1 y2 y3 y4 y5 y6 y7 y8 fE;rw[ac.o]at z;clear hx;go_wp2_with fail;rw[E.o];refine bodyPost_ret (v:=.tuple #[.agg (evO none),.bool false]) (by unfold evO;rw[results_cell_tmp (p:=4) (u:=5) (ty:=53) (by kernel_rfl)];go_simp;try rfl) rfl ⟨rfl,z.o _ ?_⟩;iterate 9 (with_reducible refine Qc.setCell ?_ _ (Or.inl rfl))
     exact Zg _ _
    .have d3:=ZN (show¬B<Z by omega);have E:Hi (e.step til=(e.idle B).choose):=O (by unfold Vi.step;rw[if_neg (by rw[HS.o];exact Bool.false_ne_true),HU.o];dsimp only;rw[<-R.o,<-af.o,if_neg hx]);have ai:=O (Qzm H5.o.1 (OK.o.idle HU.o (by rw[R.o];exact(Qwo OK.o til).1) (by rw[R.o];exact(Qwo OK.o til).2)) hK HU.o);obtain⟨ch,aj⟩:=Zx ((e.idle B).choose);rw[<-aj]at E ai;obtain⟨o,e'⟩:=ch;clear hx aj;go_wp2_with fail;rw[<-ac.o];clear z0 fb;apply Zo ai;rintro r w6⟨rfl,h6,c6⟩;have C6:=O (H5.o.2.ext c6);have H6:Hi (Qxn w6 (Qn F U w6) b e'):=O (Qxn.obj.more h6 (Qn.trans H5.o.2.size c6.size) ((d.o.later (C0.o.aA I.o)).ext C6.o));have z:=O (λw'(c9:Qc (λk=>k=w.heap.size) w6 w')=>H6.o.last' (w':=w') C6.o d.o (Zv _) J.o.lt (C0.o.aA I.o).none c9);have ab:=C6.o.blk J.o (λh=>by have:=d.o _ h;omega);have y0:=Av ab;have fE:=ab.frozen;clear h6 c6 ab;cases o with
     |none=>
      unfold evO;go_wp2_with fail;rw[E.o];refine bodyPost_ret (v:=.tuple #[.agg (evO none),.bool false]) (by unfold evO;rw[results_cell_tmp (p:=4) (u:=5) (ty:=53) (by kernel_rfl)];go_simp;try rfl) rfl ⟨rfl,z.o _ ?_⟩;iterate 9 (with_reducible refine Qc.setCell ?_ _ (Or.inl rfl))
      exact Zg _ _
     |some ev=>
      unfold evO evA;go_wp2_with fail;rw[E.o];refine bodyPost_ret (v:=.tuple #[.agg (evO (some ev)),.bool true]) (by unfold evO evA;rw[results_cell_tmp (p:=4) (u:=5) (ty:=53) (by kernel_rfl)];go_simp;try rfl) rfl ⟨rfl,z.o _ ?_⟩;iterate 9 (with_reducible refine Qc.setCell ?_ _ (Or.inl rfl))
      exact Zg _ _
end
section
open Go.Shelf
section
variable{A:EAd}{w w' W V:World}{F F1:Fp}{b:Nat}{e:Vi}{x:D7}
def evE(x:EvM):Array Value:=#[.agg (evA x.kind x.x)]
theorem Q15(n l s Be Bt b til:Nat)(hn:1<=n){K:Nat}(hK:K<549755813000)(U:Fp)(J:World->Prop)(hF:∀k,F k->k<s)(hU:∀k,U k->k<s/\¬F k)
  (hJ:∀A B,J A->Qc (λk=>¬U k/\k≠s/\k≠s+1) A B->J B)
  (hY:∀x A,J A->YieldAt Fence.wide (n-1) prog l (evE x) A λr B=>r=.returned (.bool true)/\J B/\Qc (λk=>U k\/k=s+1) A B)
  (W:World) (hW:s+2<=W.heap.size) (am:Qh W Be #[ptr b] 36) (an:Qh W Bt #[ZU til] 22) (h1:Be<s/\¬F Be/\¬U Be) (Z:Bt<s/\¬F Bt/\¬U Bt)
  (h:Qxn W F b e) (ok:V4 K e) (u:Fr e) (h0:J W):
  CallsIn Fence.wide n prog 123 #[.func (.yield l) #[] #[],ZP Be,ZP Bt] W λr W'=>(∃v,r=.returned v)/\J W'/\Qxn W' (Qn F W W') b (e.run til)/\Qc (λk=>F k\/U k\/k=s+1) W W':=by
 have ae:=Qxn.obj.bd h;have aq:Hi (∀wr d,V4 K d->Fr d->Qxn wr (Qn F W wr) b d->Qc (λk=>F k\/U k\/k=s+1) W wr->J wr->d.run til=e.run til->ZW 18 #[ptr b,ZU til] wr (.tuple #[.agg (evO (d.step til).1),.bool (d.step til).1.isSome]) λw2=>Qxn w2 (Qn F W w2) b (d.step til).2/\Qc (Qn F W wr) wr w2):=O (λwr d z u1 h1 c1 j1 hr=>by
  refine(Qzi h1 z hK u1 til).mono ?_;rintro r w2⟨rfl,Z,R⟩;exact⟨rfl,Qxn.obj.more Z (Qn.trans c1.size R.size) (λk E=>E.elim (λh=>Nat.lt_of_lt_of_le (ae k h) (Zp c1.size R.size)) (λh=>h.2)),R⟩)
 have HJ:=O hJ;have HY:=O hY;have ah:=O (Zt hF (Zt hU (Zt h1 (Zt Z hW))));have ak:=O (Zt am an);have q:Hi (Qxn W (Qn F W W) b e/\Fr e/\V4 K e/\J W):=O (⟨Qxn.obj.more h (λk h=>.inl h) (ae.ext (Zg Qb W)),u,ok,h0⟩);have al:=O ae;clear hJ hY hF hU h1 Z hW am an h ok u h0 ae;refine callsIn_of_wp func123 rfl trivial ?_ rfl;simp only[ntmps123,List.size_toArray,Zm,List.length_nil,Nat.reduceAdd,Nat.reduceSub,Array.replicate_succ,Array.replicate_zero,List.push_toArray,List.append_toArray,List.nil_append,List.cons_append];gi_wp2;gi_loopg [4] (e.left) (λk _ wr=>∃d:Vi,k=d.left/\V4 K d/\Fr d/\Qxn wr (Qn F W wr) b d/\Qc (λk=>F k\/U k\/k=s+1) W wr/\J wr/\d.run til=e.run til);case atStart=>exact⟨e,rfl,q.o.2.2.1,q.o.2.1,q.o.1,Zg _ _,q.o.2.2.2,rfl⟩
 case round=>
  obtain⟨d,rfl,z,u1,h1,c1,j1,hr⟩:=hrel;have I:=O (aq.o wr d z u1 h1 c1 j1 hr);obtain⟨hF,hU,af,ag,aj⟩:=ah.o;have y1:=Jf (c1.blk ak.o.1 (λh=>h.elim af.2.1 (λh=>h.elim af.2.2 (λh=>by omega))));have y2:=Jf (c1.blk ak.o.2 (λh=>h.elim ag.2.1 (λh=>h.elim ag.2.2 (λh=>by omega))));have SX:=z.step til;have ab:=G9 (e:=d) (til:=til);have ac:=λx=>P6 (e:=d) (til:=til) (x:=x) z;have ux:=u1.step z til;obtain⟨st,ai⟩:=Zx (d.step til);rw[<-ai]at I SX ab ac ux;obtain⟨o,e2⟩:=st;dsimp only at I SX ab ac ux;have aa:Hi (∀w2 wz,Qxn w2 (Qn F W w2) b e2->Qc (Qn F W wr) wr w2->Qc Qb w2 wz->J wz/\Qxn wz (Qn F W wz) b e2/\Qc (λk=>F k\/U k\/k=s+1) W wz):=O (by
   intro w2 wz Z R cz;have c3:Qc (Qn F W wr) wr wz:=R.trans cz λk h=>h.elim;obtain⟨p1,p2⟩:=Qxn.obj.same Z cz;refine⟨HJ.o wr wz j1 (c3.mono λk E=>.inl ?_),Qxn.obj.more p1 (Qn.trans (Zp c1.size R.size) cz.size) (λk E=>(al.o.ext ((c1.trans c3 (λk E=>E.elim (λh=>.inl (.inl h)) (λh=>.inr h.1))):Qc (λk=>F k\/U k\/k=s+1) W wz)) k E),c1.trans c3 λk E=>E.elim (λh=>.inl (.inl h)) (λh=>.inr h.1)⟩;exact E.elim (λh=>⟨λhu=>(hU k hu).2 h,by have:=hF k h;omega,by have:=hF k h;omega⟩) (λh=>⟨λhu=>by have:=(hU k hu).1;omega,by omega,by omega⟩))
  cases o with
  |none=> have HR:Hi (e2=e.run til):=O (by rw[<-hr];exact(ab rfl).symm);unfold evO at I;clear ai ab ac SX ux z u1 h1 c1 j1 hr hF hU af ag aj;gi_wp2_with (refine⟨trivial,?_⟩;gi_at_call 18;refine(callsIn_wide.2 I.o).mono ?_;rintro r w2⟨rfl,Z,R⟩);have ap:=O (aa.o w2 _ Z R ((Zg Qb w2).alloc (.cells ZH 53)));clear Z R;refine⟨λ_ h=>(by cases h),?_⟩;gi_wp2;refine WA rfl rfl ?_;rw[<-HR.o];exact⟨⟨_,rfl⟩,ap.o⟩
  |some c=>
   have HR:Hi (V4 K e2/\Fr e2/\e2.run til=e.run til/\e2.left<d.left):=O (⟨SX.1,ux,by rw[<-hr];exact(ac c rfl).symm,by have:=SX.2.1 c rfl;omega⟩);unfold evO evA at I;clear ai ab ac SX ux z u1 h1 c1 j1 hr hF hU af ag aj;gi_wp2_with (refine⟨trivial,?_⟩;gi_at_call 18;refine(callsIn_wide.2 I.o).mono ?_;rintro r w2⟨rfl,Z,R⟩;obtain⟨fn,au,ao,ar,hy,hR⟩:=HY.o c _ (aa.o w2 _ Z R ((Zg Qb w2).alloc (.cells #[.int .u8 c.kind,ZU c.x.p.id,ZI c.x.p.cls,ZI c.x.p.len,ZU c.x.p.at_,.int .u8 c.x.rule,ZU c.x.frm,ZU c.x.til,ZU c.x.due] 53))).1;have HB:=O hR;clear hR;unfold evE evA at hy);have N2:=O (aa.o w2 _ Z R ((Zg Qb w2).alloc (.cells #[.int .u8 c.kind,ZU c.x.p.id,ZI c.x.p.cls,ZI c.x.p.len,ZU c.x.p.at_,.int .u8 c.x.rule,ZU c.x.frm,ZU c.x.til,ZU c.x.due] 53)));clear Z R hy;refine HB.o.mono ?_;rintro r W3⟨rfl,j3,c3⟩;have C3:=O (N2.o.2.2.trans c3 λk E=>.inl (.inr E));have H3:Hi (Qxn W3 (Qn F W W3) b e2):=O (by
    obtain⟨_,hU,_,_,aj⟩:=ah.o;exact Qxn.obj.more (Qxn.obj.aB N2.o.2.1 c3 (λk E hu=>E.elim (λh=>hu.elim (λhu=>(hU k hu).2 h) (λe=>by have:=ah.o.1 k h;omega)) (λh=>hu.elim (λhu=>by have:=(hU k hu).1;omega) (λe=>by omega)))) (λk E=>E.elim .inl (λh=>.inr ⟨h.1,Nat.lt_of_lt_of_le h.2 c3.size⟩)) (al.o.ext C3.o))
   have J3:=O j3;clear j3 c3;gi_wp2;gi_roundg (e2.left);case measure=>exact HR.o.2.2.2
   case rel=>exact⟨e2,rfl,HR.o.1,HR.o.2.1,H3.o,C3.o,J3.o,HR.o.2.2.1⟩
end
end
section
open Go.Shelf
attribute [local go_sem] Oper.semAt_some
section
variable{A:EAd}{w w' W V:World}{F F1:Fp}{b:Nat}{e:Vi}{x:D7}
theorem Q1q(b til:Nat)(w):ZW 69 #[ptr b,ZU til] w (.func (.func 123) #[] #[ZP w.heap.size,ZP (w.heap.size+1)]) λw'=>w'=(w.alloc (.cells #[ptr b] 36)).alloc (.cells #[ZU til] 22):=by have k:∀(d:Fn)(c cap:Array Value)(w),(Instr.makeFunc d c cap).run prog w=.ok (.func d c cap) w:=λ_ _ _ _=>rfl;unfold ptr;apply WH func69;exact WE
theorem Qzr(h:Qxn w F b e){K:Nat}(ok:V4 K e)(hK:K<549755813000)(u:Fr e)(til:Nat):ZW 37 #[ptr b,ZU til] w (.tuple #[]) λw'=>Qxn w' (Qn F w w') b (e.run til)/\Qc F w w':=by
 have ab:=Qxn.obj.bd h;have HU:=O (Q1q b til);obtain⟨s,U⟩:=Zx (w.heap.size);obtain⟨d,E⟩:=Zx (((w.alloc (.cells #[ZI 0] 3)).alloc (.cells #[ptr b] 36)).alloc (.cells #[ZU til] 22));have C0:Hi (Qc Qb w d):=O (by rw[E];exact(((Zg _ _).alloc _).alloc _).alloc _);have ae:d.heap.size=s+3:=by rw[E,U];simp
 have B2:Hi (Qh d s #[ZI 0] 3):=O (by rw[E,U];exact((Qh.new' _ _ (by simp)).alloc _).alloc _);have B3:Hi (Qh d (s+1) #[ptr b] 36):=O (by rw[E,U];exact(Qh.new' _ _ (by simp)).alloc _);have B4:Hi (Qh d (s+1+1) #[ZU til] 22):=O (by rw[E,U];exact Qh.new' _ _ (by simp));have H0:=O (Qxn.obj.aB h C0.o (Jl.none F));have HF:Hi (∀k,F k->k<s):=O (λk I=>by rw[U];exact ab k I);have ac:=O ab;have OK:=O (Zt ok u);refine callsIn_wide (n:=9).1 ?_;unfold ptr at HU|-;clear h ok u ab;refine callsIn_of_wp_marks func37 rfl trivial ?_;simp only[ntmps37,List.size_toArray,Zm,List.length_nil,Nat.reduceAdd,Nat.reduceSub,Array.replicate_succ,Array.replicate_zero,List.push_toArray,List.append_toArray,List.nil_append,List.cons_append];gi_wp2_with (refine⟨trivial,?_⟩;gi_at_call 69;refine(callsIn_wide.2 (HU.o _)).mono ?_;rintro e w1⟨rfl,rfl⟩);unfold ptr at E;rw[<-U,<-E];have HS:=O U;have aa:=O ae;clear E U ae;refine Q0n (by decide) (gf:=123) (lb:=#[ZP (s+1),ZP (s+1+1)]) rfl (enters_of func123 (by kernel_rfl) rfl) evE (λ_=>rfl)
  (λk=>k=s) (λk I=>by have:=aa.o;omega) (λA=>∃i:Int,Qh A s #[ZI i] 3)
  (λW'=>Qxn W' (λk=>F k\/(d.heap.size+2<=k/\k<W'.heap.size)) b (e.run til)/\Qc (λk=>F k\/k=s\/k=d.heap.size+1) d W') ⟨0,B2.o⟩ (λA B⟨i,h⟩c=>⟨i,c.blk h (λh=>h rfl)⟩) ?hseq ?hbody ?hdone
 case hseq=>
  intro l J W cW hW hJ hY hj;have z:=aa.o;have bd:Bd F d:=ac.o.later C0.o;refine(Q15 (n:=9-1) (l:=l) (s:=d.heap.size) (Be:=s+1) (Bt:=s+1+1) (b:=b) (til:=til) (by decide) hK (λk=>k=s) J (λk I=>bd k I) (λk I=>⟨by omega,λh=>by have:=HF.o k h;omega⟩) hJ hY W hW
   (cW.blk B3.o (λh=>h)) (cW.blk B4.o (λh=>h)) ⟨by omega,λh=>(by have:=HF.o _ h;omega),by omega⟩ ⟨by omega,λh=>(by have:=HF.o _ h;omega),by omega⟩ (Qxn.obj.aB H0.o cW (Jl.none F)) OK.o.1 OK.o.2 hj).mono ?_
  rintro r W'⟨hv,ag,h',c'⟩;have cc:Qc (λk=>F k\/k=s\/k=d.heap.size+1) d W':=cW.none.aA c';exact⟨hv,ag,Qxn.obj.more h' (λk I=>I.elim .inl λh=>.inr ⟨by omega,h.2⟩) (λk I=>I.elim (λh=>Nat.lt_of_lt_of_le (bd k h) cc.size) (λh=>h.2)),cc⟩
 case hbody=> rintro l x A⟨i,hB⟩;have y0:=Jf hB;have yf:=hB.frozen 0;have Z:Hi (∀v:Int,(∃i:Int,Qh (A.setCell ⟨s,0,none⟩ (ZI v)) s #[ZI i] 3)/\Qc (λk=>k=s) A (A.setCell ⟨s,0,none⟩ (ZI v))):=O (λv=>⟨⟨v,hB.set' 0 _ rfl⟩,(Zg _ _).setCell _ (.inl rfl)⟩);clear hB;dsimp only[evE];gi_wp2;exact Z.o _
 case hdone=>
  rintro W' R⟨h1,c1⟩⟨i,hB⟩c2 hD;have z:=aa.o;have q:w.heap.size=s:=HS.o.symm;have hd:=O hD;have cc:Qc F w R:=(C0.o.none.trans c1 (λk I=>I.elim .inl (λh=>.inr (by omega)))).trans c2 (λk I=>.inr (by omega));have Z:Hi (Qxn (R.putObj d.heap.size (.deferred none)) (Qn F w (R.putObj d.heap.size (.deferred none))) b (e.run til)/\Qc F w (R.putObj d.heap.size (.deferred none))):=O (by
   have c3:=Ud cc (D:=d.heap.size) (by omega) (Z2.1 hD).1;have hz:Qc (λk=>k=d.heap.size+1\/k=d.heap.size) W' (R.putObj d.heap.size (.deferred none)):=(c2.sub (λk h=>.inl h)).grown (grownBy_putObj' R _ _) λk e=>.inl (.inr (by cases e;rfl));have h3:=Qxn.obj.aB h1 hz (λk I e=>I.elim (λh=>by have:=HF.o k h;omega) (λh=>by omega));exact⟨Qxn.obj.more h3 (λk I=>I.elim .inl (λh=>.inr ⟨by omega,Nat.lt_of_lt_of_le h.2 hz.size⟩)) (ac.o.ext c3),c3⟩)
  have af:=O (run_takeDeferred (P:=prog) hD);clear h1 c1 hB c2 cc hD z q;gi_wp2;refine⟨by simp,.inl ⟨_,_,rfl,af.o,?_⟩⟩;exact⟨.tuple #[],by simp[results,Tryz.results37,go_sem],rfl,Z.o⟩
end
end
section
variable{A:EAd}{w w' W V:World}{F F1:Fp}{b:Nat}{e:Vi}{x:D7}
theorem Q1x{s:Qf}{p:Jr}(h:s.aQ p=0):Ll p:=by obtain⟨_,_,_,_,c,_⟩:=Mk h;exact⟨c.1,by omega⟩
theorem Fr.came(u:Fr e)(q:Jr):Fr (e.came q):=u
theorem Qzs(h:Qxn w F b e){K:Nat}(ok:V4 K e)(hK:K+33<549755813000)(u:Fr e)(p:Jr):ZW 28 #[ptr b,.agg (ZL p)] w (ZI (e.arrE p)) λw'=>Qxn w' (Qn F w w') b (e.arr p)/\Qc F w w':=by
 obtain⟨A,h⟩:=h;have ar:=(V6.good (Qyg A e) A b e).bd h;obtain⟨W0,ae⟩:=Zx (w.alloc (.cells (ZL p) 31));have C0:Hi (Qc Qb w W0):=O (by rw[ae];exact(Zg _ _).alloc _);have ai:Hi (Qh W0 w.heap.size (ZL p) 31):=O (by rw[ae];exact Qh.new _ _ _);have H0:=O (h.aB C0.o);have HN:=O (Qyv H0.o.blk.1);have ab:=O ar;have ap:=O ae;have OK:=O (Zt ok u);rw[Qwb];unfold Vi.arrE;clear h ar ae ok u;cases hs:e.stopped with
 |true=> rw[hs]at HN;rw[if_pos rfl,if_pos rfl];have aq:=O (λw'(I:Qc Qb W0 w')=>(show Qxn w' (Qn F w w') b e/\Qc F w w' from⟨⟨A,(H0.o.aB I).lift (λk h=>.inl h) (ab.o.ext (C0.o.aA I))⟩,(C0.o.aA I).none⟩));clear hs;go_enter func28,ntmps28;go_wp2_with fail;rw[<-ap.o];refine Zo HN ?_;rintro r w1⟨rfl,c1⟩;have K:=O (aq.o w1 c1);clear c1;go_wp2;go_ret;exact⟨rfl,K.o⟩
 |false=>
  rw[hs]at HN;rw[if_neg Bool.false_ne_true,if_neg Bool.false_ne_true];clear hs;obtain⟨d,aa⟩:=Zx (e.run e.now);obtain⟨q,hq⟩:=Zx (e.arrP p);have HQ:Hi (q=⟨p.id,p.cls,p.len,(d.now:Int)⟩):=O (by rw[hq,aa];rfl);have J:Hi (V4 K d/\Fr d):=O (by rw[aa];exact⟨OK.o.1.run _,OK.o.2.run OK.o.1 _⟩);have HA:Hi (∀w1,Qc Qb W0 w1->ZW 37 #[ptr b,ZU e.now] w1 (.tuple #[]) λw2=>Qxn w2 (Qn F w1 w2) b d/\Qc F w1 w2):=O (λw1 c1=>by rw[aa];exact Qzr ⟨A,H0.o.aB c1⟩ OK.o.1 (by omega) OK.o.2 e.now);have AT:=O (λw1(c1:Qc Qb W0 w1)=>Av (H0.o.aB c1).blk.1);rw[<-aa,<-hq];obtain⟨er,ak⟩:=Zx (d.sched.aQ q);rw[<-ak];have ac:=O ak;clear aa hq ak;go_enter func28,ntmps28;go_wp2_with fail;rw[<-ap.o];refine Zo HN ?_;rintro r w1⟨rfl,c1⟩;have C1:=O c1;obtain⟨Z,a1,a2,U,a4,a5,a6,a7,a8⟩:=AT.o w1 c1;clear c1;go_wp2_with fail;clear Z a1 a2 U a4 a5 a6 a7 a8;refine(HA.o _ C1.o).mono ?_;rintro r w2⟨rfl,⟨R,h2⟩,c2⟩;have C2:=O c2;have H2:=O h2;have aj:=O (c2.blk (C1.o.blk ai.o (λh=>h)) (λh=>by have:=ab.o _ h;omega));clear h2 c2;obtain⟨z,af⟩:=Zx (w2.setCell ⟨w.heap.size,3,none⟩ (ZU d.now));have au:=O af;have NF:Hi (¬Qn F w1 w2 w.heap.size):=O (λh=>h.elim (λh=>by have:=ab.o _ h;omega) (λh=>by have:=ai.o.lt;have:=C1.o.size;omega));have C3:Hi (Qc (λk=>k=w.heap.size) w2 z):=O (by rw[af];exact(Zg (λk=>k=w.heap.size) w2).setCell (a:=⟨w.heap.size,3,none⟩) _ (.inl rfl));have H3:=O ((V6.good (Qyg R d) R b d).aB H2.o C3.o (λk hk e=>NF.o (e▸hk)));have al:Hi (Qh z w.heap.size #[ZU p.id,ZI p.cls,ZI p.len,ZU d.now] 31):=O (by rw[af];exact aj.o.set' 3 _ rfl);obtain⟨Z,a1,a2,U,a4,a5,a6,a7,a8⟩:=Av H2.o.blk.1;obtain⟨g0,g1,g2,g3⟩:=X9 aj.o;have fg:=aj.o.frozen;clear af;go_wp2_with fail;rw[<-au.o];clear Z a1 a2 U a4 a5 a6 a7 a8 g0 g1 g2 g3 fg;have ao:Hi (∀k,Qn F w1 w2 k->F k\/(w.heap.size<=k/\k<z.heap.size)):=O (λk h=>h.elim .inl (λh=>.inr ⟨by have:=ai.o.lt;have:=C1.o.size;omega,Nat.lt_of_lt_of_le h.2 C3.o.size⟩));have an:Hi (Qc F w z):=O (((C0.o.none.aA C1.o.none).aA C2.o).trans C3.o (λk e=>.inr (by omega)));have ag:Hi (∀w' e',Qxn w' (Qn (Qn F w1 w2) z w') b e'->Qc (Qn F w1 w2) z w'->Qxn w' (Qn F w w') b e'/\Qc F w w'):=O (λw' e' h c=>by
   have I:Qc F w w':=an.o.trans c λk h=>(ao.o k h).elim .inl (λh=>.inr h.1);exact⟨Qxn.obj.more h (λk hk=>hk.elim (λh=>(ao.o k h).elim .inl (λh=>.inr ⟨h.1,Nat.lt_of_lt_of_le h.2 c.size⟩)) (λh=>.inr ⟨by have:=an.o.size;omega,h.2⟩)) (ab.o.ext I),I⟩)
  have ah:=O ((V6.good (Qyg R d) R b d).bd H3.o);obtain⟨N,hN⟩:∃N,Xp N d.sched/\N<549755813000:=by obtain⟨N,h1,h2⟩:=J.o.1.sok;exact⟨N,h1,by omega⟩
  have av:Hi (d.now<18446744073709551616):=O (Nat.lt_of_le_of_lt (Zp J.o.1.now J.o.1.hor.2) (by decide));have HP:Hi (ZW 60 #[ptr R.sb,.agg #[ZU p.id,ZI p.cls,ZI p.len,ZU d.now],ZU d.now] z.drew (ZI (d.sched.aQ q)) λw4=>Qyf R w4 (Qn (Qn F w1 w2) z w4) b {d with sched:=d.sched.push q d.now}/\Qc (Qn F w1 w2) z w4):=O (by
   obtain⟨G,hS,_,_,B⟩:=(H3.o.aB (Zg Qb z).drew).schedOf;rw[HQ.o];refine(Qbn hS hN.1 hN.2 ⟨p.id,p.cls,p.len,(d.now:Int)⟩ d.now av.o).mono ?_;rintro r w4⟨rfl,h4,c4⟩;obtain⟨m1,m2⟩:=B w4 _ h4 c4;exact⟨rfl,m1,m2.aT⟩)
  obtain⟨Z,a1,a2,U,a4,a5,a6,a7,a8⟩:=Av H3.o.blk.1.drew;obtain⟨g0,g1,g2,g3⟩:=X9 al.o.drew;rw[<-ac.o]at HP;clear hN;refine ZB [0,1,2,3,4,5,6,7,8,209,210] ?_;simp only[Z8,Zf,Ze,Zd];iterate 9 (refine Jq (h:=?_))
  clear Z a1 a2 U a4 a5 a6 a7 a8 g0 g1 g2 g3;refine J7 ?_;go_wp2_with fail;refine Zo HP ?_;rintro r w4⟨rfl,h4,c4⟩;have H4:=O h4;have C4:=O c4;have am:=O (c4.blk al.o NF.o);clear h4 c4;go_wp2_with fail;refine J7 ?_;go_wp2_with fail;refine Jo ?_;by_cases h0:er=0
  .have HG:=O (Q1x (s:=d.sched) (p:=q) (by rw[<-ac.o];exact h0));have aw:Hi (V4 (K+33) (d.came q)):=O (J.o.1.came (by rw[<-ac.o];exact h0));have HC:Hi (ZW 62 #[ptr R.kb,.agg #[ZU p.id,ZI p.cls,ZI p.len,ZU d.now]] w4.drew (.tuple #[]) λE=>Qyf R E (Qn (Qn F w1 w2) z E) b (d.came q)/\Qc (Qn F w1 w2) z E):=O (by
    obtain⟨G,hB,_,_,B⟩:=(H4.o.aB (Zg Qb w4).drew).bookOf;have hg:=HG.o;rw[HQ.o]at hg;refine(Q04 hB J.o.1.book ⟨p.id,p.cls,p.len,(d.now:Int)⟩ hg).mono ?_;rintro r E⟨rfl,h5,c5⟩;rw[<-HQ.o]at h5;obtain⟨m1,m2⟩:=B E _ h5 c5;have I:Qc (Qn F w1 w2) z E:=C4.o.ext m2.aT;exact⟨rfl,V6.lift (e:=d.came q) m1 (Qn.trans C4.o.size m2.size) (ah.o.ext I),I⟩)
   obtain⟨Z,a1,a2,U,a4,a5,a6,a7,a8⟩:=Av H4.o.blk.1.drew;obtain⟨g0,g1,g2,g3⟩:=X9 am.o.drew;subst h0;go_wp2_with fail;refine ZB [0,1,2,3,4,205] ?_;simp only[Z8,Zf,Ze,Zd];iterate 5 (refine Jq (h:=?_))
   clear Z a1 a2 U a4 a5 a6 a7 a8 g0 g1 g2 g3;refine J7 ?_;go_wp2_with fail;refine Zo HC ?_;rintro r E⟨rfl,h5,c5⟩;have H5:=O h5;have C5:=O c5;clear h5 c5;obtain⟨Z,a1,a2,U,a4,a5,a6,a7,a8⟩:=Av H5.o.blk.1;have ax:E.cell? ⟨b,3,none⟩=some (ZU d.now):=U;clear U;go_wp2_with fail;refine Jo ?_;go_wp2_with fail;refine(Qzr ⟨R,H5.o⟩ aw.o (by omega) (J.o.2.came q) d.now).mono ?_;rintro r w6⟨rfl,h6,c6⟩;have I:Qc (Qn F w1 w2) z w6:=C5.o.ext c6;have K6:=O (ag.o w6 _ (Qxn.obj.more h6 (Qn.trans C5.o.size c6.size) (ah.o.ext I)) I);clear h6 c6 I Z a1 a2 ax a4 a5 a6 a7 a8;go_wp2;go_ret;exact⟨rfl,K6.o⟩
  .have HE:=O h0;have d0:(er==0)=false:=by simpa using h0
   have HR:Hi (ZW 61 #[ptr R.kb,ZI p.cls] w4.drew (.tuple #[]) λE=>Qyf R E (Qn (Qn F w1 w2) z E) b (d.refused q)/\Qc (Qn F w1 w2) z E):=O (by
    obtain⟨G,hB,_,_,B⟩:=(H4.o.aB (Zg Qb w4).drew).bookOf;refine(Qz3 hB J.o.1.book p.cls).mono ?_;rintro r E⟨rfl,h5,c5⟩;obtain⟨m1,m2⟩:=B E _ h5 c5;have I:Qc (Qn F w1 w2) z E:=C4.o.ext m2.aT;have hs:({d with sched:=d.sched.push q d.now,book:=d.book.tell p.cls Qwx}:Vi)=d.refused q:=by unfold Vi.refused;rw[Qnm (by rw[<-ac.o];exact h0),HQ.o]
    have m3:=V6.lift m1 (Qn.trans C4.o.size m2.size) (ah.o.ext I);exact⟨rfl,hs▸m3,I⟩)
   obtain⟨Z,a1,a2,U,a4,a5,a6,a7,a8⟩:=Av H4.o.blk.1.drew;obtain⟨g0,g1,g2,g3⟩:=X9 am.o.drew;clear h0;go_wp2_with fail;refine ZB [0,1,2,3,4,5,206] ?_;simp only[Z8,Zf,Ze,Zd];iterate 6 (refine Jq (h:=?_))
   clear Z a1 a2 U a4 a5 a6 a7 a8 g0 g1 g2 g3;refine J7 ?_;go_wp2_with fail;refine Zo HR ?_;rintro r E⟨rfl,h5,c5⟩;have K5:=O (ag.o E _ ⟨R,h5⟩ c5);clear h5 c5;go_wp2_with fail;refine Jo ?_;go_wp2;go_ret;exact⟨rfl,K5.o⟩
end
end Go.Proofs.YtigcnnkagkbflaaGreat
