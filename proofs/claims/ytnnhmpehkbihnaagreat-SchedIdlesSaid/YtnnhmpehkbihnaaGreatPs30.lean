/- A part of the proof: no condition. -/
import Derived.Test.YtnnhmpehkbihnaaGreatPs29
namespace Go.Proofs.YtnnhmpehkbihnaaGreat
set_option linter.unusedVariables false
set_option maxRecDepth 100000
set_option maxHeartbeats 4000000
open Go.RowKit
open Go.Proofs.Tryz
section
attribute [local go_sem] Qp
attribute [local irreducible] Kl J9 Xo
theorem Xm.nexts{w}{F:Fp}{b sb now N:Nat}{us:Nat→Value}{s:Qf}{ps:Nat→List Jr}(h:Xm sb us us w F b s now true ps)(ok:Xp N s)(J:N<549755813000):
  ∃G:Fp,¬G b∧(∀k,G k→F k)∧∀w',Qc Qb w w'→Cl 16 #[ptr sb,.int .u64 now] w' fun e c=>e=.returned (.tuple #[.agg (Bq (s.next now).1),.bool (s.next now).1.isSome])∧Xm sb us us c (Qn F w' c) b (s.next now).2 now true ps∧Qc G w' c:=by
 refine⟨fun k=>F k∧k≠b,fun h=>h.2 rfl,fun k h=>h.1,fun w' E=>?_⟩;obtain⟨U,K,u,q,d⟩:=(h.aB E (Jl.none F)).sched;refine Zz (Pg K ok J now) ?_;rintro w2⟨I,z⟩;obtain⟨R,V⟩:=d w2 _ I z;exact⟨rfl,R,z.sub fun k B=>⟨u k B,fun e=>q (e▸B)⟩⟩
theorem Xm.copies{w}{F:Fp}{b sb now N:Nat}{us:Nat→Value}{s:Qf}{ps:Nat→List Jr}(h:Xm sb us us w F b s now true ps)(ok:Xp N s)(c:N<549755813000):
  Cl 15 #[ptr sb] w fun e w'=>∃b',e=.returned (ptr b')∧Qt w' (Qn Qb w w') b' s∧Qc Qb w w':=by
 obtain⟨G,⟨A,d⟩,_⟩:=h.sched;exact Qmc d ok c
theorem Qt.ticks{w}{F:Fp}{b N:Nat}{s:Qf}(h:Qt w F b s)(ok:Xp N s)(k:N<549755813000):Hi (∀w',Qc Qb w w'→∀i:Int,Cl 17 #[.pointer (some ⟨b,0,none⟩),.int .i64 i] w' fun e d=>e=.returned (.tuple #[.int .u64 ((s.elig i:Nat):Int),.int .u64 ((s.due i:Nat):Int),.int .u64 ((s.fit i:Nat):Int)])∧Qc Qb w' d):=O (fun w' c i=>by
 obtain⟨A,q⟩:=h;exact Hz ((Qi.obj A).aB q c (Jl.none _)) ok k i)
end
theorem Uv{n:Int}(h:(Lit.int .u64 n).wf=true):∃k:Nat,n=(k:Int)∧k<18446744073709551616:=by
 refine⟨n.toNat,?_⟩;simp[Lit.wf]at h;have e1:IntKind.u64.min=0:=by kernel_rfl
 have c:IntKind.u64.max=18446744073709551615:=by kernel_rfl
 omega
theorem Qum{n:Int}(h:(Lit.int .u8 n).wf=true):0≤n∧n<256:=by
 simp[Lit.wf]at h;have e1:IntKind.u8.min=0:=by kernel_rfl
 have c:IntKind.u8.max=255:=by kernel_rfl
 omega
def Al:List (Option IntKind):=[some .u8,some .i64,some .i64,none,some .u64,some .u64,some .u64,some .u64,some .u64,some .u64,some .u64,some .u64,some .u64,some .i64,some .i64,some .u64,some .i64,some .i64,some .u64,some .u64]
theorem Yy.of_fits{x:List Value}(h:O2 Al x):∃a:Yy,x=a.cells∧a.wf:=by unfold Al at h;obtain⟨k,y0,rfl,wk,h1⟩:=h.int1;obtain⟨v0,y1,rfl,_,h2⟩:=h1.int1;obtain⟨v1,y2,rfl,_,h3⟩:=h2.int1;obtain⟨v2,y3,rfl,h4⟩:=h3.bool1;obtain⟨u4,y4,rfl,w4,h5⟩:=h4.int1;obtain⟨v3,rfl,_⟩:=Uv w4;clear w4;obtain⟨u5,y5,rfl,w5,h6⟩:=h5.int1;obtain⟨v4,rfl,_⟩:=Uv w5;clear w5;obtain⟨u6,y6,rfl,w6,h7⟩:=h6.int1;obtain⟨v5,rfl,_⟩:=Uv w6;clear w6;obtain⟨u7,y7,rfl,w7,h8⟩:=h7.int1;obtain⟨v6,rfl,_⟩:=Uv w7;clear w7;obtain⟨u8,y8,rfl,w8,h9⟩:=h8.int1;obtain⟨v7,rfl,_⟩:=Uv w8;clear w8;obtain⟨u9,y9,rfl,w9,z⟩:=h9.int1;obtain⟨v8,rfl,_⟩:=Uv w9;clear w9;obtain⟨u10,ac,rfl,c,B⟩:=z.int1;obtain⟨v9,rfl,_⟩:=Uv c;clear c;obtain⟨u11,ae,rfl,d,E⟩:=B.int1;obtain⟨v10,rfl,_⟩:=Uv d;clear d;obtain⟨u12,af,rfl,q,I⟩:=E.int1;obtain⟨v11,rfl,_⟩:=Uv q;clear q;obtain⟨v12,ag,rfl,_,J⟩:=I.int1;obtain⟨v13,ah,rfl,_,K⟩:=J.int1;obtain⟨p0,ai,rfl,_,R⟩:=K.int1;obtain⟨p1,aj,rfl,_,U⟩:=R.int1;obtain⟨p2,ak,rfl,_,V⟩:=U.int1;obtain⟨p3,al,rfl,_,Z⟩:=V.int1;obtain⟨u19,am,rfl,u,aa⟩:=Z.int1;obtain⟨va,rfl,ab⟩:=Uv u;clear u;have hz:=aa.nil0;subst hz;exact⟨⟨k,⟨v0,v1,v2,⟨v3,v4,v5⟩,⟨v6,v7,v8⟩,⟨v9,v10,v11⟩,v12,v13⟩,⟨p0,p1,p2,p3⟩,va⟩,rfl,(Qum wk).1,(Qum wk).2,ab⟩
theorem Qvd:O9 prog 5 74=some Al:=by kernel_rfl
theorem own:ownKnob prog.godebug=none:=by kernel_rfl
end Go.Proofs.YtnnhmpehkbihnaaGreat
