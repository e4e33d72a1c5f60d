/- A part of the proof: no condition. -/
import Derived.Test.YtigcnnkagkbflaaGreatUo07
namespace Go.Proofs.YtigcnnkagkbflaaGreat
set_option linter.unusedVariables false
set_option maxRecDepth 100000
set_option maxHeartbeats 4000000
open Go.RowKit
open Go.Proofs.Tryz
section
open Go.Shelf
attribute [local go_sem] Oper.semAt_some Qp
attribute [local irreducible] Uo
theorem Qac{T:Fp}(W):Le T W W.drew:=λb o _ h _=>h
theorem Jw.kpt{T:Fp}{w w'}(d:Le T w w'):∀(t:Tr),Jw w t->(∀a∈t.aC,T a)->Jw w' t
 | .nil,_,_=>trivial
 | .aD x c l r,⟨h1,h2,h3⟩,hT=>⟨d.blk h1 (hT x.a (by simp[Tr.aC])),Jw.kpt d l h2 (λa ha=>hT a (by simp[Tr.aC,ha])),Jw.kpt d r h3 (λa ha=>hT a (by simp[Tr.aC,ha]))⟩
def Qof(x:Xu):Array Value:=#[Yo x.1 x.2.1,ZU x.2.2]
def Ok(T:Fp)(J k:List Xu->World->Prop)(c l:List Xu)(W:World)(e:Ending)(d:World):Prop:=
 ∃b:Bool,e=.returned (.bool b)/\(b=true->J (c++l) d/\Le T W d)/\(b=false->∃p,p<+:l/\k (c++p) d)
theorem Qrb{n l:Nat}{T:Fp}{J k:List Xu->World->Prop}(u:∀c W,J c W->J c W.drew)(c:List Xu)(W)(q:J c W):
  CallsIn Fence.wide n prog 234 #[.pointer none,.func (.yield l) #[] #[]] W (Ok T J k c [] W):=by
 have d:Hi (Ok T J k c [] W (.returned (.bool true)) W.drew):=O ⟨true,rfl,λ_=>⟨by rw[List.append_nil];exact u _ _ q,Qac W⟩,nofun⟩;clear q u;refine callsIn_of_wp func234 rfl trivial ?_ rfl;simp only[ntmps234,List.size_toArray,Zm,List.length_nil,Nat.reduceAdd,Nat.reduceSub,Array.replicate_succ,Array.replicate_zero,List.push_toArray,List.append_toArray,List.nil_append,List.cons_append];gi_wp2;refine Lx [(0,0),(0,1),(0,2),(0,3),(0,4),(0,5),(0,6),(0,7),(2,8),(0,9),(0,10),(0,11),(0,12),(0,13),(0,14),(0,15),(0,16),(0,17),(0,18),(2,19),(0,20),(0,21),(0,22),(0,23),(0,24),(0,25),(0,26),(2,27),(0,28),(0,29),(2,30)] Zq (by kernel_rfl) (λ_ _ _ _ _ h=>h) ?_;simp only[Jk,Zf,Ze,Zd];iterate 3 (refine Et (h:=?_))
 iterate 26 (first|(refine Qf4 (by kernel_rfl) ?_)|(refine Ae (by kernel_rfl) ?_)|(refine Qf3 (by kernel_rfl) ?_);try simp only[Act.put,Za,Zc,Zb])
 refine Et (h:=?_);refine Bl ?_;gi_wp2;refine Qf2 ?_;gi_wp2;refine bodyPost_ret (v:=.bool true) (by simp[results,Tryz.results234,go_sem]) rfl d.o
theorem Qoc{n l N:Nat}{T:Fp}{J z:List Xu->World->Prop}(hJ:∀d W,J d W->J d W.drew)
  (hY:∀m d x W1,J d W1->d.length<N->YieldAt Fence.wide m prog l (Qof x) W1 λe W'=>(e=.returned (.bool true)/\J (d++[x]) W'/\Le T W1 W')\/(e=.returned (.bool false)/\z (d++[x]) W'))
  {x:Nd} {c:Bool} {L R:Tr} (d:List Xu) (W) (hA:Jw W (.aD x c L R)) (hT:∀a∈(Tr.aD x c L R).aC,T a) (h0:J d W) (u:d.length+(Tr.aD x c L R).flat.length<=N)
  (il:∀m d W,Jw W L->J d W->d.length+L.flat.length<=N->CallsIn Fence.wide m prog 234 #[L.aH,.func (.yield l) #[] #[]] W (Ok T J z d L.flat W))
  (ir:∀m d W,Jw W R->J d W->d.length+R.flat.length<=N->CallsIn Fence.wide m prog 234 #[R.aH,.func (.yield l) #[] #[]] W (Ok T J z d R.flat W)):
  CallsIn Fence.wide n prog 234 #[ZP x.a,.func (.yield l) #[] #[]] W (Ok T J z d (Tr.aD x c L R).flat W):=by
 have HB:=O hA.1;have HA:=O hA;have HJ:=O hJ;have HY:=O hY;have H0:=O h0;have HL:=O u;have IL:=O il;have IR:=O ir;have HT:=O hT;obtain⟨pl,ac⟩:=L.aS;obtain⟨pr,ae⟩:=R.aS;rw[ac]at HB IL;rw[ae]at HB IR;clear hA hJ hY h0 u il ir hT ac ae;refine callsIn_of_wp func234 rfl trivial ?_ rfl;simp only[ntmps234,List.size_toArray,Zm,List.length_nil,Nat.reduceAdd,Nat.reduceSub,Array.replicate_succ,Array.replicate_zero,List.push_toArray,List.append_toArray,List.nil_append,List.cons_append];gi_wp2;have V:=Ja HB.o.drew;refine Lx [(0,0),(0,1),(0,2),(0,3),(0,4),(0,5),(0,6),(0,7),(2,8),(0,9),(0,10),(0,11),(0,12),(0,13),(0,14),(0,15),(0,16),(0,17),(0,18),(2,19),(0,20),(0,21),(0,22),(0,23),(0,24),(0,25),(0,26),(2,27),(0,28),(0,29),(2,30)] Zq (by kernel_rfl) (λ_ _ _ _ _ h=>h) ?_;simp only[Jk,Zf,Ze,Zd];iterate 8 (refine Et (h:=?_))
 clear V;refine Bl ?_;gi_wp2;refine⟨trivial,(λh=>by cases h),?_⟩;refine(IL.o _ d W.drew (Jw.aB ((Zg Qb W).drew) _ HA.o.2.1 (λa _ h=>h)) (HJ.o _ _ H0.o) (by have:=HL.o;simp[Tr.flat]at this;omega)).mono ?_;rintro e w1⟨b1,rfl,E,K⟩;cases b1
 .obtain⟨p,hp,hx⟩:=K rfl;have k:Hi (Ok T J z d (Tr.aD x c L R).flat W (.returned (.bool false)) w1):=O ⟨false,rfl,nofun,λ_=>⟨p,hp.trans (by simp[Tr.flat]),hx⟩⟩;clear E K hp hx;gi_wp2;iterate 1 (first|refine Et (h:=?_)|refine Dl (h:=?_);try simp only[Act.put,Za,Zc,Zb])
  iterate 10 (first|(refine Qf4 (by kernel_rfl) ?_)|(refine Ae (by kernel_rfl) ?_)|(refine Qf3 (by kernel_rfl) ?_);try simp only[Act.put,Za,Zc,Zb])
  iterate 2 (first|refine Et (h:=?_)|refine Dl (h:=?_);try simp only[Act.put,Za,Zc,Zb])
  iterate 6 (first|(refine Qf4 (by kernel_rfl) ?_)|(refine Ae (by kernel_rfl) ?_)|(refine Qf3 (by kernel_rfl) ?_);try simp only[Act.put,Za,Zc,Zb])
  iterate 2 (first|refine Et (h:=?_)|refine Dl (h:=?_);try simp only[Act.put,Za,Zc,Zb])
  refine Bl ?_;gi_wp2;refine Qf2 ?_;gi_wp2;refine bodyPost_ret (v:=.bool false) (by simp[results,Tryz.results234,go_sem]) rfl k.o
 .obtain⟨aa,B⟩:=E rfl;have B1:=O (B.blk HB.o.drew (HT.o _ (by simp[Tr.aC])));have V:=Ja B1.o;obtain⟨fn,aj,ag,ai,hy,hR⟩:=HY.o 0 _ (x.n,x.i,x.v) w1 aa (by have:=HL.o;simp[Tr.flat]at this|-;omega);have U:=O B;have HR:=O hR;clear E K aa B hR;dsimp only[Qof,Yo]at hy;gi_wp2;iterate 10 (first|refine Et (h:=?_)|refine Dl (h:=?_);try simp only[Act.put,Za,Zc,Zb])
  clear V;refine Bl ?_;gi_wp2;refine⟨(λh=>by cases h),?_⟩;refine(Nx HR.o).mono ?_;clear hy;rintro e W3(⟨rfl,ab,q⟩|⟨rfl,af⟩)
  .have B3:=O (q.blk B1.o (HT.o _ (by simp[Tr.aC])));have V:=Ja B3.o;have AR:=O (Jw.kpt (U.o.trans q) R (Jw.aB ((Zg Qb W).drew) _ HA.o.2.2 (λa _ h=>h)) (λa ha=>HT.o a (by simp[Tr.aC,ha])));have ah:=O ((Le.trans (Qac W) U.o).trans q);have J3:=O ab;clear ab q;gi_wp2;iterate 7 (first|refine Et (h:=?_)|refine Dl (h:=?_);try simp only[Act.put,Za,Zc,Zb])
   clear V;refine Bl ?_;gi_wp2;refine⟨trivial,(λh=>by cases h),?_⟩;refine(IR.o _ _ W3 AR.o J3.o (by have:=HL.o;simp[Tr.flat]at this|-;omega)).mono ?_;rintro e W4⟨b4,rfl,E,K⟩;have k:Hi (Ok T J z d (Tr.aD x c L R).flat W (.returned (.bool b4)) W4):=O (by
    refine⟨b4,rfl,λh=>⟨?_,ah.o.trans (E h).2⟩,λh=>?_⟩;·have:=(E h).1;simpa[Tr.flat]using this
    .obtain⟨p,hp,hx⟩:=K h;refine⟨L.flat++(x.n,x.i,x.v)::p,?_,by simpa using hx⟩;simp[Tr.flat,hp])
   clear E K;gi_wp2;iterate 2 (first|refine Et (h:=?_)|refine Dl (h:=?_);try simp only[Act.put,Za,Zc,Zb])
   refine Bl ?_;gi_wp2;refine Qf2 ?_;gi_wp2;refine bodyPost_ret (v:=.bool b4) (by simp[results,Tryz.results234,go_sem]) rfl k.o
  .have k:Hi (Ok T J z d (Tr.aD x c L R).flat W (.returned (.bool false)) W3):=O ⟨false,rfl,nofun,λ_=>⟨L.flat++[(x.n,x.i,x.v)],by simp[Tr.flat],by simpa using af⟩⟩;clear af;gi_wp2;iterate 2 (first|refine Et (h:=?_)|refine Dl (h:=?_);try simp only[Act.put,Za,Zc,Zb])
   iterate 6 (first|(refine Qf4 (by kernel_rfl) ?_)|(refine Ae (by kernel_rfl) ?_)|(refine Qf3 (by kernel_rfl) ?_);try simp only[Act.put,Za,Zc,Zb])
   iterate 2 (first|refine Et (h:=?_)|refine Dl (h:=?_);try simp only[Act.put,Za,Zc,Zb])
   refine Bl ?_;gi_wp2;refine Qf2 ?_;gi_wp2;refine bodyPost_ret (v:=.bool false) (by simp[results,Tryz.results234,go_sem]) rfl k.o
theorem Wf{l N:Nat}{T:Fp}{J I:List Xu->World->Prop}(q:∀d W,J d W->J d W.drew)
  (B:∀m d x z,J d z->d.length<N->YieldAt Fence.wide m prog l (Qof x) z λe u=>(e=.returned (.bool true)/\J (d++[x]) u/\Le T z u)\/(e=.returned (.bool false)/\I (d++[x]) u)):
  ∀(t:Tr)(n:Nat)(d:List Xu)(W),Jw W t->(∀a∈t.aC,T a)->J d W->d.length+t.flat.length<=N->
   CallsIn Fence.wide n prog 234 #[t.aH,.func (.yield l) #[] #[]] W (Ok T J I d t.flat W)
 | .nil,n,d,W,_,_,k,_=>Qrb q d W k
 | .aD x c L R,n,d,W,hA,hT,k,hlen=>Qoc q B d W hA hT k hlen
   (λm d W ha k E=>Wf q B L m d W ha (λa h=>hT a (by simp[Tr.aC,h])) k E)
   (λm d W ha k E=>Wf q B R m d W ha (λa h=>hT a (by simp[Tr.aC,h])) k E)
end
end Go.Proofs.YtigcnnkagkbflaaGreat
