/- A part of the proof: no condition. -/
import Derived.Test.YtigcnnkagkbflaaGreatYq01
import Init
namespace Go.Proofs.YtigcnnkagkbflaaGreat
set_option linter.unusedVariables false
set_option maxRecDepth 100000
set_option maxHeartbeats 4000000
open Go.RowKit
open Go.Proofs.Tryz
structure Nd where
 a:Nat
 n:Nat
 i:Int
 v:Nat
 sv:Nat
 si:Int
inductive Tr where
 |nil
 |aD(x:Nd)(c:Bool)(l r:Tr)
namespace Tr
def red:Tr->Bool
 |nil=>false
 |aD _ c _ _=>c
def left:Tr->Tr
 |nil=>nil
 |aD _ _ l _=>l
def right:Tr->Tr
 |nil=>nil
 |aD _ _ _ r=>r
def size:Tr->Nat
 |nil=>0
 |aD _ _ l r=>l.size+r.size+1
def flat:Tr->List (Nat×Int×Nat)
 |nil=>[]
 |aD x _ l r=>l.flat++(x.n,x.i,x.v)::r.flat
def aC:Tr->List Nat
 |nil=>[]
 |aD x _ l r=>l.aC++x.a::r.aC
end Tr
def Xn(a b:Nat×Int):Nat×Int:=if a=b\/a.1<b.1\/a.1=b.1/\a.2<b.2 then a else b
def Tr.sumJ(t:Tr)(s:Nat×Int):Nat×Int:=match t with
 | .nil=>s
 | .aD y _ _ _=>Xn (y.sv,y.si) s
def Tr.jSum(s:Nat×Int)(t:Tr):Nat×Int:=match t with
 | .nil=>s
 | .aD y _ _ _=>Xn s (y.sv,y.si)
def Pr(x:Nd)(l r:Tr):Nat×Int:=Tr.jSum (l.sumJ (x.v,x.i)) r
def Nd.re(x:Nd)(l r:Tr):Nd:={x with sv:=(Pr x l r).1,si:=(Pr x l r).2}
def mk(x:Nd)(c:Bool)(l r:Tr):Tr:=.aD (x.re l r) c l r
def Nw:Tr->Tr
 | .aD h c l (.aD x _ xl xr)=>mk x c (mk h true l xl) xr
 |t=>t
def Mp:Tr->Tr
 | .aD h c (.aD x _ xl xr) r=>mk x c xl (mk h true xr r)
 |t=>t
def Cd:Tr->Tr
 | .aD h c (.aD y cy yl yr) (.aD z cz zl zr)=>.aD h (!c) (.aD y (!cy) yl yr) (.aD z (!cz) zl zr)
 |t=>t
def fin:Tr->Tr
 | .aD h c l r=>mk h c l r
 |t=>t
def s1(t:Tr):Tr:=if t.right.red&&!t.left.red then Nw t else t
def s2(t:Tr):Tr:=if t.left.red&&t.left.left.red then Mp t else t
def s3(t:Tr):Tr:=if t.left.red&&t.right.red then Cd t else t
def Gs(t:Tr):Tr:=fin (s3 (s2 (s1 t)))
theorem Vn(x:Nd)(c:Bool)(l r:Tr):(mk x c l r).flat=l.flat++(x.n,x.i,x.v)::r.flat:=rfl
theorem Qoj(t:Tr):(Nw t).flat=t.flat:=by
 unfold Nw;split;·simp[Vn,Tr.flat]
 .rfl
theorem Qok(t:Tr):(Mp t).flat=t.flat:=by
 unfold Mp;split;·simp[Vn,Tr.flat]
 .rfl
theorem Qoi(t:Tr):(Cd t).flat=t.flat:=by
 unfold Cd;split;·simp[Tr.flat]
 .rfl
theorem Qrg(t:Tr):(fin t).flat=t.flat:=by unfold fin;split<;>rfl
theorem Kk(t:Tr):(Gs t).flat=t.flat:=by
 have c:(s1 t).flat=t.flat:=by unfold s1;split;exact Qoj t;rfl
 have d:(s2 (s1 t)).flat=(s1 t).flat:=by unfold s2;split;exact Qok _;rfl
 have k:(s3 (s2 (s1 t))).flat=(s2 (s1 t)).flat:=by unfold s3;split;exact Qoi _;rfl
 rw[Gs,Qrg,k,d,c]
theorem Ly(x:Nd)(c:Bool)(l r:Tr):(mk x c l r).aC=l.aC++x.a::r.aC:=rfl
theorem Ts(t:Tr):(Nw t).aC=t.aC:=by
 unfold Nw;split;·simp[Ly,Tr.aC]
 .rfl
theorem Ey(t:Tr):(Mp t).aC=t.aC:=by
 unfold Mp;split;·simp[Ly,Tr.aC]
 .rfl
theorem An(t:Tr):(Cd t).aC=t.aC:=by
 unfold Cd;split;·simp[Tr.aC]
 .rfl
theorem Qnz(t:Tr):(fin t).aC=t.aC:=by unfold fin;split<;>rfl
theorem Kd(t:Tr):(Gs t).aC=t.aC:=by
 have c:(s1 t).aC=t.aC:=by unfold s1;split;exact Ts t;rfl
 have d:(s2 (s1 t)).aC=(s1 t).aC:=by unfold s2;split;exact Ey _;rfl
 have k:(s3 (s2 (s1 t))).aC=(s2 (s1 t)).aC:=by unfold s3;split;exact An _;rfl
 rw[Gs,Qnz,k,d,c]
def Tr.bh:Tr->Nat
 | .nil=>0
 | .aD _ c l _=>l.bh+if c then 0 else 1
def Tr.even:Tr->Prop
 | .nil=>True
 | .aD x c l r=>l.even/\r.even/\l.bh=r.bh/\(x.sv,x.si)=Pr x l r
def Tr.ok:Tr->Prop
 | .nil=>True
 | .aD _ c l r=>l.ok/\r.ok/\r.red=false/\(c=true->l.red=false)
def Yp(t:Tr)(n:Nat):Prop:=t.ok/\t.even/\t.bh=n
theorem Ue{x:Nd}{c:Bool}{l r:Tr}(d:l.even)(k:r.even)(h:l.bh=r.bh):(mk x c l r).even:=⟨d,k,h,rfl⟩
theorem Au(x:Nd)(c:Bool)(l r:Tr):(mk x c l r).bh=l.bh+if c then 0 else 1:=rfl
theorem Qtx(x:Nd)(c:Bool)(l r:Tr):(mk x c l r).left=l:=rfl
theorem Qsk(x:Nd)(c:Bool)(l r:Tr):(mk x c l r).right=r:=rfl
theorem Vs(x:Nd)(c:Bool)(l r:Tr):(Tr.aD x c l r).left=l:=rfl
theorem Dh(x:Nd)(c:Bool)(l r:Tr):(Tr.aD x c l r).right=r:=rfl
theorem Mn(x:Nd)(c:Bool)(l r:Tr):(Tr.aD x c l r).red=c:=rfl
theorem Yg{t:Tr}(h:t.red=true):∃x l r,t=.aD x true l r:=by
 cases t with
 |nil=>cases h
 |aD x c l r=>obtain rfl:c=true:=h;exact⟨x,l,r,rfl⟩
theorem M9{h:Nd}{c:Bool}{l r:Tr}(k:r.red=false)(B:l.red=true->l.left.red=false):Gs (.aD h c l r)=mk h c l r:=by
 have q:s1 (.aD h c l r)=.aD h c l r:=by simp[s1,Dh,k]
 have u:s2 (.aD h c l r)=.aD h c l r:=by
  cases d:l.red with
  |false=>simp[s2,Vs,d]
  |true=>simp[s2,Vs,d,B d]
 have z:s3 (.aD h c l r)=.aD h c l r:=by simp[s3,Vs,Dh,k]
 rw[Gs,q,u,z];rfl
theorem At{h x:Nd}{c:Bool}{l k d:Tr}(q:l.red=false)(E:d.red=false):Gs (.aD h c l (.aD x true k d))=mk x c (mk h true l k) d:=by
 have u:s1 (.aD h c l (.aD x true k d))=mk x c (mk h true l k) d:=by simp[s1,Dh,Vs,Mn,q,Nw]
 have z:s2 (mk x c (mk h true l k) d)=mk x c (mk h true l k) d:=by simp[s2,Qtx,q]
 have B:s3 (mk x c (mk h true l k) d)=mk x c (mk h true l k) d:=by simp[s3,Qsk,E]
 rw[Gs,u,z,B];rfl
theorem Qgo{h y z:Nd}{c:Bool}{d k q u:Tr}(J:d.red=false):
  Gs (.aD h c (.aD y true d k) (.aD z true q u))=mk h (!c) (.aD y false d k) (.aD z false q u):=by
 have B:s1 (.aD h c (.aD y true d k) (.aD z true q u))=.aD h c (.aD y true d k) (.aD z true q u):=by simp[s1,Vs,Mn]
 have E:s2 (.aD h c (.aD y true d k) (.aD z true q u))=.aD h c (.aD y true d k) (.aD z true q u):=by simp[s2,Vs,J]
 have I:s3 (.aD h c (.aD y true d k) (.aD z true q u))=.aD h (!c) (.aD y false d k) (.aD z false q u):=by simp[s3,Vs,Dh,Mn,Cd]
 rw[Gs,B,E,I];rfl
theorem Qn6{h x y:Nd}{c:Bool}{k q d r:Tr}(E:r.red=false):
  Gs (.aD h c (.aD x true (.aD y true k q) d) r)=mk (x.re (.aD y true k q) (mk h true d r)) (!c) (.aD y false k q) (.aD (h.re d r) false d r):=by
 have u:s1 (.aD h c (.aD x true (.aD y true k q) d) r)=.aD h c (.aD x true (.aD y true k q) d) r:=by simp[s1,Dh,E]
 have z:s2 (.aD h c (.aD x true (.aD y true k q) d) r)=mk x c (.aD y true k q) (mk h true d r):=by simp[s2,Vs,Mn,Mp]
 have B:s3 (mk x c (.aD y true k q) (mk h true d r))=.aD (x.re (.aD y true k q) (mk h true d r)) (!c) (.aD y false k q) (.aD (h.re d r) false d r):=by simp[s3,mk,Vs,Dh,Mn,Cd]
 rw[Gs,u,z,B];rfl
def lt(n:Nat)(i:Int)(x:Nd):Bool:=decide (n<x.n\/n=x.n/\i<x.i)
def Tr.put(n:Nat)(i:Int)(v a:Nat):Tr->Tr
 | .nil=>.aD ⟨a,n,i,v,v,i⟩ true .nil .nil
 | .aD h c l r=>if lt n i h then Gs (.aD h c (l.put n i v a) r)else Gs (.aD h c l (r.put n i v a))
def Qvr(t:Tr)(n:Nat):Prop:=t.even/\t.bh=n/\t.left.ok/\t.right.ok/\t.right.red=false/\t.red=true
theorem Qa8(n:Nat)(i:Int)(v a:Nat):∀(t:Tr)(m:Nat),Yp t m->(t.red=false->Yp (t.put n i v a) m)/\(t.red=true->Qvr (t.put n i v a) m)
 | .nil,m,h=>⟨λ_=>⟨⟨trivial,trivial,rfl,λ_=>rfl⟩,⟨trivial,trivial,rfl,rfl⟩,h.2.2⟩,nofun⟩
 | .aD x c l r,m,⟨hok,hev,hbh⟩=>by
  obtain⟨I,J,R,aa⟩:=hok;obtain⟨el,er,Z,hs⟩:=hev;have Il:=Qa8 n i v a l l.bh ⟨I,el,rfl⟩;have Ir:=Qa8 n i v a r r.bh ⟨J,er,rfl⟩;simp only[Tr.bh]at hbh;simp only[Tr.put,Tr.red];by_cases hk:lt n i x=true
  .simp only[hk,if_true];generalize l.put n i v a=l' at Il;cases k:l.red with
   |false=>
    obtain⟨u,q,d⟩:=Il.1 k;have U:l'.red=true->l'.left.red=false:=by intro h;obtain⟨y,yl,yr,rfl⟩:=Yg h;exact u.2.2.2 rfl
    rw[M9 R U];cases c with
    |false=>exact⟨λ_=>⟨⟨u,J,R,nofun⟩,Ue q er (d.trans Z),by rw[Au,d];exact hbh⟩,nofun⟩
    |true=>exact⟨nofun,λ_=>⟨Ue q er (d.trans Z),by rw[Au,d];exact hbh,u,J,R,rfl⟩⟩
   |true=>
    obtain⟨q,d,h1,h2,h3,h4⟩:=Il.2 k;have hc:c=false:=by
     cases c with
     |false=>rfl
     |true=>rw[aa rfl]at k;cases k
    subst hc;refine⟨λ_=>?_,nofun⟩;obtain⟨y,yl,yr,rfl⟩:=Yg h4;cases V:yl.red with
    |false=> rw[M9 R (λ_=>by exact V)];exact⟨⟨⟨h1,h2,h3,λ_=>V⟩,J,R,nofun⟩,Ue q er (d.trans Z),by rw[Au,d];exact hbh⟩
    |true=>
     obtain⟨z,zl,zr,rfl⟩:=Yg V;rw[Qn6 R];obtain⟨ez,ey,eb,es⟩:=q;simp only[Tr.left,Tr.right]at h1 h2 h3;obtain⟨z1,z2,z3,z4⟩:=h1;simp only[Tr.bh,if_true,Nat.add_zero]at d eb;refine⟨⟨⟨z1,z2,z3,nofun⟩,⟨h2,J,R,nofun⟩,rfl,λ_=>rfl⟩,⟨ez,⟨ey,er,by omega,rfl⟩,?_,rfl⟩,?_⟩;·simp[Tr.bh];omega
     .simp[mk,Tr.bh];simp at hbh;omega
  .simp only[hk,if_false,Bool.false_eq_true];generalize r.put n i v a=r' at Ir;obtain⟨u,q,d⟩:=Ir.1 R;cases K:r'.red with
   |false=>
    have U:l.red=true->l.left.red=false:=by intro h;obtain⟨y,yl,yr,rfl⟩:=Yg h;exact I.2.2.2 rfl
    rw[M9 K U];cases c with
    |false=>exact⟨λ_=>⟨⟨I,u,K,nofun⟩,Ue el q (Z.trans d.symm),by rw[Au];exact hbh⟩,nofun⟩
    |true=>exact⟨nofun,λ_=>⟨Ue el q (Z.trans d.symm),by rw[Au];exact hbh,I,u,K,rfl⟩⟩
   |true=>
    obtain⟨y,yl,yr,rfl⟩:=Yg K;obtain⟨y1,y2,y3,y4⟩:=u;obtain⟨e1,e2,e3,e4⟩:=q;simp only[Tr.bh,if_true,Nat.add_zero]at d;have y4:=y4 rfl;cases k:l.red with
    |false=>
     rw[At k y3];have E:(mk y c (mk x true l yl) yr).even:=Ue (Ue el e1 (by omega)) e2 (by simp[mk,Tr.bh];omega);have B:(mk y c (mk x true l yl) yr).bh=m:=by simp only[mk,Tr.bh];simpa using hbh
     cases c with
     |false=>exact⟨λ_=>⟨⟨⟨I,y1,y4,λ_=>k⟩,y2,y3,nofun⟩,E,B⟩,nofun⟩
     |true=>exact⟨nofun,λ_=>⟨E,B,⟨I,y1,y4,λ_=>k⟩,y2,y3,rfl⟩⟩
    |true=>
     have hc:c=false:=by
      cases c with
      |false=>rfl
      |true=>rw[aa rfl]at k;cases k
     subst hc;obtain⟨z,zl,zr,rfl⟩:=Yg k;obtain⟨z1,z2,z3,z4⟩:=I;rw[Qgo (z4 rfl)];refine⟨λ_=>⟨⟨⟨z1,z2,z3,nofun⟩,⟨y1,y2,y3,nofun⟩,rfl,λ_=>rfl⟩,Ue el ⟨e1,e2,e3,e4⟩ ?_,?_⟩,nofun⟩;·simp[Tr.bh]at Z|-;omega
     .simp[mk,Tr.bh]at hbh|-;omega
def Tr.first:Tr->Nat×Int×Nat
 | .nil=>(0,0,0)
 | .aD x _ .nil _=>(x.n,x.i,x.v)
 | .aD _ _ l _=>l.first
def Nd.as(x:Nd)(e:Nat×Int×Nat):Nd:={x with n:=e.1,i:=e.2.1,v:=e.2.2}
inductive DropFirst:Tr->Tr->Prop
 |last (x:Nd) (c:Bool) (r:Tr):DropFirst (.aD x c .nil r) .nil
 |stay (x:Nd) (c:Bool) (l r l':Tr):(l.red||l.left.red)=true->DropFirst l l'->DropFirst (.aD x c l r) (Gs (.aD x c l' r))
 |turnA (x y z:Nd) (yl yr zl zr l':Tr):yl.red=false->zl.red=false->DropFirst (.aD y true yl yr) l'->
   DropFirst (.aD x true (.aD y false yl yr) (.aD z false zl zr)) (Gs (.aD x false l' (.aD z true zl zr)))
 |turnB (x y z u:Nd) (yl yr ul ur zr l':Tr):yl.red=false->DropFirst (mk x false (.aD y true yl yr) ul) l'->
   DropFirst (.aD x true (.aD y false yl yr) (.aD z false (.aD u true ul ur) zr)) (Gs (.aD (u.re (mk x true (.aD y true yl yr) ul) (mk z true ur zr)) true l' (mk z false ur zr)))
inductive Drop(n:Nat)(i:Int):Tr->Tr->Prop
 |stay (x:Nd) (c:Bool) (l r l':Tr):lt n i x=true->(l.red||l.left.red)=true->Drop n i l l'->Drop n i (.aD x c l r) (Gs (.aD x c l' r))
 |turnA (x y z:Nd) (yl yr zl zr l':Tr):lt n i x=true->yl.red=false->zl.red=false->Drop n i (.aD y true yl yr) l'->
   Drop n i (.aD x true (.aD y false yl yr) (.aD z false zl zr)) (Gs (.aD x false l' (.aD z true zl zr)))
 |turnB (x y z u:Nd) (yl yr ul ur zr l':Tr):lt n i x=true->yl.red=false->Drop n i (mk x false (.aD y true yl yr) ul) l'->
   Drop n i (.aD x true (.aD y false yl yr) (.aD z false (.aD u true ul ur) zr)) (Gs (.aD (u.re (mk x true (.aD y true yl yr) ul) (mk z true ur zr)) true l' (mk z false ur zr)))
 |right (x y:Nd) (c:Bool) (yl yr r r':Tr):lt n i x=false->¬(y.n=n/\y.i=i)->Drop n i (mk x true yr r) r'->
   Drop n i (.aD x c (.aD y true yl yr) r) (Gs (.aD (y.re yl (mk x true yr r)) c yl r'))
 |here (x:Nd) (c:Bool) (l:Tr):lt n i x=false->l.red=false->(x.n=n/\x.i=i)->Drop n i (.aD x c l .nil) .nil
 |passA (x y z:Nd) (yl yr zl zr r':Tr):lt n i x=false->¬(x.n=n/\x.i=i)->yl.red=false->zl.red=false->Drop n i (.aD z true zl zr) r'->
   Drop n i (.aD x true (.aD y false yl yr) (.aD z false zl zr)) (Gs (.aD x false (.aD y true yl yr) r'))
 |takeA (x y z:Nd) (yl yr zl zr r':Tr):lt n i x=false->(x.n=n/\x.i=i)->yl.red=false->zl.red=false->DropFirst (.aD z true zl zr) r'->
   Drop n i (.aD x true (.aD y false yl yr) (.aD z false zl zr)) (Gs (.aD (x.as (Tr.first (.aD z true zl zr))) false (.aD y true yl yr) r'))
 |passB (x y z u:Nd) (ul ur yr zl zr r':Tr):lt n i x=false->¬(y.n=n/\y.i=i)->zl.red=false->Drop n i (mk x false yr (.aD z true zl zr)) r'->
   Drop n i (.aD x true (.aD y false (.aD u true ul ur) yr) (.aD z false zl zr)) (Gs (.aD (y.re (.aD u true ul ur) (mk x true yr (.aD z true zl zr))) true (.aD u false ul ur) r'))
 |passC (x:Nd) (c:Bool) (l r r':Tr):lt n i x=false->l.red=false->¬(x.n=n/\x.i=i)->(r.red||r.left.red)=true->Drop n i r r'->Drop n i (.aD x c l r) (Gs (.aD x c l r'))
 |aX (x:Nd) (c:Bool) (l r r':Tr):lt n i x=false->l.red=false->(x.n=n/\x.i=i)->(r.red||r.left.red)=true->DropFirst r r'->Drop n i (.aD x c l r) (Gs (.aD (x.as r.first) c l r'))
theorem Oo{x:Nd}{c:Bool}{l r:Tr}{m:Nat}(d:Yp l m)(q:Yp r m)(u:r.red=false)(z:c=true->l.red=false):Yp (Gs (.aD x c l r)) (m+if c then 0 else 1)/\(Gs (.aD x c l r)).red=c:=by
 have k:l.red=true->l.left.red=false:=by intro h;obtain⟨y,B,E,rfl⟩:=Yg h;exact d.1.2.2.2 rfl
 rw[M9 u k];exact⟨⟨⟨d.1,q.1,u,z⟩,Ue d.2.1 q.2.1 (d.2.2.trans q.2.2.symm),by rw[Au,d.2.2]⟩,rfl⟩
theorem Qq5{x:Nd}{l r:Tr}{m:Nat}(d:Yp l m)(hr:Yp r m)(V:r.red=true):Yp (Gs (.aD x false l r)) (m+1):=by
 obtain⟨z,zl,zr,rfl⟩:=Yg V;obtain⟨⟨J,K,u,B⟩,⟨E,I,R,U⟩,Z⟩:=hr;have B:=B rfl;simp only[Tr.bh,if_true,Nat.add_zero]at Z;have k:=d.2.2;cases c:l.red with
 |false=> rw[At c u];exact⟨⟨⟨d.1,J,B,λ_=>c⟩,K,u,nofun⟩,Ue (Ue d.2.1 E (by omega)) I (by simp[mk,Tr.bh];omega),by simp[mk,Tr.bh];omega⟩
 |true=> obtain⟨y,yl,yr,rfl⟩:=Yg c;obtain⟨y1,y2,y3,q⟩:=d.1;have q:=q rfl;rw[Qgo q];simp only[Tr.bh,if_true,Nat.add_zero]at k;exact⟨⟨⟨y1,y2,y3,nofun⟩,⟨J,K,u,nofun⟩,rfl,λ_=>rfl⟩,Ue d.2.1 ⟨E,I,R,U⟩ (by simp[Tr.bh];omega),by simp[mk,Tr.bh];omega⟩
theorem M8{x:Nd}{l r:Tr}{m:Nat}(d:Yp l m)(k:Yp r m):Yp (Gs (.aD x false l r)) (m+1):=by
 cases h:r.red with
 |true=>exact Qq5 d k h
 |false=>exact(Oo (c:=false) d k h nofun).1
theorem Yp.black{n:Nat}{x:Nd}{l r:Tr}(h:Yp (.aD x true l r) n):Yp (.aD x false l r) (n+1):=
 ⟨⟨h.1.1,h.1.2.1,h.1.2.2.1,nofun⟩,h.2.1,by have:=h.2.2;simp[Tr.bh]at this|-;omega⟩
theorem Yp.parts{x:Nd}{c:Bool}{l r:Tr}{n:Nat}(h:Yp (.aD x c l r) n):∃m,Yp l m/\Yp r m/\r.red=false/\(c=true->l.red=false)/\n=m+if c then 0 else 1:=
 ⟨l.bh,⟨h.1.1,h.2.1.1,rfl⟩,⟨h.1.2.1,h.2.1.2.1,h.2.1.2.2.1.symm⟩,h.1.2.2.1,h.1.2.2.2,h.2.2.symm⟩
theorem Yp.aD{x:Nd}{c:Bool}{l r:Tr}{m:Nat}(d:Yp l m)(k:Yp r m)(q:r.red=false)(u:c=true->l.red=false):Yp (mk x c l r) (m+if c then 0 else 1):=
 ⟨⟨d.1,k.1,q,u⟩,Ue d.2.1 k.2.1 (d.2.2.trans k.2.2.symm),by rw[Au,d.2.2]⟩
theorem Yp.toRed{x:Nd}{l r:Tr}{n:Nat}(h:Yp (.aD x false l r) (n+1))(c:l.red=false):Yp (.aD x true l r) n:=
 ⟨⟨h.1.1,h.1.2.1,h.1.2.2.1,λ_=>c⟩,h.2.1,by have:=h.2.2;simp[Tr.bh]at this|-;omega⟩
theorem Yp.nil_of{t:Tr}(h:Yp t 0)(d:t.red=false):t=.nil:=by
 cases t with
 |nil=>rfl
 |aD x c l r=> obtain rfl:c=false:=d;have:=h.2.2;simp[Tr.bh]at this
theorem Yp.node_of{t:Tr}{n:Nat}(h:Yp t (n+1))(d:t.red=false):∃x l r,t=.aD x false l r:=by
 cases t with
 |nil=>have:=h.2.2;simp[Tr.bh]at this
 |aD x c l r=>obtain rfl:c=false:=d;exact⟨x,l,r,rfl⟩
theorem Vt(x:Nd)(c:Bool)(l r:Tr):(Tr.aD x c l r).size=l.size+r.size+1:=rfl
theorem Qfu(x:Nd)(c:Bool)(l r:Tr):(mk x c l r).size=l.size+r.size+1:=rfl
theorem Jb(x:Nd)(c:Bool)(l r:Tr):(Tr.aD x c l r).flat=l.flat++(x.n,x.i,x.v)::r.flat:=rfl
theorem E5:∀{t:Tr},t≠ .nil->t.flat=t.first::t.flat.tail
 | .aD x c .nil r,_=>rfl
 | .aD x c (.aD y d l s) r,_=>by have:=E5 (t:=.aD y d l s) nofun;have e:(Tr.aD x c (.aD y d l s) r).first=(Tr.aD y d l s).first:=rfl;rw[e,Tr.flat,this];rfl
theorem Bc{l r:List (Nat×Int×Nat)}(h:l≠[]):(l++r).tail=l.tail++r:=by grind
theorem I7{x:Nd}{c:Bool}{l r:Tr}:(Tr.aD x c l r).flat≠[]:=by simp[Tr.flat]
theorem Qrh{t:Tr}(h:(t.red||t.left.red)=true):t.flat≠[]:=by
 cases t with
 |nil=>simp[Tr.red,Tr.left]at h
 |aD x c l r=>exact I7
theorem Vr:∀(s:Nat)(t:Tr)(n:Nat),t.size<=s->Yp t n->(t.red||t.left.red)=true->
  ∃t',DropFirst t t'/\Yp t' n/\(t.red=false->t'.red=false)/\t'.flat=t.flat.tail
 |0,.nil,n,_,_,h=>by cases h
 |s+1,.nil,n,_,_,h=>by cases h
 |s+1,.aD x c l r,n,hs,hf,hD=>by
  obtain⟨m,K,Z,J,aa,rfl⟩:=hf.parts;rw[Vt]at hs;simp only[Mn,Vs]at hD;by_cases V:l=.nil
  .subst V;have hc:c=true:=by simpa[Tr.red]using hD
   subst hc;have hm:m=0:=by have:=K.2.2;simp[Tr.bh]at this;omega
   subst hm;obtain rfl:=Z.nil_of J;exact⟨.nil,.last x true .nil,⟨trivial,trivial,rfl⟩,λ_=>rfl,rfl⟩
  .cases E:(l.red||l.left.red)with
   |true=> obtain⟨R,d,f,q,e⟩:=Vr s l m (by omega) K E;have U:c=true->R.red=false:=λh=>q (aa h);obtain⟨b1,b2⟩:=Oo (x:=x) f Z J U;refine⟨_,.stay x c l r R E d,b1,λh=>b2.trans h,?_⟩;rw[Kk,Tr.flat,Tr.flat,e,Bc (Qrh E)]
   |false=>
    simp only[Bool.or_eq_false_iff]at E;have hc:c=true:=by simpa[E.1]using hD
    subst hc;cases m with
    |zero=>exact absurd (K.nil_of E.1) V
    |succ m=>
     obtain⟨y,k,B,rfl⟩:=K.node_of E.1;obtain⟨z,zl,I,rfl⟩:=Z.node_of J;have hy:k.red=false:=E.2;simp only[Vt]at hs;cases hz:zl.red with
     |false=> obtain⟨R,d,f,q,e⟩:=Vr s (.aD y true k B) m (by simp only[Vt];omega) (K.toRed hy) rfl;refine⟨_,.turnA x y z k B zl I R hy hz d,M8 f (Z.toRed hz),nofun,?_⟩;rw[Kk,Jb,e,show(Tr.aD x true (Tr.aD y false k B) (Tr.aD z false zl I)).flat=(Tr.aD y true k B).flat++(x.n,x.i,x.v)::(Tr.aD z true zl I).flat from rfl,Bc I7]
     |true=>
      obtain⟨u,ul,ur,rfl⟩:=Yg hz;obtain⟨m',k1,k2,k3,k4,k5⟩:=Z.parts;obtain rfl:m=m':=by simpa using k5
      obtain⟨m',g1,g2,g3,g4,g5⟩:=k1.parts;obtain rfl:m=m':=by simpa using g5
      have g4:=g4 rfl;simp only[Vt]at hs;obtain⟨R,d,f,q,e⟩:=Vr s (mk x false (.aD y true k B) ul) (m+1) (by simp only[Vt,Qfu];omega) (Yp.aD (c:=false) (K.toRed hy) g1 g4 nofun) rfl;have ab:Yp (mk z false ur I) (m+1):=Yp.aD (c:=false) g2 k2 k3 nofun;obtain⟨b1,b2⟩:=Oo (x:=u.re (mk x true (.aD y true k B) ul) (mk z true ur I)) (c:=true) f ab rfl (λ_=>q rfl);refine⟨_,.turnB x y z u k B ul ur I R hy d,b1,nofun,?_⟩;rw[Kk,Jb,e,Vn,Vn,Bc I7,show(Tr.aD x true (Tr.aD y false k B) (Tr.aD z false (Tr.aD u true ul ur) I)).flat=(Tr.aD y true k B).flat++(x.n,x.i,x.v)::((ul.flat++(u.n,u.i,u.v)::ur.flat)++(z.n,z.i,z.v)::I.flat)from rfl,Bc I7];simp[Nd.re]
abbrev Xu:=Nat×Int×Nat
def Mv(e f:Xu):Prop:=e.1<f.1\/e.1=f.1/\e.2.1<f.2.1
abbrev Xd(l:List Xu):Prop:=l.Pairwise Mv
def del(n:Nat)(i:Int)(l:List Xu):List Xu:=l.filter λe=>!decide (e.1=n/\e.2.1=i)
theorem Qm4(n:Nat)(i:Int)(a b:List Xu):del n i (a++b)=del n i a++del n i b:=by simp[del]
theorem Wa{n:Nat}{i:Int}{l:List Xu}(h:∀e∈l,¬(e.1=n/\e.2.1=i)):del n i l=l:=by refine List.filter_eq_self.2 λe c=>?_;simp only[Bool.not_eq_true',decide_eq_false_iff_not];exact h e c
theorem Nf{n:Nat}{i:Int}{a b:List Xu}(h:∀e∈b,¬(e.1=n/\e.2.1=i)):del n i (a++b)=del n i a++b:=by rw[Qm4,Wa h]
theorem Vq{n:Nat}{i:Int}{a b:List Xu}(h:∀e∈a,¬(e.1=n/\e.2.1=i)):del n i (a++b)=a++del n i b:=by rw[Qm4,Wa h]
theorem Nc{n:Nat}{i:Int}{e:Xu}{b:List Xu}(h:e.1=n/\e.2.1=i)(c:∀f∈b,¬(f.1=n/\f.2.1=i)):del n i (e::b)=b:=by
 have:del n i (e::b)=del n i b:=by simp[del,h]
 rw[this,Wa c]
theorem Qdf{a b c:Xu}(h:Mv a b)(h':Mv b c):Mv a c:=by unfold Mv at*;omega
theorem Lc{a b:List Xu}{x:Xu}(h:Xd (a++x::b)):Xd a/\Xd b/\(∀e∈a,Mv e x)/\(∀e∈b,Mv x e):=by obtain⟨c,d,k⟩:=List.pairwise_append.1 h;obtain⟨q,u⟩:=List.pairwise_cons.1 d;exact⟨c,u,λe z=>k e z x (by simp),q⟩
theorem Qkz{n:Nat}{i:Int}{x:Nd}:lt n i x=true↔n<x.n\/n=x.n/\i<x.i:=by simp[lt]
theorem Qru{n:Nat}{i:Int}{x:Nd}:lt n i x=false↔¬(n<x.n\/n=x.n/\i<x.i):=by simp[lt]
theorem Qdt{n:Nat}{i:Int}{x:Nd}(h:lt n i x=true){e:Xu}(c:Mv (x.n,x.i,x.v) e):¬(e.1=n/\e.2.1=i):=by unfold Mv at*;grind [Qkz]
theorem Qt3{n:Nat}{i:Int}{x:Nd}(h:lt n i x=true):¬(x.n=n/\x.i=i):=by rw[Qkz]at h;omega
theorem Qaw{n:Nat}{i:Int}{x:Nd}(h:lt n i x=false){e:Xu}(c:Mv e (x.n,x.i,x.v)):¬(e.1=n/\e.2.1=i):=by unfold Mv at*;grind [Qru]
def Tr.has(t:Tr)(n:Nat)(i:Int):Prop:=∃e∈t.flat,e.1=n/\e.2.1=i
theorem Bz{x:Nd}{l r:Tr}{m:Nat}(q:Yp l m)(k:Yp r m)(d:l.red=false):Yp (Gs (.aD x false l r)) (m+1)/\(Gs (.aD x false l r)).red=false:=by
 refine⟨M8 q k,?_⟩;cases h:r.red with
 |false=>exact(Oo (c:=false) q k h nofun).2
 |true=> obtain⟨z,u,B,rfl⟩:=Yg h;rw[At d k.1.2.2.1];rfl
theorem Qoa{n:Nat}{i:Int}{x:Nd}{l r:Tr}{m:Nat}(hl:Yp l m)(hr:Yp r m)(k:l.red=false)(I:r.red=true)(hx:lt n i x=false)
  (hs:Xd (l.flat++(x.n,x.i,x.v)::r.flat))(ih:r.has n i->∃u,Drop n i r u/\Yp u m/\(r.red=false->u.red=false)/\u.flat=del n i r.flat)
  (hh:(mk x false l r).has n i):∃J,Drop n i (mk x false l r) J/\Yp J (m+1)/\J.red=false/\J.flat=del n i (mk x false l r).flat:=by
 obtain⟨sl,sr,ab,ac⟩:=Lc hs;have B:∀e∈l.flat,¬(e.1=n/\e.2.1=i):=λe c=>Qaw hx (ab e c);have U:(r.red||r.left.red)=true:=by rw[I];rfl
 by_cases E:x.n=n/\x.i=i
 .obtain⟨u,d,f,q,e⟩:=Vr r.size r m (Zv _) hr U;obtain⟨K,R⟩:=Bz (x:=(x.re l r).as r.first) hl f k;refine⟨_,.aX (x.re l r) false l r u hx k E U d,K,R,?_⟩;have aa:r≠ .nil:=by rintro rfl;cases I
  rw[Kk,Jb,Vn,e,Vq B,Nc E (λf V=>?_)];·have:=E5 aa;rw[this];rfl
  .intro ae;have:=ac f V;unfold Mv at this;dsimp only at this;omega
 .have Z:r.has n i:=by
   obtain⟨e,c,z⟩:=hh;rw[Vn]at c;rcases Zl.1 c with c|c;·exact absurd z (B e c)
   .rcases Zu.1 c with rfl|c;·exact absurd z E
    .exact⟨e,c,z⟩
  obtain⟨u,d,f,q,e⟩:=ih Z;obtain⟨K,R⟩:=Bz (x:=x.re l r) hl f k;refine⟨_,.passC (x.re l r) false l r u hx k E U d,K,R,?_⟩;rw[Kk,Jb,Vn,e,Vq B];congr 1;rw[show(x.n,x.i,x.v)::r.flat=[(x.n,x.i,x.v)]++r.flat from rfl,Vq (λf V=>by
   obtain rfl:f=_:=by simpa using V
   exact E)]
  rfl
theorem Oa(n:Nat)(i:Int):∀(s:Nat)(t:Tr)(m:Nat),t.size<=s->Yp t m->(t.red||t.left.red)=true->Xd t.flat->t.has n i->
  ∃t',Drop n i t t'/\Yp t' m/\(t.red=false->t'.red=false)/\t'.flat=del n i t.flat
 |0,.nil,m,_,_,h,_,_=>by cases h
 |s+1,.nil,m,_,_,h,_,_=>by cases h
 |s+1,.aD x c l r,m0,hs,k,hD,hsort,hh=>by
  obtain⟨m,hl,hr,ae,al,rfl⟩:=k.parts;rw[Vt]at hs;rw[Jb]at hsort;obtain⟨sl,sr,aw,ap⟩:=Lc hsort;simp only[Mn,Vs]at hD;obtain⟨e,he,aa⟩:=hh;rw[Jb]at he;cases hx:lt n i x with
  |true=>
   have av:=Qt3 hx;have ar:∀f∈r.flat,¬(f.1=n/\f.2.1=i):=λf k=>Qdt hx (ap f k);have af:∀f∈(x.n,x.i,x.v)::r.flat,¬(f.1=n/\f.2.1=i):=by
    intro f k;rcases Zu.1 k with rfl|k;·exact av
    .exact ar f k
   have ah:l.has n i:=by
    rcases Zl.1 he with he|he;·exact⟨e,he,aa⟩
    .exact absurd aa (af e he)
   have aq:l≠ .nil:=by rintro rfl;obtain⟨f,k,_⟩:=ah;cases k
   cases Z:(l.red||l.left.red)with
   |true=> obtain⟨l',d,f,q,U⟩:=Oa n i s l m (by omega) hl Z sl ah;have am:c=true->l'.red=false:=λh=>q (al h);obtain⟨b1,b2⟩:=Oo (x:=x) f hr ae am;refine⟨_,.stay x c l r l' hx Z d,b1,λh=>b2.trans h,?_⟩;rw[Kk,Jb,Jb,U,Nf af]
   |false=>
    simp only[Bool.or_eq_false_iff]at Z;have hc:c=true:=by simpa[Z.1]using hD
    subst hc;cases m with
    |zero=>exact absurd (hl.nil_of Z.1) aq
    |succ m=>
     obtain⟨y,R,I,rfl⟩:=hl.node_of Z.1;obtain⟨z,E,B,rfl⟩:=hr.node_of ae;have hy:R.red=false:=Z.2;simp only[Vt]at hs;cases hz:E.red with
     |false=> obtain⟨l',d,f,q,U⟩:=Oa n i s (.aD y true R I) m (by simp only[Vt];omega) (hl.toRed hy) rfl sl ah;refine⟨_,.turnA x y z R I E B l' hx hy hz d,M8 f (hr.toRed hz),nofun,?_⟩;rw[Kk,Jb,Jb x true,U,Nf af];rfl
     |true=>
      obtain⟨u,ul,ur,rfl⟩:=Yg hz;obtain⟨m',k1,k2,k3,k4,k5⟩:=hr.parts;obtain rfl:m=m':=by simpa using k5
      obtain⟨m',g1,g2,g3,g4,g5⟩:=k1.parts;obtain rfl:m=m':=by simpa using g5
      have g4:=g4 rfl;simp only[Vt]at hs;have eR:(Tr.aD z false (Tr.aD u true ul ur) B).flat=ul.flat++((u.n,u.i,u.v)::ur.flat++(z.n,z.i,z.v)::B.flat):=by simp[Jb]
      have K:Xd (mk x false (.aD y true R I) ul).flat:=by
       rw[Vn];rw[eR]at hsort;have:Xd (((Tr.aD y false R I).flat++(x.n,x.i,x.v)::ul.flat)++((u.n,u.i,u.v)::ur.flat++(z.n,z.i,z.v)::B.flat)):=by simpa using hsort
       exact(List.pairwise_append.1 this).1
      obtain⟨l',d,f,q,U⟩:=Oa n i s (mk x false (.aD y true R I) ul) (m+1) (by simp only[Vt,Qfu];omega) (Yp.aD (c:=false) (hl.toRed hy) g1 g4 nofun) rfl K (by
       obtain⟨f,k,an⟩:=ah;exact⟨f,by rw[Vn];exact List.mem_append_left _ k,an⟩)
      have ax:Yp (mk z false ur B) (m+1):=Yp.aD (c:=false) g2 k2 k3 nofun;obtain⟨b1,b2⟩:=Oo (x:=u.re (mk x true (.aD y true R I) ul) (mk z true ur B)) (c:=true) f ax rfl (λ_=>q rfl);refine⟨_,.turnB x y z u R I ul ur B l' hx hy d,b1,nofun,?_⟩;have au:∀f∈(x.n,x.i,x.v)::ul.flat,¬(f.1=n/\f.2.1=i):=by
       intro f k;refine af f ?_;rw[eR];rcases Zu.1 k with rfl|k;·simp
       .simp[k]
      rw[Kk,Jb,U,Vn,Vn,Nf au,Jb x true,Nf af,eR];simp[Nd.re,Tr.flat]
  |false=>
   have ab:∀f∈l.flat,¬(f.1=n/\f.2.1=i):=λf k=>Qaw hx (aw f k);have ac:e∈(x.n,x.i,x.v)::r.flat:=by
    rcases Zl.1 he with he|he;·exact absurd aa (ab e he)
    .exact he
   cases V:l.red with
   |true=>
    obtain⟨y,R,I,rfl⟩:=Yg V;have hc:c=false:=by
     cases c with
     |false=>rfl
     |true=>exact absurd (al rfl) (by simp[Tr.red])
    subst hc;obtain⟨m',k1,k2,k3,k4,k5⟩:=hl.parts;obtain rfl:m=m':=by simpa using k5
    have k4:=k4 rfl;simp only[Vt]at hs;have eL:(Tr.aD y true R I).flat++(x.n,x.i,x.v)::r.flat=(R.flat++[(y.n,y.i,y.v)])++(mk x true I r).flat:=by simp[Jb,Vn]
    have ag:∀f∈R.flat++[(y.n,y.i,y.v)],¬(f.1=n/\f.2.1=i):=λf k=>ab f (by
     rw[Jb];rcases Zl.1 k with k|k;·exact List.mem_append_left _ k
     .obtain rfl:f=_:=by simpa using k
      simp)
    have ak:¬(y.n=n/\y.i=i):=ag (y.n,y.i,y.v) (by simp);have K:Xd (mk x true I r).flat:=by rw[eL]at hsort;exact(List.pairwise_append.1 hsort).2.1
    obtain⟨r',d,f,q,U⟩:=Oa n i s (mk x true I r) m (by rw[Qfu];omega) (Yp.aD (c:=true) k2 hr ae (λ_=>k3)) rfl K ⟨e,by rw[Vn];exact List.mem_append_right _ ac,aa⟩;obtain⟨b1,b2⟩:=Bz (x:=y.re R (mk x true I r)) k1 f k4;refine⟨_,.right x y false R I r r' hx ak d,b1,λ_=>b2,?_⟩;rw[Kk,Jb,Jb x false,eL,Vq ag,U];simp[Nd.re]
   |false=>
    have hc:c=true:=by simpa[V]using hD
    subst hc;have aj:¬(x.n=n/\x.i=i)->r.has n i:=by
     intro J;rcases Zu.1 ac with rfl|ac;·exact absurd aa J
     .exact⟨e,ac,aa⟩
    have ao:(x.n=n/\x.i=i)->∀f∈r.flat,¬(f.1=n/\f.2.1=i):=by intro J f k an;have:=ap f k;unfold Mv at this;dsimp only at this;omega
    by_cases ai:r=.nil
    .subst ai;have J:x.n=n/\x.i=i:=Classical.byContradiction λJ=>by obtain⟨f,k,_⟩:=aj J;cases k
     have hm:m=0:=by have:=hr.2.2;simp[Tr.bh]at this;omega
     subst hm;obtain rfl:=hl.nil_of V;exact⟨.nil,.here x true .nil hx rfl J,⟨trivial,trivial,rfl⟩,λ_=>rfl,by simp[Tr.flat,del,J]⟩
    .cases Z:(r.red||r.left.red)with
     |true=>
      by_cases J:x.n=n/\x.i=i;·obtain⟨r',d,f,q,U⟩:=Vr r.size r m (Zv _) hr Z;obtain⟨b1,b2⟩:=Oo (x:=x.as r.first) (c:=true) hl f (q ae) (λ_=>V);refine⟨_,.aX x true l r r' hx V J Z d,b1,nofun,?_⟩;rw[Kk,Jb,Jb x true,U,Vq ab,Nc J (ao J),E5 ai];rfl
      .obtain⟨r',d,f,q,U⟩:=Oa n i s r m (by omega) hr Z sr (aj J);obtain⟨b1,b2⟩:=Oo (x:=x) (c:=true) hl f (q ae) (λ_=>V);refine⟨_,.passC x true l r r' hx V J Z d,b1,nofun,?_⟩;rw[Kk,Jb,Jb x true,U,Vq ab,show(x.n,x.i,x.v)::r.flat=[(x.n,x.i,x.v)]++r.flat from rfl,Vq (λf k=>by
        obtain rfl:f=_:=by simpa using k
        exact J)]
       rfl
     |false=>
      simp only[Bool.or_eq_false_iff]at Z;cases m with
      |zero=>exact absurd (hr.nil_of Z.1) ai
      |succ m=>
       obtain⟨y,R,I,rfl⟩:=hl.node_of V;obtain⟨z,E,B,rfl⟩:=hr.node_of Z.1;have hz:E.red=false:=Z.2;simp only[Vt]at hs;have fz:=hr.toRed hz;have ez:(Tr.aD z true E B).flat=(Tr.aD z false E B).flat:=rfl;have ih:(Tr.aD z true E B).has n i->∃r',Drop n i (.aD z true E B) r'/\Yp r' m/\((Tr.aD z true E B).red=false->r'.red=false)/\r'.flat=del n i (Tr.aD z true E B).flat:=
        λh=>Oa n i s (.aD z true E B) m (by simp only[Vt];omega) fz rfl sr h
       cases hy:R.red with
       |false=>
        have fy:=hl.toRed hy;by_cases J:x.n=n/\x.i=i;·obtain⟨r',d,f,q,U⟩:=Vr (Tr.aD z true E B).size (.aD z true E B) m (Zv _) fz rfl;refine⟨_,.takeA x y z R I E B r' hx J hy hz d,M8 fy f,nofun,?_⟩;rw[Kk,Jb,Jb x true,U,Vq ab,Nc J (ao J),<-ez,E5 (t:=Tr.aD z true E B) nofun];rfl
        .obtain⟨r',d,f,q,U⟩:=ih (aj J);refine⟨_,.passA x y z R I E B r' hx J hy hz d,M8 fy f,nofun,?_⟩;rw[Kk,Jb,Jb x true,U,Vq ab,show(x.n,x.i,x.v)::(Tr.aD z false E B).flat=[(x.n,x.i,x.v)]++(Tr.aD z true E B).flat from rfl,Vq (λf k=>by
          obtain rfl:f=_:=by simpa using k
          exact J)]
         rfl
       |true=>
        obtain⟨u,ul,ur,rfl⟩:=Yg hy;obtain⟨m',k1,k2,k3,k4,k5⟩:=hl.parts;obtain rfl:m=m':=by simpa using k5
        have eL:(Tr.aD y false (Tr.aD u true ul ur) I).flat++(x.n,x.i,x.v)::(Tr.aD z false E B).flat=((Tr.aD u true ul ur).flat++[(y.n,y.i,y.v)])++(mk x false I (Tr.aD z true E B)).flat:=by simp[Jb,Vn]
        have ag:∀f∈(Tr.aD u true ul ur).flat++[(y.n,y.i,y.v)],¬(f.1=n/\f.2.1=i):=λf k=>ab f (by
         rw[Jb];rcases Zl.1 k with k|k;·exact List.mem_append_left _ k
         .obtain rfl:f=_:=by simpa using k
          simp)
        have ak:¬(y.n=n/\y.i=i):=ag (y.n,y.i,y.v) (by simp);have K:Xd (mk x false I (Tr.aD z true E B)).flat:=by rw[eL]at hsort;exact(List.pairwise_append.1 hsort).2.1
        obtain⟨t',d,f,q,U⟩:=Qoa (x:=x) k2 fz k3 rfl hx (by rw[Vn]at K;exact K) ih ⟨e,by rw[Vn];exact List.mem_append_right _ ac,aa⟩;have fu:Yp (.aD u false ul ur) (m+1):=k1.black;obtain⟨b1,b2⟩:=Oo (x:=y.re (.aD u true ul ur) (mk x true I (.aD z true E B))) (c:=true) fu f q (λ_=>rfl);refine⟨_,.passB x y z u ul ur I E B t' hx ak hz d,b1,nofun,?_⟩;rw[Kk,Jb,Jb x true,eL,Vq ag,U];simp[Nd.re,Jb]
instance(e f:Xu):Decidable (Mv e f):=by unfold Mv;infer_instance
def Un(e:Xu):List Xu->List Xu
 |[]=>[e]
 |f::l=>if Mv e f then e::f::l else f::Un e l
theorem Qdd{e x:Xu}(h:Mv e x)(r:List Xu):∀l:List Xu,Un e (l++x::r)=Un e l++x::r
 |[]=>by simp[Un,h]
 |f::l=>by
  simp only[List.cons_append,Un];split;·rfl
  .rw[Qdd h r l];rfl
theorem Wy{e x:Xu}(h:¬Mv e x)(r:List Xu):∀l:List Xu,(∀f∈l,Mv f x)->Un e (l++x::r)=l++x::Un e r
 |[],_=>by simp[Un,h]
 |f::l,hl=>by have c:¬Mv e f:=λc=>h (Qdf c (hl f (by simp)));simp only[List.cons_append,Un,c,if_false];rw[Wy h r l (λg d=>hl g (by simp[d]))]
theorem Lb{e g:Xu}:∀{l:List Xu},g∈Un e l↔g=e\/g∈l
 |[]=>by simp[Un]
 |f::l=>by
  simp only[Un];split;·simp
  .simp only[Zu,Lb (l:=l)];constructor
   .rintro(h|h|h);·exact .inr (.inl h)
    .exact .inl h
    .exact .inr (.inr h)
   .rintro(h|h|h);·exact .inr (.inl h)
    .exact .inl h
    .exact .inr (.inr h)
theorem Rt{e:Xu}:∀{l:List Xu},Xd l->(∀f∈l,¬(f.1=e.1/\f.2.1=e.2.1))->Xd (Un e l)
 |[],_,_=>by simp[Un,Xd]
 |f::l,h,hne=>by
  obtain⟨k,q⟩:=List.pairwise_cons.1 h;simp only[Un];split
  .rename_i d;refine List.pairwise_cons.2 ⟨?_,h⟩;intro g c;rcases Zu.1 c with rfl|c;·exact d
   .exact Qdf d (k g c)
  .rename_i d;refine List.pairwise_cons.2 ⟨?_,Rt q λg c=>hne g (by simp[c])⟩;intro g c;rcases Lb.1 c with rfl|c;·have:=hne f (by simp);unfold Mv at d|-;omega
   .exact k g c
theorem Qrv{n:Nat}{i:Int}{v:Nat}{x:Nd}:lt n i x=true↔Mv (n,i,v) (x.n,x.i,x.v):=Qkz
theorem Qa7(n:Nat)(i:Int)(v a:Nat):∀t:Tr,Xd t.flat->(t.put n i v a).flat=Un (n,i,v) t.flat
 | .nil,_=>rfl
 | .aD x c l r,h=>by
  rw[Jb]at h;obtain⟨u,z,q,B⟩:=Lc h;simp only[Tr.put];cases d:lt n i x with
  |true=> simp only[if_true];rw[Kk,Jb,Qa7 n i v a l u,Jb,Qdd (Qrv.1 d)]
  |false=>
   have k:¬Mv (n,i,v) (x.n,x.i,x.v):=λh'=>by rw[Qrv.2 h']at d;cases d
   simp only[Bool.false_eq_true,if_false];rw[Kk,Jb,Qa7 n i v a r z,Jb,Wy k _ _ q]
theorem Ql1{n:Nat}{i:Int}{l:List Xu}(h:Xd l):Xd (del n i l):=h.sublist List.filter_sublist
theorem Cu(n:Nat)(i:Int)(v a:Nat):∀t:Tr,(t.put n i v a).aC.Perm (a::t.aC)
 | .nil=>.refl _
 | .aD x c l r=>by
  simp only[Tr.put];split;·rw[Kd];simp only[Tr.aC];exact((Cu n i v a l).append_right _)
  .rw[Kd];simp only[Tr.aC];exact(((Cu n i v a r).cons x.a).append_left l.aC).trans (((List.Perm.swap a x.a r.aC).append_left l.aC).trans List.perm_middle)
theorem Hp(x:Nd)(c:Bool)(l r:Tr):(Tr.aD x c l r).aC=l.aC++x.a::r.aC:=rfl
theorem Kh{t B:Tr}(h:DropFirst t B):B.aC.Sublist t.aC:=by
 induction h with
 |last x c r=>exact List.nil_sublist _
 |stay x c l r q V d k=>rw[Kd];exact k.append (List.Sublist.refl _)
 |turnA x y z K R zl E q I U d k=>rw[Kd];exact k.append (List.Sublist.refl _)
 |turnB x y z u K R Z J E q I d k=> rw[Kd];have:=k.append (List.Sublist.refl (u.a::(J.aC++z.a::E.aC)));simp only[Hp,Ly]at this|-;simpa[Nd.re]using this
theorem Hs{n:Nat}{i:Int}{t t':Tr}(h:Drop n i t t'):t'.aC.Sublist t.aC:=by
 induction h with
 |stay x c l r l' q hd d k=>rw[Kd];exact k.append (List.Sublist.refl _)
 |turnA x y z E I Z R l' q B J d k=>rw[Kd];exact k.append (List.Sublist.refl _)
 |turnB x y z u E I ul V R l' q B d k=> rw[Kd];have:=k.append (List.Sublist.refl (u.a::(V.aC++z.a::R.aC)));simp only[Hp,Ly]at this|-;simpa[Nd.re]using this
 |right x y c E I r K q B d k=> rw[Kd];have:=(List.Sublist.refl (E.aC++[y.a])).append k;simp only[Hp,Ly]at this|-;simpa[Nd.re]using this
 |here x c l q B J=>exact List.nil_sublist _
 |passA x y z E I Z R K q B J U d k=> rw[Kd];have:=(List.Sublist.refl ((Tr.aD y true E I).aC++[x.a])).append k;simp only[Hp]at this|-;simpa using this
 |takeA x y z E I Z R K q B J U d=> rw[Kd];have:=(List.Sublist.refl ((Tr.aD y true E I).aC++[x.a])).append (Kh d);simp only[Hp]at this|-;simpa[Nd.as]using this
 |passB x y z u ul V I Z R K q B J d k=> rw[Kd];have:=(List.Sublist.refl ((Tr.aD u true ul V).aC++[y.a])).append k;simp only[Hp,Ly]at this|-;simpa[Nd.re]using this
 |passC x c l r K q B J U d k=> rw[Kd];have:=(List.Sublist.refl (l.aC++[x.a])).append k;simp only[Hp]at this|-;simpa using this
 |aX x c l r K q B J U d=> rw[Kd];have:=(List.Sublist.refl (l.aC++[x.a])).append (Kh d);simp only[Hp]at this|-;simpa[Nd.as]using this
def Xg(a b:Nat×Int):Prop:=a.1<b.1\/a.1=b.1/\a.2<b.2
theorem Qo0(a b:Nat×Int):Xn a b=a\/Xn a b=b:=by grind [Xn]
theorem Nq(a b c:Nat×Int):Xn (Xn a b) c=Xn a (Xn b c):=by grind [Xn]
def low:List Xu->Option (Nat×Int)
 |[]=>none
 |e::l=>match low l with
  |none=>some (e.2.2,e.2.1)
  |some s=>some (Xn (e.2.2,e.2.1) s)
def jn:Option (Nat×Int)->Option (Nat×Int)->Option (Nat×Int)
 |none,b=>b
 |a,none=>a
 |some a,some b=>some (Xn a b)
theorem Qab(a b c:Option (Nat×Int)):jn (jn a b) c=jn a (jn b c):=by cases a<;>cases b<;>cases c<;>simp[jn,Nq]
theorem Nr:∀a b:List Xu,low (a++b)=jn (low a) (low b)
 |[],b=>rfl
 |e::a,b=>by rw[List.cons_append,low,Nr a b,low];cases ha:low a<;>cases c:low b<;>simp[jn,Nq]
theorem Qnc(e:Xu):low [e]=some (e.2.2,e.2.1):=rfl
def Tr.sum:Tr->Option (Nat×Int)
 | .nil=>none
 | .aD x _ _ _=>some (x.sv,x.si)
theorem Qmo(x:Nd)(l r:Tr):some (Pr x l r)=jn (jn l.sum (some (x.v,x.i))) r.sum:=by cases l<;>cases r<;>rfl
theorem Bb:∀t:Tr,t.even->t.sum=low t.flat
 | .nil,_=>rfl
 | .aD x c l r,⟨hl,hr,_,hs⟩=>by
  have e:(Tr.aD x c l r).sum=some (Pr x l r):=by rw[<-hs];rfl
  rw[e,Qmo,Bb l hl,Bb r hr,Jb,Nr,Qab];congr 1;rw[show(x.n,x.i,x.v)::r.flat=[(x.n,x.i,x.v)]++r.flat from rfl,Nr,Qnc]
theorem Cn:∀{l:List Xu}{s:Nat×Int},low l=some s->∀e∈l,s.1<=e.2.2
 |e::l,s,h,f,d=>by
  rw[low]at h;cases c:low l with
  |none=>
   cases l with
   |nil=>
    rw[c]at h;obtain rfl:=Zs h;obtain rfl:f=e:=by simpa using d
    exact Zv _
   |cons g l=>rw[low]at c;cases k:low l<;>rw[k]at c<;>cases c
  |some q=>
   rw[c]at h;obtain rfl:=Zs h;rcases Zu.1 d with rfl|d
   .unfold Xn;split;·exact Zv _
    .rename_i h';simp only[not_or]at h';omega
   .have:=Cn c f d;unfold Xn;split
    .rename_i h';rcases h' with h'|h'|h';·have:=congrArg Prod.fst h';simp at this;omega
     .simp at h';omega
     .have:=h'.1;simp at this;omega
    .exact this
theorem Qe9:∀{l:List Xu}{s:Nat×Int},low l=some s->∃e∈l,s=(e.2.2,e.2.1)
 |e::l,s,h=>by
  rw[low]at h;cases c:low l with
  |none=> rw[c]at h;obtain rfl:=Zs h;exact⟨e,by simp,rfl⟩
  |some q=>
   rw[c]at h;obtain rfl:=Zs h;rcases Qo0 (e.2.2,e.2.1) q with h'|h';·exact⟨e,by simp,h'⟩
   .obtain⟨f,d,k⟩:=Qe9 c;exact⟨f,by simp[d],h'.trans k⟩
def Tr.at(n:Nat)(i:Int):Tr->Tr
 | .nil=>.nil
 | .aD x c l r=>if x.n=n/\x.i=i then .aD x c l r else if lt n i x then l.at n i else r.at n i
theorem Ap{n:Nat}{i:Int}:∀{t:Tr},Xd t.flat->(t.at n i=.nil↔∀e∈t.flat,¬(e.1=n/\e.2.1=i))
 | .nil,_=>by simp[Tr.at,Tr.flat]
 | .aD x c l r,h=>by
  rw[Jb]at h|-;obtain⟨B,E,u,z⟩:=Lc h;rw[Tr.at];by_cases k:x.n=n/\x.i=i;·rw[if_pos k];simp only[reduceCtorEq,false_iff];intro h';exact h' (x.n,x.i,x.v) (by simp) k
  .rw[if_neg k];cases q:lt n i x with
   |true=>
    rw[if_pos rfl,Ap B];constructor
    .intro h' e d;rcases Zl.1 d with d|d;·exact h' e d
     .rcases Zu.1 d with rfl|d;·exact k
      .exact Qdt q (z e d)
    .intro h' e d;exact h' e (List.mem_append_left _ d)
   |false=>
    rw[if_neg (by simp),Ap E];constructor
    .intro h' e d;rcases Zl.1 d with d|d;·exact Qaw q (u e d)
     .rcases Zu.1 d with rfl|d;·exact k
      .exact h' e d
    .intro h' e d;exact h' e (List.mem_append_right _ (Zr _ d))
theorem Qer{n:Nat}{i:Int}{y:Nd}{d:Bool}{a b:Tr}:∀{t:Tr},t.at n i=.aD y d a b->y.n=n/\y.i=i/\(n,i,y.v)∈t.flat
 | .nil,h=>by cases h
 | .aD x c l r,h=>by
  rw[Tr.at]at h;split at h;·rename_i z;injection h with k q u B;subst k;refine⟨z.1,z.2,?_⟩;rw[Jb,<-z.1,<-z.2];simp
  .split at h;·obtain⟨k,q,u⟩:=Qer h;exact⟨k,q,by rw[Jb];exact List.mem_append_left _ u⟩
   .obtain⟨k,q,u⟩:=Qer h;exact⟨k,q,by rw[Jb];exact List.mem_append_right _ (Zr _ u)⟩
def Tr.upto(n:Nat):Tr->Option (Nat×Int)->Option (Nat×Int)
 | .nil,s=>s
 | .aD x _ l r,s=>if n<x.n then l.upto n s else r.upto n (jn (jn s l.sum) (some (x.v,x.i)))
theorem Qna(a:Option (Nat×Int)):jn a none=a:=by cases a<;>rfl
theorem Qb1(n:Nat):∀(t:Tr)(s:Option (Nat×Int)),t.even->Xd t.flat->t.upto n s=jn s (low (t.flat.filter λe=>decide (e.1<=n)))
 | .nil,s,_,_=>by simp[Tr.upto,Tr.flat,low,Qna]
 | .aD x c l r,s,⟨el,er,_,_⟩,h=>by
  rw[Jb]at h|-;obtain⟨E,I,z,B⟩:=Lc h;rw[Tr.upto,List.filter_append];by_cases k:n<x.n
  .rw[if_pos k,Qb1 n l s el E];have:((x.n,x.i,x.v)::r.flat).filter (λe=>decide (e.1<=n))=[]:=by
    refine List.filter_eq_nil_iff.2 λe d=>?_;simp only[decide_eq_true_eq];rcases Zu.1 d with rfl|d;·dsimp only;omega
    .have:=B e d;unfold Mv at this;dsimp only at this;omega
   rw[this,List.append_nil]
  .rw[if_neg k,Qb1 n r _ er I];have q:l.flat.filter (λe=>decide (e.1<=n))=l.flat:=by refine List.filter_eq_self.2 λe d=>?_;simp only[decide_eq_true_eq];have:=z e d;unfold Mv at this;dsimp only at this;omega
   have u:((x.n,x.i,x.v)::r.flat).filter (λe=>decide (e.1<=n))=[(x.n,x.i,x.v)]++r.flat.filter (λe=>decide (e.1<=n)):=by rw[List.filter_cons,if_pos (by simpa using k)];rfl
   rw[q,u,Nr,Nr,Qnc,Bb l el,Qab,Qab]
def Tr.within(v:Nat):Tr->Option (Nat×Int×Nat)
 | .nil=>none
 | .aD x _ l r=>match l.sum with
  |some s=>if s.1<=v then l.within v else if x.v<=v then some (x.n,x.i,x.v)else r.within v
  |none=>if x.v<=v then some (x.n,x.i,x.v)else r.within v
theorem Ei:∀{l:List Xu},low l=none->l=[]
 |[],_=>rfl
 |e::l,h=>by rw[low]at h;cases c:low l<;>rw[c]at h<;>cases h
theorem Sa(v:Nat):∀(t:Tr),t.even->t.within v=t.flat.find? λe=>decide (e.2.2<=v)
 | .nil,_=>rfl
 | .aD x c l r,⟨el,er,_,_⟩=>by
  have R:=Sa v l el;have I:=Sa v r er;have k:=Bb l el;rw[Tr.within,Jb,List.find?_append,List.find?_cons];cases d:l.sum with
  |none=>
   dsimp only;rw[d]at k;rw[Ei k.symm,List.find?_nil,Option.none_or];by_cases u:x.v<=v;·simp[u]
   .simp[u,I]
  |some s=>
   dsimp only;rw[d]at k;by_cases z:s.1<=v
   .rw[if_pos z,R];obtain⟨e,B,E⟩:=Qe9 k.symm;have:(l.flat.find? λe=>decide (e.2.2<=v)).isSome=true:=by rw[List.find?_isSome];exact⟨e,B,by rw[E]at z;simpa using z⟩
    obtain⟨q,K⟩:=Option.isSome_iff_exists.1 this;rw[K];rfl
   .rw[if_neg z];have J:(l.flat.find? λe=>decide (e.2.2<=v))=none:=by rw[List.find?_eq_none];intro e B;have:=Cn k.symm e B;simp only[decide_eq_true_eq];omega
    rw[J,Option.none_or];by_cases u:x.v<=v;·simp[u]
    .simp[u,I]
end Go.Proofs.YtigcnnkagkbflaaGreat
