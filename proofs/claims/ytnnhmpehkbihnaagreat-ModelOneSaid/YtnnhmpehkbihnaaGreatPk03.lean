/- A part of the proof: no condition. -/
import Derived.Test.YtnnhmpehkbihnaaGreatPk01
import Init
namespace Go.Proofs.YtnnhmpehkbihnaaGreat
set_option linter.unusedVariables false
set_option maxRecDepth 100000
set_option maxHeartbeats 4000000
open Go.RowKit
open Go.Proofs.Tryz
structure Nd where
 a:Nat
 n:Nat
 i:Int
 v:Nat
 sv:Nat
 si:Int
inductive Tr where
 |nil
 |aD(x:Nd)(c:Bool)(l r:Tr)
namespace Tr
def red:Tr→Bool
 |nil=>false
 |aD _ c _ _=>c
def left:Tr→Tr
 |nil=>nil
 |aD _ _ l _=>l
def right:Tr→Tr
 |nil=>nil
 |aD _ _ _ r=>r
def size:Tr→Nat
 |nil=>0
 |aD _ _ l r=>l.size+r.size+1
def flat:Tr→List (Nat×Int×Nat)
 |nil=>[]
 |aD x _ l r=>l.flat++(x.n,x.i,x.v)::r.flat
def aC:Tr→List Nat
 |nil=>[]
 |aD x _ l r=>l.aC++x.a::r.aC
end Tr
def Xn(a b:Nat×Int):Nat×Int:=if a=b∨a.1<b.1∨a.1=b.1∧a.2<b.2 then a else b
def Tr.sumJ(t:Tr)(s:Nat×Int):Nat×Int:=match t with
 | .nil=>s
 | .aD y _ _ _=>Xn (y.sv,y.si) s
def Tr.jSum(s:Nat×Int)(t:Tr):Nat×Int:=match t with
 | .nil=>s
 | .aD y _ _ _=>Xn s (y.sv,y.si)
def Pr(x:Nd)(l r:Tr):Nat×Int:=Tr.jSum (l.sumJ (x.v,x.i)) r
def Nd.re(x:Nd)(l r:Tr):Nd:={x with sv:=(Pr x l r).1,si:=(Pr x l r).2}
def mk(x:Nd)(c:Bool)(l r:Tr):Tr:=.aD (x.re l r) c l r
def Nw:Tr→Tr
 | .aD h c l (.aD x _ xl xr)=>mk x c (mk h true l xl) xr
 |t=>t
def Mp:Tr→Tr
 | .aD h c (.aD x _ xl xr) r=>mk x c xl (mk h true xr r)
 |t=>t
def Cd:Tr→Tr
 | .aD h c (.aD y cy yl yr) (.aD z cz zl zr)=>.aD h (!c) (.aD y (!cy) yl yr) (.aD z (!cz) zl zr)
 |t=>t
def fin:Tr→Tr
 | .aD h c l r=>mk h c l r
 |t=>t
def s1(t:Tr):Tr:=if t.right.red&&!t.left.red then Nw t else t
def s2(t:Tr):Tr:=if t.left.red&&t.left.left.red then Mp t else t
def s3(t:Tr):Tr:=if t.left.red&&t.right.red then Cd t else t
def Gs(t:Tr):Tr:=fin (s3 (s2 (s1 t)))
theorem Vn(x:Nd)(c:Bool)(l r:Tr):(mk x c l r).flat=l.flat++(x.n,x.i,x.v)::r.flat:=rfl
theorem Qoj(t:Tr):(Nw t).flat=t.flat:=by
 unfold Nw;split;·simp[Vn,Tr.flat]
 ·rfl
theorem Qok(t:Tr):(Mp t).flat=t.flat:=by
 unfold Mp;split;·simp[Vn,Tr.flat]
 ·rfl
theorem Qoi(t:Tr):(Cd t).flat=t.flat:=by
 unfold Cd;split;·simp[Tr.flat]
 ·rfl
theorem Qrg(t:Tr):(fin t).flat=t.flat:=by unfold fin;split<;>rfl
theorem Kk(t:Tr):(Gs t).flat=t.flat:=by
 have h1:(s1 t).flat=t.flat:=by unfold s1;split;exact Qoj t;rfl
 have c:(s2 (s1 t)).flat=(s1 t).flat:=by unfold s2;split;exact Qok _;rfl
 have d:(s3 (s2 (s1 t))).flat=(s2 (s1 t)).flat:=by unfold s3;split;exact Qoi _;rfl
 rw[Gs,Qrg,d,c,h1]
theorem Ly(x:Nd)(c:Bool)(l r:Tr):(mk x c l r).aC=l.aC++x.a::r.aC:=rfl
theorem Ts(t:Tr):(Nw t).aC=t.aC:=by
 unfold Nw;split;·simp[Ly,Tr.aC]
 ·rfl
theorem Ey(t:Tr):(Mp t).aC=t.aC:=by
 unfold Mp;split;·simp[Ly,Tr.aC]
 ·rfl
theorem An(t:Tr):(Cd t).aC=t.aC:=by
 unfold Cd;split;·simp[Tr.aC]
 ·rfl
theorem Qnz(t:Tr):(fin t).aC=t.aC:=by unfold fin;split<;>rfl
theorem Kd(t:Tr):(Gs t).aC=t.aC:=by
 have h1:(s1 t).aC=t.aC:=by unfold s1;split;exact Ts t;rfl
 have c:(s2 (s1 t)).aC=(s1 t).aC:=by unfold s2;split;exact Ey _;rfl
 have d:(s3 (s2 (s1 t))).aC=(s2 (s1 t)).aC:=by unfold s3;split;exact An _;rfl
 rw[Gs,Qnz,d,c,h1]
def Tr.bh:Tr→Nat
 | .nil=>0
 | .aD _ c l _=>l.bh+if c then 0 else 1
def Tr.even:Tr→Prop
 | .nil=>True
 | .aD x c l r=>l.even∧r.even∧l.bh=r.bh∧(x.sv,x.si)=Pr x l r
def Tr.ok:Tr→Prop
 | .nil=>True
 | .aD _ c l r=>l.ok∧r.ok∧r.red=false∧(c=true→l.red=false)
def Yp(t:Tr)(n:Nat):Prop:=t.ok∧t.even∧t.bh=n
theorem Ue{x:Nd}{c:Bool}{l r:Tr}(hl:l.even)(hr:r.even)(h:l.bh=r.bh):(mk x c l r).even:=⟨hl,hr,h,rfl⟩
theorem Au(x:Nd)(c:Bool)(l r:Tr):(mk x c l r).bh=l.bh+if c then 0 else 1:=rfl
theorem Qtx(x:Nd)(c:Bool)(l r:Tr):(mk x c l r).left=l:=rfl
theorem Qsk(x:Nd)(c:Bool)(l r:Tr):(mk x c l r).right=r:=rfl
theorem Vs(x:Nd)(c:Bool)(l r:Tr):(Tr.aD x c l r).left=l:=rfl
theorem Dh(x:Nd)(c:Bool)(l r:Tr):(Tr.aD x c l r).right=r:=rfl
theorem Mn(x:Nd)(c:Bool)(l r:Tr):(Tr.aD x c l r).red=c:=rfl
theorem Yg{t:Tr}(h:t.red=true):∃x l r,t=.aD x true l r:=by
 cases t with
 |nil=>cases h
 |aD x c l r=>obtain rfl:c=true:=h;exact⟨x,l,r,rfl⟩
theorem M9{h:Nd}{c:Bool}{l r:Tr}(hr:r.red=false)(hl:l.red=true→l.left.red=false):Gs (.aD h c l r)=mk h c l r:=by
 have e1:s1 (.aD h c l r)=.aD h c l r:=by simp[s1,Dh,hr]
 have d:s2 (.aD h c l r)=.aD h c l r:=by
  cases hc:l.red with
  |false=>simp[s2,Vs,hc]
  |true=>simp[s2,Vs,hc,hl hc]
 have k:s3 (.aD h c l r)=.aD h c l r:=by simp[s3,Vs,Dh,hr]
 rw[Gs,e1,d,k];rfl
theorem At{h x:Nd}{c:Bool}{l k d:Tr}(hl:l.red=false)(z:d.red=false):Gs (.aD h c l (.aD x true k d))=mk x c (mk h true l k) d:=by
 have e1:s1 (.aD h c l (.aD x true k d))=mk x c (mk h true l k) d:=by simp[s1,Dh,Vs,Mn,hl,Nw]
 have q:s2 (mk x c (mk h true l k) d)=mk x c (mk h true l k) d:=by simp[s2,Qtx,hl]
 have u:s3 (mk x c (mk h true l k) d)=mk x c (mk h true l k) d:=by simp[s3,Qsk,z]
 rw[Gs,e1,q,u];rfl
theorem Qgo{h y z:Nd}{c:Bool}{yl yr d k:Tr}(h1:yl.red=false):
  Gs (.aD h c (.aD y true yl yr) (.aD z true d k))=mk h (!c) (.aD y false yl yr) (.aD z false d k):=by
 have e1:s1 (.aD h c (.aD y true yl yr) (.aD z true d k))=.aD h c (.aD y true yl yr) (.aD z true d k):=by simp[s1,Vs,Mn]
 have q:s2 (.aD h c (.aD y true yl yr) (.aD z true d k))=.aD h c (.aD y true yl yr) (.aD z true d k):=by simp[s2,Vs,h1]
 have u:s3 (.aD h c (.aD y true yl yr) (.aD z true d k))=.aD h (!c) (.aD y false yl yr) (.aD z false d k):=by simp[s3,Vs,Dh,Mn,Cd]
 rw[Gs,e1,q,u];rfl
theorem Qn6{h x y:Nd}{c:Bool}{yl yr d r:Tr}(hr:r.red=false):
  Gs (.aD h c (.aD x true (.aD y true yl yr) d) r)=mk (x.re (.aD y true yl yr) (mk h true d r)) (!c) (.aD y false yl yr) (.aD (h.re d r) false d r):=by
 have e1:s1 (.aD h c (.aD x true (.aD y true yl yr) d) r)=.aD h c (.aD x true (.aD y true yl yr) d) r:=by simp[s1,Dh,hr]
 have k:s2 (.aD h c (.aD x true (.aD y true yl yr) d) r)=mk x c (.aD y true yl yr) (mk h true d r):=by simp[s2,Vs,Mn,Mp]
 have q:s3 (mk x c (.aD y true yl yr) (mk h true d r))=.aD (x.re (.aD y true yl yr) (mk h true d r)) (!c) (.aD y false yl yr) (.aD (h.re d r) false d r):=by simp[s3,mk,Vs,Dh,Mn,Cd]
 rw[Gs,e1,k,q];rfl
def lt(n:Nat)(i:Int)(x:Nd):Bool:=decide (n<x.n∨n=x.n∧i<x.i)
def Tr.put(n:Nat)(i:Int)(v a:Nat):Tr→Tr
 | .nil=>.aD ⟨a,n,i,v,v,i⟩ true .nil .nil
 | .aD h c l r=>if lt n i h then Gs (.aD h c (l.put n i v a) r)else Gs (.aD h c l (r.put n i v a))
def Qvr(t:Tr)(n:Nat):Prop:=t.even∧t.bh=n∧t.left.ok∧t.right.ok∧t.right.red=false∧t.red=true
theorem Qa8(n:Nat)(i:Int)(v a:Nat):∀(t:Tr)(m:Nat),Yp t m→(t.red=false→Yp (t.put n i v a) m)∧(t.red=true→Qvr (t.put n i v a) m)
 | .nil,m,h=>⟨fun _=>⟨⟨trivial,trivial,rfl,fun _=>rfl⟩,⟨trivial,trivial,rfl,rfl⟩,h.2.2⟩,nofun⟩
 | .aD x c l r,m,⟨hok,hev,hbh⟩=>by
  obtain⟨I,J,hr,aa⟩:=hok;obtain⟨Z,er,V,hs⟩:=hev;have Il:=Qa8 n i v a l l.bh ⟨I,Z,rfl⟩;have Ir:=Qa8 n i v a r r.bh ⟨J,er,rfl⟩;simp only[Tr.bh]at hbh;simp only[Tr.put,Tr.red];by_cases hk:lt n i x=true
  ·simp only[hk,if_true];generalize l.put n i v a=l' at Il;cases k:l.red with
   |false=>
    obtain⟨u,q,d⟩:=Il.1 k;have R:l'.red=true→l'.left.red=false:=by intro h;obtain⟨y,yl,yr,rfl⟩:=Yg h;exact u.2.2.2 rfl
    rw[M9 hr R];cases c with
    |false=>exact⟨fun _=>⟨⟨u,J,hr,nofun⟩,Ue q er (d.trans V),by rw[Au,d];exact hbh⟩,nofun⟩
    |true=>exact⟨nofun,fun _=>⟨Ue q er (d.trans V),by rw[Au,d];exact hbh,u,J,hr,rfl⟩⟩
   |true=>
    obtain⟨q,d,h1,h2,h3,h4⟩:=Il.2 k;have hc:c=false:=by
     cases c with
     |false=>rfl
     |true=>rw[aa rfl]at k;cases k
    subst hc;refine⟨fun _=>?_,nofun⟩;obtain⟨y,yl,yr,rfl⟩:=Yg h4;cases U:yl.red with
    |false=> rw[M9 hr (fun _=>by exact U)];exact⟨⟨⟨h1,h2,h3,fun _=>U⟩,J,hr,nofun⟩,Ue q er (d.trans V),by rw[Au,d];exact hbh⟩
    |true=>
     obtain⟨z,zl,zr,rfl⟩:=Yg U;rw[Qn6 hr];obtain⟨ez,ey,eb,es⟩:=q;simp only[Tr.left,Tr.right]at h1 h2 h3;obtain⟨z1,z2,z3,z4⟩:=h1;simp only[Tr.bh,if_true,Nat.add_zero]at d eb;refine⟨⟨⟨z1,z2,z3,nofun⟩,⟨h2,J,hr,nofun⟩,rfl,fun _=>rfl⟩,⟨ez,⟨ey,er,by omega,rfl⟩,?_,rfl⟩,?_⟩;·simp[Tr.bh];omega
     ·simp[mk,Tr.bh];simp at hbh;omega
  ·simp only[hk,if_false,Bool.false_eq_true];generalize r.put n i v a=r' at Ir;obtain⟨u,q,d⟩:=Ir.1 hr;cases K:r'.red with
   |false=>
    have R:l.red=true→l.left.red=false:=by intro h;obtain⟨y,yl,yr,rfl⟩:=Yg h;exact I.2.2.2 rfl
    rw[M9 K R];cases c with
    |false=>exact⟨fun _=>⟨⟨I,u,K,nofun⟩,Ue Z q (V.trans d.symm),by rw[Au];exact hbh⟩,nofun⟩
    |true=>exact⟨nofun,fun _=>⟨Ue Z q (V.trans d.symm),by rw[Au];exact hbh,I,u,K,rfl⟩⟩
   |true=>
    obtain⟨y,yl,yr,rfl⟩:=Yg K;obtain⟨y1,y2,y3,y4⟩:=u;obtain⟨e1,e2,e3,e4⟩:=q;simp only[Tr.bh,if_true,Nat.add_zero]at d;have y4:=y4 rfl;cases k:l.red with
    |false=>
     rw[At k y3];have E:(mk y c (mk x true l yl) yr).even:=Ue (Ue Z e1 (by omega)) e2 (by simp[mk,Tr.bh];omega);have B:(mk y c (mk x true l yl) yr).bh=m:=by simp only[mk,Tr.bh];simpa using hbh
     cases c with
     |false=>exact⟨fun _=>⟨⟨⟨I,y1,y4,fun _=>k⟩,y2,y3,nofun⟩,E,B⟩,nofun⟩
     |true=>exact⟨nofun,fun _=>⟨E,B,⟨I,y1,y4,fun _=>k⟩,y2,y3,rfl⟩⟩
    |true=>
     have hc:c=false:=by
      cases c with
      |false=>rfl
      |true=>rw[aa rfl]at k;cases k
     subst hc;obtain⟨z,zl,zr,rfl⟩:=Yg k;obtain⟨z1,z2,z3,z4⟩:=I;rw[Qgo (z4 rfl)];refine⟨fun _=>⟨⟨⟨z1,z2,z3,nofun⟩,⟨y1,y2,y3,nofun⟩,rfl,fun _=>rfl⟩,Ue Z ⟨e1,e2,e3,e4⟩ ?_,?_⟩,nofun⟩;·simp[Tr.bh]at V⊢;omega
     ·simp[mk,Tr.bh]at hbh⊢;omega
def Tr.first:Tr→Nat×Int×Nat
 | .nil=>(0,0,0)
 | .aD x _ .nil _=>(x.n,x.i,x.v)
 | .aD _ _ l _=>l.first
def Nd.as(x:Nd)(e:Nat×Int×Nat):Nd:={x with n:=e.1,i:=e.2.1,v:=e.2.2}
inductive DropFirst:Tr→Tr→Prop
 |last (x:Nd) (c:Bool) (r:Tr):DropFirst (.aD x c .nil r) .nil
 |stay (x:Nd) (c:Bool) (l r l':Tr):(l.red||l.left.red)=true→DropFirst l l'→DropFirst (.aD x c l r) (Gs (.aD x c l' r))
 |turnA (x y z:Nd) (yl yr zl zr l':Tr):yl.red=false→zl.red=false→DropFirst (.aD y true yl yr) l'→
   DropFirst (.aD x true (.aD y false yl yr) (.aD z false zl zr)) (Gs (.aD x false l' (.aD z true zl zr)))
 |turnB (x y z u:Nd) (yl yr ul ur zr l':Tr):yl.red=false→DropFirst (mk x false (.aD y true yl yr) ul) l'→
   DropFirst (.aD x true (.aD y false yl yr) (.aD z false (.aD u true ul ur) zr)) (Gs (.aD (u.re (mk x true (.aD y true yl yr) ul) (mk z true ur zr)) true l' (mk z false ur zr)))
inductive Drop(n:Nat)(i:Int):Tr→Tr→Prop
 |stay (x:Nd) (c:Bool) (l r l':Tr):lt n i x=true→(l.red||l.left.red)=true→Drop n i l l'→Drop n i (.aD x c l r) (Gs (.aD x c l' r))
 |turnA (x y z:Nd) (yl yr zl zr l':Tr):lt n i x=true→yl.red=false→zl.red=false→Drop n i (.aD y true yl yr) l'→
   Drop n i (.aD x true (.aD y false yl yr) (.aD z false zl zr)) (Gs (.aD x false l' (.aD z true zl zr)))
 |turnB (x y z u:Nd) (yl yr ul ur zr l':Tr):lt n i x=true→yl.red=false→Drop n i (mk x false (.aD y true yl yr) ul) l'→
   Drop n i (.aD x true (.aD y false yl yr) (.aD z false (.aD u true ul ur) zr)) (Gs (.aD (u.re (mk x true (.aD y true yl yr) ul) (mk z true ur zr)) true l' (mk z false ur zr)))
 |right (x y:Nd) (c:Bool) (yl yr r r':Tr):lt n i x=false→¬(y.n=n∧y.i=i)→Drop n i (mk x true yr r) r'→
   Drop n i (.aD x c (.aD y true yl yr) r) (Gs (.aD (y.re yl (mk x true yr r)) c yl r'))
 |here (x:Nd) (c:Bool) (l:Tr):lt n i x=false→l.red=false→(x.n=n∧x.i=i)→Drop n i (.aD x c l .nil) .nil
 |passA (x y z:Nd) (yl yr zl zr r':Tr):lt n i x=false→¬(x.n=n∧x.i=i)→yl.red=false→zl.red=false→Drop n i (.aD z true zl zr) r'→
   Drop n i (.aD x true (.aD y false yl yr) (.aD z false zl zr)) (Gs (.aD x false (.aD y true yl yr) r'))
 |takeA (x y z:Nd) (yl yr zl zr r':Tr):lt n i x=false→(x.n=n∧x.i=i)→yl.red=false→zl.red=false→DropFirst (.aD z true zl zr) r'→
   Drop n i (.aD x true (.aD y false yl yr) (.aD z false zl zr)) (Gs (.aD (x.as (Tr.first (.aD z true zl zr))) false (.aD y true yl yr) r'))
 |passB (x y z u:Nd) (ul ur yr zl zr r':Tr):lt n i x=false→¬(y.n=n∧y.i=i)→zl.red=false→Drop n i (mk x false yr (.aD z true zl zr)) r'→
   Drop n i (.aD x true (.aD y false (.aD u true ul ur) yr) (.aD z false zl zr)) (Gs (.aD (y.re (.aD u true ul ur) (mk x true yr (.aD z true zl zr))) true (.aD u false ul ur) r'))
 |passC (x:Nd) (c:Bool) (l r r':Tr):lt n i x=false→l.red=false→¬(x.n=n∧x.i=i)→(r.red||r.left.red)=true→Drop n i r r'→Drop n i (.aD x c l r) (Gs (.aD x c l r'))
 |takeC (x:Nd) (c:Bool) (l r r':Tr):lt n i x=false→l.red=false→(x.n=n∧x.i=i)→(r.red||r.left.red)=true→DropFirst r r'→Drop n i (.aD x c l r) (Gs (.aD (x.as r.first) c l r'))
theorem Oo{x:Nd}{c:Bool}{l r:Tr}{m:Nat}(hl:Yp l m)(hr:Yp r m)(h1:r.red=false)(k:c=true→l.red=false):Yp (Gs (.aD x c l r)) (m+if c then 0 else 1)∧(Gs (.aD x c l r)).red=c:=by
 have d:l.red=true→l.left.red=false:=by intro h;obtain⟨y,yl,yr,rfl⟩:=Yg h;exact hl.1.2.2.2 rfl
 rw[M9 h1 d];exact⟨⟨⟨hl.1,hr.1,h1,k⟩,Ue hl.2.1 hr.2.1 (hl.2.2.trans hr.2.2.symm),by rw[Au,hl.2.2]⟩,rfl⟩
theorem Qq5{x:Nd}{l r:Tr}{m:Nat}(hl:Yp l m)(hr:Yp r m)(h1:r.red=true):Yp (Gs (.aD x false l r)) (m+1):=by
 obtain⟨z,zl,zr,rfl⟩:=Yg h1;obtain⟨⟨E,I,q,u⟩,⟨e1,B,J,K⟩,R⟩:=hr;have u:=u rfl;simp only[Tr.bh,if_true,Nat.add_zero]at R;have d:=hl.2.2;cases c:l.red with
 |false=> rw[At c q];exact⟨⟨⟨hl.1,E,u,fun _=>c⟩,I,q,nofun⟩,Ue (Ue hl.2.1 e1 (by omega)) B (by simp[mk,Tr.bh];omega),by simp[mk,Tr.bh];omega⟩
 |true=> obtain⟨y,yl,yr,rfl⟩:=Yg c;obtain⟨U,V,Z,k⟩:=hl.1;have k:=k rfl;rw[Qgo k];simp only[Tr.bh,if_true,Nat.add_zero]at d;exact⟨⟨⟨U,V,Z,nofun⟩,⟨E,I,q,nofun⟩,rfl,fun _=>rfl⟩,Ue hl.2.1 ⟨e1,B,J,K⟩ (by simp[Tr.bh];omega),by simp[mk,Tr.bh];omega⟩
theorem M8{x:Nd}{l r:Tr}{m:Nat}(hl:Yp l m)(hr:Yp r m):Yp (Gs (.aD x false l r)) (m+1):=by
 cases h:r.red with
 |true=>exact Qq5 hl hr h
 |false=>exact(Oo (c:=false) hl hr h nofun).1
theorem Yp.black{n:Nat}{x:Nd}{l r:Tr}(h:Yp (.aD x true l r) n):Yp (.aD x false l r) (n+1):=
 ⟨⟨h.1.1,h.1.2.1,h.1.2.2.1,nofun⟩,h.2.1,by have:=h.2.2;simp[Tr.bh]at this⊢;omega⟩
theorem Yp.parts{x:Nd}{c:Bool}{l r:Tr}{n:Nat}(h:Yp (.aD x c l r) n):∃m,Yp l m∧Yp r m∧r.red=false∧(c=true→l.red=false)∧n=m+if c then 0 else 1:=
 ⟨l.bh,⟨h.1.1,h.2.1.1,rfl⟩,⟨h.1.2.1,h.2.1.2.1,h.2.1.2.2.1.symm⟩,h.1.2.2.1,h.1.2.2.2,h.2.2.symm⟩
theorem Yp.aD{x:Nd}{c:Bool}{l r:Tr}{m:Nat}(hl:Yp l m)(hr:Yp r m)(h1:r.red=false)(d:c=true→l.red=false):Yp (mk x c l r) (m+if c then 0 else 1):=
 ⟨⟨hl.1,hr.1,h1,d⟩,Ue hl.2.1 hr.2.1 (hl.2.2.trans hr.2.2.symm),by rw[Au,hl.2.2]⟩
theorem Yp.toRed{x:Nd}{l r:Tr}{n:Nat}(h:Yp (.aD x false l r) (n+1))(hl:l.red=false):Yp (.aD x true l r) n:=
 ⟨⟨h.1.1,h.1.2.1,h.1.2.2.1,fun _=>hl⟩,h.2.1,by have:=h.2.2;simp[Tr.bh]at this⊢;omega⟩
theorem Yp.nil_of{t:Tr}(h:Yp t 0)(hr:t.red=false):t=.nil:=by
 cases t with
 |nil=>rfl
 |aD x c l r=> obtain rfl:c=false:=hr;have:=h.2.2;simp[Tr.bh]at this
theorem Yp.node_of{t:Tr}{n:Nat}(h:Yp t (n+1))(hr:t.red=false):∃x l r,t=.aD x false l r:=by
 cases t with
 |nil=>have:=h.2.2;simp[Tr.bh]at this
 |aD x c l r=>obtain rfl:c=false:=hr;exact⟨x,l,r,rfl⟩
theorem Vt(x:Nd)(c:Bool)(l r:Tr):(Tr.aD x c l r).size=l.size+r.size+1:=rfl
theorem Qfu(x:Nd)(c:Bool)(l r:Tr):(mk x c l r).size=l.size+r.size+1:=rfl
theorem Jb(x:Nd)(c:Bool)(l r:Tr):(Tr.aD x c l r).flat=l.flat++(x.n,x.i,x.v)::r.flat:=rfl
theorem E5:∀{t:Tr},t≠ .nil→t.flat=t.first::t.flat.tail
 | .aD x c .nil r,_=>rfl
 | .aD x c (.aD y d l s) r,_=>by have:=E5 (t:=.aD y d l s) nofun;have e:(Tr.aD x c (.aD y d l s) r).first=(Tr.aD y d l s).first:=rfl;rw[e,Tr.flat,this];rfl
theorem Bc{l r:List (Nat×Int×Nat)}(h:l≠[]):(l++r).tail=l.tail++r:=by
 cases l with
 |nil=>exact absurd rfl h
 |cons a l=>rfl
theorem I7{x:Nd}{c:Bool}{l r:Tr}:(Tr.aD x c l r).flat≠[]:=by simp[Tr.flat]
theorem Qrh{t:Tr}(h:(t.red||t.left.red)=true):t.flat≠[]:=by
 cases t with
 |nil=>simp[Tr.red,Tr.left]at h
 |aD x c l r=>exact I7
theorem Vr:∀(s:Nat)(t:Tr)(n:Nat),t.size≤s→Yp t n→(t.red||t.left.red)=true→
  ∃V,DropFirst t V∧Yp V n∧(t.red=false→V.red=false)∧V.flat=t.flat.tail
 |0,.nil,n,_,_,h=>by cases h
 |s+1,.nil,n,_,_,h=>by cases h
 |s+1,.aD x c l r,n,hs,hf,hD=>by
  obtain⟨m,hl,hr,E,aa,rfl⟩:=hf.parts;rw[Vt]at hs;simp only[Mn,Vs]at hD;by_cases J:l=.nil
  ·subst J;have hc:c=true:=by simpa[Tr.red]using hD
   subst hc;have hm:m=0:=by have:=hl.2.2;simp[Tr.bh]at this;omega
   subst hm;obtain rfl:=hr.nil_of E;exact⟨.nil,.last x true .nil,⟨trivial,trivial,rfl⟩,fun _=>rfl,rfl⟩
  ·cases k:(l.red||l.left.red)with
   |true=> obtain⟨l',d,f,q,e⟩:=Vr s l m (by omega) hl k;have I:c=true→l'.red=false:=fun h=>q (aa h);obtain⟨b1,b2⟩:=Oo (x:=x) f hr E I;refine⟨_,.stay x c l r l' k d,b1,fun h=>b2.trans h,?_⟩;rw[Kk,Tr.flat,Tr.flat,e,Bc (Qrh k)]
   |false=>
    simp only[Bool.or_eq_false_iff]at k;have hc:c=true:=by simpa[k.1]using hD
    subst hc;cases m with
    |zero=>exact absurd (hl.nil_of k.1) J
    |succ m=>
     obtain⟨y,yl,yr,rfl⟩:=hl.node_of k.1;obtain⟨z,Z,B,rfl⟩:=hr.node_of E;have U:yl.red=false:=k.2;simp only[Vt]at hs;cases hz:Z.red with
     |false=> obtain⟨l',d,f,q,e⟩:=Vr s (.aD y true yl yr) m (by simp only[Vt];omega) (hl.toRed U) rfl;refine⟨_,.turnA x y z yl yr Z B l' U hz d,M8 f (hr.toRed hz),nofun,?_⟩;rw[Kk,Jb,e,show(Tr.aD x true (Tr.aD y false yl yr) (Tr.aD z false Z B)).flat=(Tr.aD y true yl yr).flat++(x.n,x.i,x.v)::(Tr.aD z true Z B).flat from rfl,Bc I7]
     |true=>
      obtain⟨u,K,R,rfl⟩:=Yg hz;obtain⟨m',k1,k2,k3,k4,k5⟩:=hr.parts;obtain rfl:m=m':=by simpa using k5
      obtain⟨m',g1,g2,g3,g4,g5⟩:=k1.parts;obtain rfl:m=m':=by simpa using g5
      have g4:=g4 rfl;simp only[Vt]at hs;obtain⟨l',d,f,q,e⟩:=Vr s (mk x false (.aD y true yl yr) K) (m+1) (by simp only[Vt,Qfu];omega) (Yp.aD (c:=false) (hl.toRed U) g1 g4 nofun) rfl;have ab:Yp (mk z false R B) (m+1):=Yp.aD (c:=false) g2 k2 k3 nofun;obtain⟨b1,b2⟩:=Oo (x:=u.re (mk x true (.aD y true yl yr) K) (mk z true R B)) (c:=true) f ab rfl (fun _=>q rfl);refine⟨_,.turnB x y z u yl yr K R B l' U d,b1,nofun,?_⟩;rw[Kk,Jb,e,Vn,Vn,Bc I7,show(Tr.aD x true (Tr.aD y false yl yr) (Tr.aD z false (Tr.aD u true K R) B)).flat=(Tr.aD y true yl yr).flat++(x.n,x.i,x.v)::((K.flat++(u.n,u.i,u.v)::R.flat)++(z.n,z.i,z.v)::B.flat)from rfl,Bc I7];simp[Nd.re]
abbrev Xu:=Nat×Int×Nat
def Mv(e f:Xu):Prop:=e.1<f.1∨e.1=f.1∧e.2.1<f.2.1
abbrev Xd(l:List Xu):Prop:=l.Pairwise Mv
def del(n:Nat)(i:Int)(l:List Xu):List Xu:=l.filter fun e=>!decide (e.1=n∧e.2.1=i)
theorem Qm4(n:Nat)(i:Int)(a b:List Xu):del n i (a++b)=del n i a++del n i b:=by simp[del]
theorem Wa{n:Nat}{i:Int}{l:List Xu}(h:∀e∈l,¬(e.1=n∧e.2.1=i)):del n i l=l:=by refine List.filter_eq_self.2 fun e c=>?_;simp only[Bool.not_eq_true',decide_eq_false_iff_not];exact h e c
theorem Nf{n:Nat}{i:Int}{a b:List Xu}(h:∀e∈b,¬(e.1=n∧e.2.1=i)):del n i (a++b)=del n i a++b:=by rw[Qm4,Wa h]
theorem Vq{n:Nat}{i:Int}{a b:List Xu}(h:∀e∈a,¬(e.1=n∧e.2.1=i)):del n i (a++b)=a++del n i b:=by rw[Qm4,Wa h]
theorem Nc{n:Nat}{i:Int}{e:Xu}{b:List Xu}(h:e.1=n∧e.2.1=i)(c:∀f∈b,¬(f.1=n∧f.2.1=i)):del n i (e::b)=b:=by
 have:del n i (e::b)=del n i b:=by simp[del,h]
 rw[this,Wa c]
theorem Qdf{a b c:Xu}(h:Mv a b)(h':Mv b c):Mv a c:=by unfold Mv at*;omega
theorem Lc{a b:List Xu}{x:Xu}(h:Xd (a++x::b)):Xd a∧Xd b∧(∀e∈a,Mv e x)∧(∀e∈b,Mv x e):=by obtain⟨h1,c,d⟩:=List.pairwise_append.1 h;obtain⟨k,q⟩:=List.pairwise_cons.1 c;exact⟨h1,q,fun e u=>d e u x (by simp),k⟩
theorem Qkz{n:Nat}{i:Int}{x:Nd}:lt n i x=true↔n<x.n∨n=x.n∧i<x.i:=by simp[lt]
theorem Qru{n:Nat}{i:Int}{x:Nd}:lt n i x=false↔¬(n<x.n∨n=x.n∧i<x.i):=by simp[lt]
theorem Qdt{n:Nat}{i:Int}{x:Nd}(h:lt n i x=true){e:Xu}(c:Mv (x.n,x.i,x.v) e):¬(e.1=n∧e.2.1=i):=by rw[Qkz]at h;unfold Mv at c;dsimp only at c;omega
theorem Qt3{n:Nat}{i:Int}{x:Nd}(h:lt n i x=true):¬(x.n=n∧x.i=i):=by rw[Qkz]at h;omega
theorem Qaw{n:Nat}{i:Int}{x:Nd}(h:lt n i x=false){e:Xu}(c:Mv e (x.n,x.i,x.v)):¬(e.1=n∧e.2.1=i):=by rw[Qru]at h;unfold Mv at c;dsimp only at c;omega
def Tr.has(t:Tr)(n:Nat)(i:Int):Prop:=∃e∈t.flat,e.1=n∧e.2.1=i
theorem Bz{x:Nd}{l r:Tr}{m:Nat}(hl:Yp l m)(hr:Yp r m)(d:l.red=false):Yp (Gs (.aD x false l r)) (m+1)∧(Gs (.aD x false l r)).red=false:=by
 refine⟨M8 hl hr,?_⟩;cases h:r.red with
 |false=>exact(Oo (c:=false) hl hr h nofun).2
 |true=> obtain⟨z,k,q,rfl⟩:=Yg h;rw[At d hr.1.2.2.1];rfl
theorem Qoa{n:Nat}{i:Int}{x:Nd}{l r:Tr}{m:Nat}(hl:Yp l m)(hr:Yp r m)(k:l.red=false)(I:r.red=true)(V:lt n i x=false)
  (hs:Xd (l.flat++(x.n,x.i,x.v)::r.flat))(ih:r.has n i→∃u,Drop n i r u∧Yp u m∧(r.red=false→u.red=false)∧u.flat=del n i r.flat)
  (hh:(mk x false l r).has n i):∃J,Drop n i (mk x false l r) J∧Yp J (m+1)∧J.red=false∧J.flat=del n i (mk x false l r).flat:=by
 obtain⟨sl,sr,Z,aa⟩:=Lc hs;have B:∀e∈l.flat,¬(e.1=n∧e.2.1=i):=fun e c=>Qaw V (Z e c);have K:(r.red||r.left.red)=true:=by rw[I];rfl
 by_cases E:x.n=n∧x.i=i
 ·obtain⟨u,d,f,q,e⟩:=Vr r.size r m (Zv _) hr K;obtain⟨b1,b2⟩:=Bz (x:=(x.re l r).as r.first) hl f k;refine⟨_,.takeC (x.re l r) false l r u V k E K d,b1,b2,?_⟩;have U:r≠ .nil:=by rintro rfl;cases I
  rw[Kk,Jb,Vn,e,Vq B,Nc E (fun f hf=>?_)];·have:=E5 U;rw[this];rfl
  ·intro ab;have:=aa f hf;unfold Mv at this;dsimp only at this;omega
 ·have R:r.has n i:=by
   obtain⟨e,c,z⟩:=hh;rw[Vn]at c;rcases Zl.1 c with c|c;·exact absurd z (B e c)
   ·rcases Zu.1 c with rfl|c;·exact absurd z E
    ·exact⟨e,c,z⟩
  obtain⟨u,d,f,q,e⟩:=ih R;obtain⟨b1,b2⟩:=Bz (x:=x.re l r) hl f k;refine⟨_,.passC (x.re l r) false l r u V k E K d,b1,b2,?_⟩;rw[Kk,Jb,Vn,e,Vq B];congr 1;rw[show(x.n,x.i,x.v)::r.flat=[(x.n,x.i,x.v)]++r.flat from rfl,Vq (fun f hf=>by
   obtain rfl:f=_:=by simpa using hf
   exact E)]
  rfl
theorem Oa(n:Nat)(i:Int):∀(s:Nat)(t:Tr)(m:Nat),t.size≤s→Yp t m→(t.red||t.left.red)=true→Xd t.flat→t.has n i→
  ∃t',Drop n i t t'∧Yp t' m∧(t.red=false→t'.red=false)∧t'.flat=del n i t.flat
 |0,.nil,m,_,_,h,_,_=>by cases h
 |s+1,.nil,m,_,_,h,_,_=>by cases h
 |s+1,.aD x c l r,m0,hs,hf,hD,hsort,hh=>by
  obtain⟨m,hl,hr,ab,aj,rfl⟩:=hf.parts;rw[Vt]at hs;rw[Jb]at hsort;obtain⟨sl,sr,au,an⟩:=Lc hsort;simp only[Mn,Vs]at hD;obtain⟨e,he,U⟩:=hh;rw[Jb]at he;cases hx:lt n i x with
  |true=>
   have ar:=Qt3 hx;have ap:∀f∈r.flat,¬(f.1=n∧f.2.1=i):=fun f hf=>Qdt hx (an f hf);have ac:∀f∈(x.n,x.i,x.v)::r.flat,¬(f.1=n∧f.2.1=i):=by
    intro f hf;rcases Zu.1 hf with rfl|hf;·exact ar
    ·exact ap f hf
   have af:l.has n i:=by
    rcases Zl.1 he with he|he;·exact⟨e,he,U⟩
    ·exact absurd U (ac e he)
   have ao:l≠ .nil:=by rintro rfl;obtain⟨f,hf,_⟩:=af;cases hf
   cases R:(l.red||l.left.red)with
   |true=> obtain⟨l',d,f,q,J⟩:=Oa n i s l m (by omega) hl R sl af;have ak:c=true→l'.red=false:=fun h=>q (aj h);obtain⟨b1,b2⟩:=Oo (x:=x) f hr ab ak;refine⟨_,.stay x c l r l' hx R d,b1,fun h=>b2.trans h,?_⟩;rw[Kk,Jb,Jb,J,Nf ac]
   |false=>
    simp only[Bool.or_eq_false_iff]at R;have hc:c=true:=by simpa[R.1]using hD
    subst hc;cases m with
    |zero=>exact absurd (hl.nil_of R.1) ao
    |succ m=>
     obtain⟨y,yl,yr,rfl⟩:=hl.node_of R.1;obtain⟨z,B,k,rfl⟩:=hr.node_of ab;have hy:yl.red=false:=R.2;simp only[Vt]at hs;cases hz:B.red with
     |false=> obtain⟨l',d,f,q,J⟩:=Oa n i s (.aD y true yl yr) m (by simp only[Vt];omega) (hl.toRed hy) rfl sl af;refine⟨_,.turnA x y z yl yr B k l' hx hy hz d,M8 f (hr.toRed hz),nofun,?_⟩;rw[Kk,Jb,Jb x true,J,Nf ac];rfl
     |true=>
      obtain⟨u,Z,ur,rfl⟩:=Yg hz;obtain⟨m',k1,k2,k3,k4,k5⟩:=hr.parts;obtain rfl:m=m':=by simpa using k5
      obtain⟨m',g1,g2,g3,g4,g5⟩:=k1.parts;obtain rfl:m=m':=by simpa using g5
      have g4:=g4 rfl;simp only[Vt]at hs;have eR:(Tr.aD z false (Tr.aD u true Z ur) k).flat=Z.flat++((u.n,u.i,u.v)::ur.flat++(z.n,z.i,z.v)::k.flat):=by simp[Jb]
      have I:Xd (mk x false (.aD y true yl yr) Z).flat:=by
       rw[Vn];rw[eR]at hsort;have:Xd (((Tr.aD y false yl yr).flat++(x.n,x.i,x.v)::Z.flat)++((u.n,u.i,u.v)::ur.flat++(z.n,z.i,z.v)::k.flat)):=by simpa using hsort
       exact(List.pairwise_append.1 this).1
      obtain⟨l',d,f,q,J⟩:=Oa n i s (mk x false (.aD y true yl yr) Z) (m+1) (by simp only[Vt,Qfu];omega) (Yp.aD (c:=false) (hl.toRed hy) g1 g4 nofun) rfl I (by
       obtain⟨f,hf,al⟩:=af;exact⟨f,by rw[Vn];exact List.mem_append_left _ hf,al⟩)
      have av:Yp (mk z false ur k) (m+1):=Yp.aD (c:=false) g2 k2 k3 nofun;obtain⟨b1,b2⟩:=Oo (x:=u.re (mk x true (.aD y true yl yr) Z) (mk z true ur k)) (c:=true) f av rfl (fun _=>q rfl);refine⟨_,.turnB x y z u yl yr Z ur k l' hx hy d,b1,nofun,?_⟩;have aq:∀f∈(x.n,x.i,x.v)::Z.flat,¬(f.1=n∧f.2.1=i):=by
       intro f hf;refine ac f ?_;rw[eR];rcases Zu.1 hf with rfl|hf;·simp
       ·simp[hf]
      rw[Kk,Jb,J,Vn,Vn,Nf aq,Jb x true,Nf ac,eR];simp[Nd.re,Tr.flat]
  |false=>
   have V:∀f∈l.flat,¬(f.1=n∧f.2.1=i):=fun f hf=>Qaw hx (au f hf);have aa:e∈(x.n,x.i,x.v)::r.flat:=by
    rcases Zl.1 he with he|he;·exact absurd U (V e he)
    ·exact he
   cases K:l.red with
   |true=>
    obtain⟨y,yl,yr,rfl⟩:=Yg K;have hc:c=false:=by
     cases c with
     |false=>rfl
     |true=>exact absurd (aj rfl) (by simp[Tr.red])
    subst hc;obtain⟨m',k1,k2,k3,k4,k5⟩:=hl.parts;obtain rfl:m=m':=by simpa using k5
    have k4:=k4 rfl;simp only[Vt]at hs;have eL:(Tr.aD y true yl yr).flat++(x.n,x.i,x.v)::r.flat=(yl.flat++[(y.n,y.i,y.v)])++(mk x true yr r).flat:=by simp[Jb,Vn]
    have ae:∀f∈yl.flat++[(y.n,y.i,y.v)],¬(f.1=n∧f.2.1=i):=fun f hf=>V f (by
     rw[Jb];rcases Zl.1 hf with hf|hf;·exact List.mem_append_left _ hf
     ·obtain rfl:f=_:=by simpa using hf
      simp)
    have ai:¬(y.n=n∧y.i=i):=ae (y.n,y.i,y.v) (by simp);have I:Xd (mk x true yr r).flat:=by rw[eL]at hsort;exact(List.pairwise_append.1 hsort).2.1
    obtain⟨r',d,f,q,J⟩:=Oa n i s (mk x true yr r) m (by rw[Qfu];omega) (Yp.aD (c:=true) k2 hr ab (fun _=>k3)) rfl I ⟨e,by rw[Vn];exact List.mem_append_right _ aa,U⟩;obtain⟨b1,b2⟩:=Bz (x:=y.re yl (mk x true yr r)) k1 f k4;refine⟨_,.right x y false yl yr r r' hx ai d,b1,fun _=>b2,?_⟩;rw[Kk,Jb,Jb x false,eL,Vq ae,J];simp[Nd.re]
   |false=>
    have hc:c=true:=by simpa[K]using hD
    subst hc;have ah:¬(x.n=n∧x.i=i)→r.has n i:=by
     intro E;rcases Zu.1 aa with rfl|aa;·exact absurd U E
     ·exact⟨e,aa,U⟩
    have am:(x.n=n∧x.i=i)→∀f∈r.flat,¬(f.1=n∧f.2.1=i):=by intro E f hf al;have:=an f hf;unfold Mv at this;dsimp only at this;omega
    by_cases ag:r=.nil
    ·subst ag;have E:x.n=n∧x.i=i:=Classical.byContradiction fun E=>by obtain⟨f,hf,_⟩:=ah E;cases hf
     have hm:m=0:=by have:=hr.2.2;simp[Tr.bh]at this;omega
     subst hm;obtain rfl:=hl.nil_of K;exact⟨.nil,.here x true .nil hx rfl E,⟨trivial,trivial,rfl⟩,fun _=>rfl,by simp[Tr.flat,del,E]⟩
    ·cases R:(r.red||r.left.red)with
     |true=>
      by_cases E:x.n=n∧x.i=i;·obtain⟨r',d,f,q,J⟩:=Vr r.size r m (Zv _) hr R;obtain⟨b1,b2⟩:=Oo (x:=x.as r.first) (c:=true) hl f (q ab) (fun _=>K);refine⟨_,.takeC x true l r r' hx K E R d,b1,nofun,?_⟩;rw[Kk,Jb,Jb x true,J,Vq V,Nc E (am E),E5 ag];rfl
      ·obtain⟨r',d,f,q,J⟩:=Oa n i s r m (by omega) hr R sr (ah E);obtain⟨b1,b2⟩:=Oo (x:=x) (c:=true) hl f (q ab) (fun _=>K);refine⟨_,.passC x true l r r' hx K E R d,b1,nofun,?_⟩;rw[Kk,Jb,Jb x true,J,Vq V,show(x.n,x.i,x.v)::r.flat=[(x.n,x.i,x.v)]++r.flat from rfl,Vq (fun f hf=>by
        obtain rfl:f=_:=by simpa using hf
        exact E)]
       rfl
     |false=>
      simp only[Bool.or_eq_false_iff]at R;cases m with
      |zero=>exact absurd (hr.nil_of R.1) ag
      |succ m=>
       obtain⟨y,yl,yr,rfl⟩:=hl.node_of K;obtain⟨z,B,k,rfl⟩:=hr.node_of R.1;have hz:B.red=false:=R.2;simp only[Vt]at hs;have fz:=hr.toRed hz;have ez:(Tr.aD z true B k).flat=(Tr.aD z false B k).flat:=rfl;have ih:(Tr.aD z true B k).has n i→∃r',Drop n i (.aD z true B k) r'∧Yp r' m∧((Tr.aD z true B k).red=false→r'.red=false)∧r'.flat=del n i (Tr.aD z true B k).flat:=
        fun h=>Oa n i s (.aD z true B k) m (by simp only[Vt];omega) fz rfl sr h
       cases hy:yl.red with
       |false=>
        have fy:=hl.toRed hy;by_cases E:x.n=n∧x.i=i;·obtain⟨r',d,f,q,J⟩:=Vr (Tr.aD z true B k).size (.aD z true B k) m (Zv _) fz rfl;refine⟨_,.takeA x y z yl yr B k r' hx E hy hz d,M8 fy f,nofun,?_⟩;rw[Kk,Jb,Jb x true,J,Vq V,Nc E (am E),←ez,E5 (t:=Tr.aD z true B k) nofun];rfl
        ·obtain⟨r',d,f,q,J⟩:=ih (ah E);refine⟨_,.passA x y z yl yr B k r' hx E hy hz d,M8 fy f,nofun,?_⟩;rw[Kk,Jb,Jb x true,J,Vq V,show(x.n,x.i,x.v)::(Tr.aD z false B k).flat=[(x.n,x.i,x.v)]++(Tr.aD z true B k).flat from rfl,Vq (fun f hf=>by
          obtain rfl:f=_:=by simpa using hf
          exact E)]
         rfl
       |true=>
        obtain⟨u,Z,ur,rfl⟩:=Yg hy;obtain⟨m',k1,k2,k3,k4,k5⟩:=hl.parts;obtain rfl:m=m':=by simpa using k5
        have eL:(Tr.aD y false (Tr.aD u true Z ur) yr).flat++(x.n,x.i,x.v)::(Tr.aD z false B k).flat=((Tr.aD u true Z ur).flat++[(y.n,y.i,y.v)])++(mk x false yr (Tr.aD z true B k)).flat:=by simp[Jb,Vn]
        have ae:∀f∈(Tr.aD u true Z ur).flat++[(y.n,y.i,y.v)],¬(f.1=n∧f.2.1=i):=fun f hf=>V f (by
         rw[Jb];rcases Zl.1 hf with hf|hf;·exact List.mem_append_left _ hf
         ·obtain rfl:f=_:=by simpa using hf
          simp)
        have ai:¬(y.n=n∧y.i=i):=ae (y.n,y.i,y.v) (by simp);have I:Xd (mk x false yr (Tr.aD z true B k)).flat:=by rw[eL]at hsort;exact(List.pairwise_append.1 hsort).2.1
        obtain⟨t',d,f,q,J⟩:=Qoa (x:=x) k2 fz k3 rfl hx (by rw[Vn]at I;exact I) ih ⟨e,by rw[Vn];exact List.mem_append_right _ aa,U⟩;have fu:Yp (.aD u false Z ur) (m+1):=k1.black;obtain⟨b1,b2⟩:=Oo (x:=y.re (.aD u true Z ur) (mk x true yr (.aD z true B k))) (c:=true) fu f q (fun _=>rfl);refine⟨_,.passB x y z u Z ur yr B k t' hx ai hz d,b1,nofun,?_⟩;rw[Kk,Jb,Jb x true,eL,Vq ae,J];simp[Nd.re,Jb]
instance(e f:Xu):Decidable (Mv e f):=by unfold Mv;infer_instance
def Un(e:Xu):List Xu→List Xu
 |[]=>[e]
 |f::l=>if Mv e f then e::f::l else f::Un e l
theorem Qdd{e x:Xu}(h:Mv e x)(r:List Xu):∀l:List Xu,Un e (l++x::r)=Un e l++x::r
 |[]=>by simp[Un,h]
 |f::l=>by
  simp only[List.cons_append,Un];split;·rfl
  ·rw[Qdd h r l];rfl
theorem Wy{e x:Xu}(h:¬Mv e x)(r:List Xu):∀l:List Xu,(∀f∈l,Mv f x)→Un e (l++x::r)=l++x::Un e r
 |[],_=>by simp[Un,h]
 |f::l,hl=>by have hf:¬Mv e f:=fun hf=>h (Qdf hf (hl f (by simp)));simp only[List.cons_append,Un,hf,if_false];rw[Wy h r l (fun g c=>hl g (by simp[c]))]
theorem Lb{e g:Xu}:∀{l:List Xu},g∈Un e l↔g=e∨g∈l
 |[]=>by simp[Un]
 |f::l=>by
  simp only[Un];split;·simp
  ·simp only[Zu,Lb (l:=l)];constructor
   ·rintro(h|h|h);·exact .inr (.inl h)
    ·exact .inl h
    ·exact .inr (.inr h)
   ·rintro(h|h|h);·exact .inr (.inl h)
    ·exact .inl h
    ·exact .inr (.inr h)
theorem Rt{e:Xu}:∀{l:List Xu},Xd l→(∀f∈l,¬(f.1=e.1∧f.2.1=e.2.1))→Xd (Un e l)
 |[],_,_=>by simp[Un,Xd]
 |f::l,h,hne=>by
  obtain⟨h1,k⟩:=List.pairwise_cons.1 h;simp only[Un];split
  ·rename_i d;refine List.pairwise_cons.2 ⟨?_,h⟩;intro g c;rcases Zu.1 c with rfl|c;·exact d
   ·exact Qdf d (h1 g c)
  ·rename_i d;refine List.pairwise_cons.2 ⟨?_,Rt k fun g c=>hne g (by simp[c])⟩;intro g c;rcases Lb.1 c with rfl|c;·have:=hne f (by simp);unfold Mv at d⊢;omega
   ·exact h1 g c
theorem Qrv{n:Nat}{i:Int}{v:Nat}{x:Nd}:lt n i x=true↔Mv (n,i,v) (x.n,x.i,x.v):=Qkz
theorem Qa7(n:Nat)(i:Int)(v a:Nat):∀t:Tr,Xd t.flat→(t.put n i v a).flat=Un (n,i,v) t.flat
 | .nil,_=>rfl
 | .aD x c l r,h=>by
  rw[Jb]at h;obtain⟨sl,sr,hl,hr⟩:=Lc h;simp only[Tr.put];cases d:lt n i x with
  |true=> simp only[if_true];rw[Kk,Jb,Qa7 n i v a l sl,Jb,Qdd (Qrv.1 d)]
  |false=>
   have k:¬Mv (n,i,v) (x.n,x.i,x.v):=fun h'=>by rw[Qrv.2 h']at d;cases d
   simp only[Bool.false_eq_true,if_false];rw[Kk,Jb,Qa7 n i v a r sr,Jb,Wy k _ _ hl]
theorem Ql1{n:Nat}{i:Int}{l:List Xu}(h:Xd l):Xd (del n i l):=h.sublist List.filter_sublist
theorem Cu(n:Nat)(i:Int)(v a:Nat):∀t:Tr,(t.put n i v a).aC.Perm (a::t.aC)
 | .nil=>.refl _
 | .aD x c l r=>by
  simp only[Tr.put];split;·rw[Kd];simp only[Tr.aC];exact((Cu n i v a l).append_right _)
  ·rw[Kd];simp only[Tr.aC];exact(((Cu n i v a r).cons x.a).append_left l.aC).trans (((List.Perm.swap a x.a r.aC).append_left l.aC).trans List.perm_middle)
theorem Hp(x:Nd)(c:Bool)(l r:Tr):(Tr.aD x c l r).aC=l.aC++x.a::r.aC:=rfl
theorem Kh{t q:Tr}(h:DropFirst t q):q.aC.Sublist t.aC:=by
 induction h with
 |last x c r=>exact List.nil_sublist _
 |stay x c l r l' J d k=>rw[Kd];exact k.append (List.Sublist.refl _)
 |turnA x y z yl yr R B l' h1 I d k=>rw[Kd];exact k.append (List.Sublist.refl _)
 |turnB x y z u yl yr K E B l' h1 d k=> rw[Kd];have:=k.append (List.Sublist.refl (u.a::(E.aC++z.a::B.aC)));simp only[Hp,Ly]at this⊢;simpa[Nd.re]using this
theorem Hs{n:Nat}{i:Int}{t R:Tr}(h:Drop n i t R):R.aC.Sublist t.aC:=by
 induction h with
 |stay x c l r l' h0 V d k=>rw[Kd];exact k.append (List.Sublist.refl _)
 |turnA x y z yl yr K E l' h0 h1 q d k=>rw[Kd];exact k.append (List.Sublist.refl _)
 |turnB x y z u yl yr U J E l' h0 h1 d k=> rw[Kd];have:=k.append (List.Sublist.refl (u.a::(J.aC++z.a::E.aC)));simp only[Hp,Ly]at this⊢;simpa[Nd.re]using this
 |right x y c yl yr r B h0 h1 d k=> rw[Kd];have:=(List.Sublist.refl (yl.aC++[y.a])).append k;simp only[Hp,Ly]at this⊢;simpa[Nd.re]using this
 |here x c l h0 h1 q=>exact List.nil_sublist _
 |passA x y z yl yr K E B h0 h1 q I d k=> rw[Kd];have:=(List.Sublist.refl ((Tr.aD y true yl yr).aC++[x.a])).append k;simp only[Hp]at this⊢;simpa using this
 |takeA x y z yl yr K E B h0 h1 q I d=> rw[Kd];have:=(List.Sublist.refl ((Tr.aD y true yl yr).aC++[x.a])).append (Kh d);simp only[Hp]at this⊢;simpa[Nd.as]using this
 |passB x y z u U J yr K E B h0 h1 q d k=> rw[Kd];have:=(List.Sublist.refl ((Tr.aD u true U J).aC++[y.a])).append k;simp only[Hp,Ly]at this⊢;simpa[Nd.re]using this
 |passC x c l r B h0 h1 q I d k=> rw[Kd];have:=(List.Sublist.refl (l.aC++[x.a])).append k;simp only[Hp]at this⊢;simpa using this
 |takeC x c l r B h0 h1 q I d=> rw[Kd];have:=(List.Sublist.refl (l.aC++[x.a])).append (Kh d);simp only[Hp]at this⊢;simpa[Nd.as]using this
def Xg(a b:Nat×Int):Prop:=a.1<b.1∨a.1=b.1∧a.2<b.2
theorem Qo0(a b:Nat×Int):Xn a b=a∨Xn a b=b:=by
 unfold Xn;split;·exact .inl rfl
 ·exact .inr rfl
theorem Oc(a1:Nat)(c:Int)(b1:Nat)(b2:Int):Xn (a1,c) (b1,b2)=if a1<b1∨a1=b1∧c≤b2 then(a1,c)else(b1,b2):=by
 unfold Xn;by_cases h:a1<b1∨a1=b1∧c≤b2
 ·have h':(a1,c)=(b1,b2)∨(a1,c).1<(b1,b2).1∨(a1,c).1=(b1,b2).1∧(a1,c).2<(b1,b2).2:=by simp only[Prod.mk.injEq];omega
  rw[if_pos h,if_pos h']
 ·have h':¬((a1,c)=(b1,b2)∨(a1,c).1<(b1,b2).1∨(a1,c).1=(b1,b2).1∧(a1,c).2<(b1,b2).2):=by simp only[Prod.mk.injEq];omega
  rw[if_neg h,if_neg h']
theorem Nq(a b c:Nat×Int):Xn (Xn a b) c=Xn a (Xn b c):=by
 obtain⟨a1,u⟩:=a;obtain⟨b1,b2⟩:=b;obtain⟨k,q⟩:=c;rw[Oc a1 u b1 b2,Oc b1 b2 k q];by_cases h1:a1<b1∨a1=b1∧u≤b2
 ·rw[if_pos h1];by_cases d:b1<k∨b1=k∧b2≤q;·rw[if_pos d,Oc,Oc,if_pos h1,if_pos (by omega)]
  ·rw[if_neg d]
 ·rw[if_neg h1];by_cases d:b1<k∨b1=k∧b2≤q;·rw[if_pos d,Oc,Oc,if_pos d,if_neg h1]
  ·rw[if_neg d,Oc,Oc,if_neg d,if_neg (by omega)]
def low:List Xu→Option (Nat×Int)
 |[]=>none
 |e::l=>match low l with
  |none=>some (e.2.2,e.2.1)
  |some s=>some (Xn (e.2.2,e.2.1) s)
def jn:Option (Nat×Int)→Option (Nat×Int)→Option (Nat×Int)
 |none,b=>b
 |a,none=>a
 |some a,some b=>some (Xn a b)
theorem Qab(a b c:Option (Nat×Int)):jn (jn a b) c=jn a (jn b c):=by cases a<;>cases b<;>cases c<;>simp[jn,Nq]
theorem Nr:∀a b:List Xu,low (a++b)=jn (low a) (low b)
 |[],b=>rfl
 |e::a,b=>by rw[List.cons_append,low,Nr a b,low];cases ha:low a<;>cases c:low b<;>simp[jn,Nq]
theorem Qnc(e:Xu):low [e]=some (e.2.2,e.2.1):=rfl
def Tr.sum:Tr→Option (Nat×Int)
 | .nil=>none
 | .aD x _ _ _=>some (x.sv,x.si)
theorem Qmo(x:Nd)(l r:Tr):some (Pr x l r)=jn (jn l.sum (some (x.v,x.i))) r.sum:=by cases l<;>cases r<;>rfl
theorem Bb:∀t:Tr,t.even→t.sum=low t.flat
 | .nil,_=>rfl
 | .aD x c l r,⟨hl,hr,_,hs⟩=>by
  have e:(Tr.aD x c l r).sum=some (Pr x l r):=by rw[←hs];rfl
  rw[e,Qmo,Bb l hl,Bb r hr,Jb,Nr,Qab];congr 1;rw[show(x.n,x.i,x.v)::r.flat=[(x.n,x.i,x.v)]++r.flat from rfl,Nr,Qnc]
theorem Cn:∀{l:List Xu}{s:Nat×Int},low l=some s→∀e∈l,s.1≤e.2.2
 |e::l,s,h,f,hf=>by
  rw[low]at h;cases hl:low l with
  |none=>
   cases l with
   |nil=>
    rw[hl]at h;obtain rfl:=Zs h;obtain rfl:f=e:=by simpa using hf
    exact Zv _
   |cons g l=>rw[low]at hl;cases c:low l<;>rw[c]at hl<;>cases hl
  |some q=>
   rw[hl]at h;obtain rfl:=Zs h;rcases Zu.1 hf with rfl|hf
   ·unfold Xn;split;·exact Zv _
    ·rename_i h';simp only[not_or]at h';omega
   ·have:=Cn hl f hf;unfold Xn;split
    ·rename_i h';rcases h' with h'|h'|h';·have:=congrArg Prod.fst h';simp at this;omega
     ·simp at h';omega
     ·have:=h'.1;simp at this;omega
    ·exact this
theorem Qe9:∀{l:List Xu}{s:Nat×Int},low l=some s→∃e∈l,s=(e.2.2,e.2.1)
 |e::l,s,h=>by
  rw[low]at h;cases hl:low l with
  |none=> rw[hl]at h;obtain rfl:=Zs h;exact⟨e,by simp,rfl⟩
  |some q=>
   rw[hl]at h;obtain rfl:=Zs h;rcases Qo0 (e.2.2,e.2.1) q with h'|h';·exact⟨e,by simp,h'⟩
   ·obtain⟨f,hf,c⟩:=Qe9 hl;exact⟨f,by simp[hf],h'.trans c⟩
def Tr.at(n:Nat)(i:Int):Tr→Tr
 | .nil=>.nil
 | .aD x c l r=>if x.n=n∧x.i=i then .aD x c l r else if lt n i x then l.at n i else r.at n i
theorem Ap{n:Nat}{i:Int}:∀{t:Tr},Xd t.flat→(t.at n i=.nil↔∀e∈t.flat,¬(e.1=n∧e.2.1=i))
 | .nil,_=>by simp[Tr.at,Tr.flat]
 | .aD x c l r,h=>by
  rw[Jb]at h⊢;obtain⟨sl,sr,hl,hr⟩:=Lc h;rw[Tr.at];by_cases k:x.n=n∧x.i=i;·rw[if_pos k];simp only[reduceCtorEq,false_iff];intro h';exact h' (x.n,x.i,x.v) (by simp) k
  ·rw[if_neg k];cases q:lt n i x with
   |true=>
    rw[if_pos rfl,Ap sl];constructor
    ·intro h' e d;rcases Zl.1 d with d|d;·exact h' e d
     ·rcases Zu.1 d with rfl|d;·exact k
      ·exact Qdt q (hr e d)
    ·intro h' e d;exact h' e (List.mem_append_left _ d)
   |false=>
    rw[if_neg (by simp),Ap sr];constructor
    ·intro h' e d;rcases Zl.1 d with d|d;·exact Qaw q (hl e d)
     ·rcases Zu.1 d with rfl|d;·exact k
      ·exact h' e d
    ·intro h' e d;exact h' e (List.mem_append_right _ (Zr _ d))
theorem Qer{n:Nat}{i:Int}{y:Nd}{d:Bool}{a b:Tr}:∀{t:Tr},t.at n i=.aD y d a b→y.n=n∧y.i=i∧(n,i,y.v)∈t.flat
 | .nil,h=>by cases h
 | .aD x c l r,h=>by
  rw[Tr.at]at h;split at h;·rename_i u;injection h with h1 k q z;subst h1;refine⟨u.1,u.2,?_⟩;rw[Jb,←u.1,←u.2];simp
  ·split at h;·obtain⟨h1,k,q⟩:=Qer h;exact⟨h1,k,by rw[Jb];exact List.mem_append_left _ q⟩
   ·obtain⟨h1,k,q⟩:=Qer h;exact⟨h1,k,by rw[Jb];exact List.mem_append_right _ (Zr _ q)⟩
def Tr.upto(n:Nat):Tr→Option (Nat×Int)→Option (Nat×Int)
 | .nil,s=>s
 | .aD x _ l r,s=>if n<x.n then l.upto n s else r.upto n (jn (jn s l.sum) (some (x.v,x.i)))
theorem Qna(a:Option (Nat×Int)):jn a none=a:=by cases a<;>rfl
theorem Qb1(n:Nat):∀(t:Tr)(s:Option (Nat×Int)),t.even→Xd t.flat→t.upto n s=jn s (low (t.flat.filter fun e=>decide (e.1≤n)))
 | .nil,s,_,_=>by simp[Tr.upto,Tr.flat,low,Qna]
 | .aD x c l r,s,⟨el,er,_,_⟩,h=>by
  rw[Jb]at h⊢;obtain⟨sl,sr,hl,hr⟩:=Lc h;rw[Tr.upto,List.filter_append];by_cases k:n<x.n
  ·rw[if_pos k,Qb1 n l s el sl];have:((x.n,x.i,x.v)::r.flat).filter (fun e=>decide (e.1≤n))=[]:=by
    refine List.filter_eq_nil_iff.2 fun e d=>?_;simp only[decide_eq_true_eq];rcases Zu.1 d with rfl|d;·dsimp only;omega
    ·have:=hr e d;unfold Mv at this;dsimp only at this;omega
   rw[this,List.append_nil]
  ·rw[if_neg k,Qb1 n r _ er sr];have h1:l.flat.filter (fun e=>decide (e.1≤n))=l.flat:=by refine List.filter_eq_self.2 fun e d=>?_;simp only[decide_eq_true_eq];have:=hl e d;unfold Mv at this;dsimp only at this;omega
   have q:((x.n,x.i,x.v)::r.flat).filter (fun e=>decide (e.1≤n))=[(x.n,x.i,x.v)]++r.flat.filter (fun e=>decide (e.1≤n)):=by rw[List.filter_cons,if_pos (by simpa using k)];rfl
   rw[h1,q,Nr,Nr,Qnc,Bb l el,Qab,Qab]
def Tr.within(v:Nat):Tr→Option (Nat×Int×Nat)
 | .nil=>none
 | .aD x _ l r=>match l.sum with
  |some s=>if s.1≤v then l.within v else if x.v≤v then some (x.n,x.i,x.v)else r.within v
  |none=>if x.v≤v then some (x.n,x.i,x.v)else r.within v
theorem Ei:∀{l:List Xu},low l=none→l=[]
 |[],_=>rfl
 |e::l,h=>by rw[low]at h;cases hl:low l<;>rw[hl]at h<;>cases h
theorem Sa(v:Nat):∀(t:Tr),t.even→t.within v=t.flat.find? fun e=>decide (e.2.2≤v)
 | .nil,_=>rfl
 | .aD x c l r,⟨el,er,_,_⟩=>by
  have I:=Sa v l el;have B:=Sa v r er;have hs:=Bb l el;rw[Tr.within,Jb,List.find?_append,List.find?_cons];cases d:l.sum with
  |none=>
   dsimp only;rw[d]at hs;rw[Ei hs.symm,List.find?_nil,Option.none_or];by_cases k:x.v≤v;·simp[k]
   ·simp[k,B]
  |some s=>
   dsimp only;rw[d]at hs;by_cases h1:s.1≤v
   ·rw[if_pos h1,I];obtain⟨e,u,z⟩:=Qe9 hs.symm;have:(l.flat.find? fun e=>decide (e.2.2≤v)).isSome=true:=by rw[List.find?_isSome];exact⟨e,u,by rw[z]at h1;simpa using h1⟩
    obtain⟨q,E⟩:=Option.isSome_iff_exists.1 this;rw[E];rfl
   ·rw[if_neg h1];have hn:(l.flat.find? fun e=>decide (e.2.2≤v))=none:=by rw[List.find?_eq_none];intro e u;have:=Cn hs.symm e u;simp only[decide_eq_true_eq];omega
    rw[hn,Option.none_or];by_cases k:x.v≤v;·simp[k]
    ·simp[k,B]
end Go.Proofs.YtnnhmpehkbihnaaGreat
