/- A part of the proof: no condition. -/
import Derived.Test.YtnnhmpehkbihnaaGreatPk38
namespace Go.Proofs.YtnnhmpehkbihnaaGreat
set_option linter.unusedVariables false
set_option maxRecDepth 100000
set_option maxHeartbeats 4000000
open Go.RowKit
open Go.Proofs.Tryz
theorem Aa:∀{l:List Xu}{s:Nat×Int},low l=some s→∀e∈l,e.2.2=s.1→s.2≤e.2.1
 |e::l,s,h,f,hf,he=>by
  rw[low]at h;cases hl:low l with
  |none=>
   rw[hl]at h;obtain rfl:=Zs h;rw[Ei hl]at hf;obtain rfl:f=e:=by simpa using hf
   exact Int.le_refl _
  |some q=>
   rw[hl]at h;obtain rfl:=Zs h;have c:=Cn hl;rcases Zu.1 hf with rfl|hf
   ·unfold Xn at he⊢;split;·exact Int.le_refl _
    ·rename_i h';simp only[not_or,not_and]at h';rw[if_neg (by simp only[not_or,not_and];exact h')]at he;have:=h'.2.2 he;exact Int.not_lt.1 this
   ·have h1:=c f hf;unfold Xn at he⊢;split
    ·rename_i h';rw[if_pos h']at he;dsimp only at he⊢;rcases h' with h'|h'|h';·rw[←h']at hl;have:=Aa hl f hf he;exact this
     ·dsimp only at h';omega
     ·have:=Aa hl f hf (by rw[he];exact h'.1);have:=h'.2;dsimp only at this;omega
    ·rename_i h';rw[if_neg h']at he;exact Aa hl f hf he
section
variable{s:Qf}{N:Nat}
def Qf.fit(s:Qf)(i:Int):Nat:=s.pick.fitAt i
theorem Xp.row_of(h:Xp N s){a b:Nat}{i:Int}(u:(a,i,b)∈s.row):s.elig i=a∧s.due i=b∧∃l,s.leaf i=some l∧l.q≠[]:=by
 obtain⟨l,d,hl,q,k,rfl,rfl⟩:=(h.row a i b).1 u;have c:s.leaf i=some l:=hl;refine⟨?_,?_,l,c,?_⟩;·unfold Qf.elig;rw[c];simp[q,Ju.from_,k]
 ·unfold Qf.due;rw[c];simp[q,Ju.dueAt,k]
 ·have:=((h.at c).1.debt d q).2.2;rw[k]at this;exact of_decide_eq_true this.symm
theorem Xp.row_has(h:Xp N s){now:Nat}(hn:now<Qq){i:Int}(k:s.elig i≤now):(s.elig i,i,s.due i)∈s.row:=by
 unfold Qf.elig Qf.due at*;cases hl:s.leaf i with
 |none=>rw[hl]at k;simp at k;omega
 |some l=>
  rw[hl]at k;cases q:l.debt with
  |none=>simp[q]at k;omega
  |some d=>
   simp only[Option.bind_some,q,Zn,Option.getD_some]at k⊢;unfold Ju.from_ at k;by_cases c:d.aL=true
   ·refine(h.row _ i _).2 ⟨l,d,hl,q,c,?_,?_⟩;·simp[Ju.from_,c]
    ·simp[Ju.dueAt,c]
   ·rw[if_neg c]at k;omega
theorem Xp.least_none(h:Xp N s){now:Nat}(hn:now<Qq)(ha:Jt now s.row=none)(i:Int):¬s.elig i≤now:=fun d=>by have k:=h.row_has hn d;unfold Jt at ha;have:=Ei ha;have c:(s.elig i,i,s.due i)∈s.row.filter fun e=>decide (e.1≤now):=List.mem_filter.2 ⟨k,by simpa using d⟩;rw[this]at c;cases c
theorem Xp.least_some(h:Xp N s){now:Nat}(hn:now<Qq){x:Nat×Int}(ha:Jt now s.row=some x):
  s.elig x.2≤now∧s.due x.2=x.1∧(∀i,s.elig i≤now→x.1≤s.due i∧(s.due i=x.1→x.2≤i))∧∃l,s.leaf x.2=some l∧l.q≠[]:=by
 unfold Jt at ha;obtain⟨a,d⟩:=Sq ha;obtain⟨d,c⟩:=List.mem_filter.1 d;obtain⟨e1,q,u⟩:=h.row_of d;refine⟨by rw[e1];simpa using c,q,fun i hi=>?_,u⟩;have k:(s.elig i,i,s.due i)∈s.row.filter fun e=>decide (e.1≤now):=List.mem_filter.2 ⟨h.row_has hn hi,by simpa using hi⟩;exact⟨Cn ha _ k,fun e=>Aa ha _ k e⟩
end
section
variable{p:Qe}{N:Nat}{dep:Int→Nat}
def Qe.fits(p:Qe)(now:Nat)(i:Int):Prop:=p.aL i=true∧∃c,p.at i=some c∧c.fit≤now
theorem Nh{now:Nat}(hn:now<Qq){i:Int}:p.fits now i↔p.fitAt i≤now:=by
 unfold Qe.fits Qe.fitAt;constructor;·rintro⟨ha,c,hc,hf⟩;rw[if_pos ha,hc];exact hf
 ·intro h;by_cases ha:p.aL i=true
  ·rw[if_pos ha]at h;cases hc:p.at i with
   |none=>rw[hc]at h;simp at h;omega
   |some c=>rw[hc]at h;exact⟨ha,c,rfl,h⟩
  ·rw[if_neg ha]at h;omega
theorem Ad{v:Nat}{l:List Xu}{e:Xu}(c:Xf v l=some e):e∈l∧e.2.2≤v:=by unfold Xf at c;exact⟨List.mem_of_find?_eq_some c,by simpa using List.find?_some c⟩
theorem Qug{v:Nat}{l:List Xu}(c:Xf v l=none):∀e∈l,¬e.2.2≤v:=by unfold Xf at c;simpa using List.find?_eq_none.1 c
theorem Qe6{v:Nat}:∀{l:List Xu}{e f:Xu},Xd l→Xf v l=some e→f∈l→f.2.2≤v→e.1≤f.1
 |x::l,e,f,hr,he,c,hf=>by
  obtain⟨k,q⟩:=List.pairwise_cons.1 hr;unfold Xf at he;rw[List.find?_cons]at he;by_cases d:x.2.2≤v
  ·simp only[d,decide_true,Option.some.injEq]at he;subst he;rcases Zu.1 c with rfl|c;·exact Zv _
   ·rcases k f c with h|h;·exact Nat.le_of_lt h
    ·exact Nat.le_of_eq h.1
  ·simp only[d,decide_false]at he;rcases Zu.1 c with rfl|c;·exact absurd hf d
   ·exact Qe6 q he c hf
theorem Qd5{n:Nat}{i x:Int}(d:x∈p.path n i):∃m c,n=m+1∧0<i∧p.at i=some c∧(x=i∨x∈p.path m c.par):=by
 cases n with
 |zero=>rw[Qe.path]at d;cases d
 |succ m=>
  rw[Qe.path]at d;by_cases hi:i<1;·rw[if_pos hi]at d;cases d
  ·rw[if_neg hi]at d;cases hc:p.at i with
   |none=>rw[hc]at d;cases d
   |some c=> rw[hc]at d;exact⟨m,c,rfl,by omega,rfl,Zu.1 d⟩
theorem Qdw(I:Uz p)(now:Nat):∀(n:Nat)(i j:Int),p.next now n i=some j→(∀m,∀x∈p.path m i,p.fits now x)→∀m,∀x∈p.path m j,p.fits now x
 |0,i,j,h,_=>by rw[Qe.next]at h;cases h
 |n+1,i,j,h,hi=>by
  rw[Qe.next]at h;cases hc:p.at i with
  |none=>rw[hc]at h;cases h
  |some c=>
   rw[hc]at h;dsimp only at h;by_cases hl:c.leaf=true;·rw[if_pos hl]at h;obtain rfl:=Zs h;exact hi
   ·rw[if_neg hl]at h;cases E:Xf now c.tree with
    |none=>rw[E]at h;cases h
    |some e=>
     rw[E]at h;dsimp only at h;obtain⟨a,k,b⟩:=e;obtain⟨U,K⟩:=Ad E;obtain⟨_,R,_,J,u,B,z⟩:=(I.ent k i c hc a b).1 U;refine Qdw I now n k j h fun m x d=>?_;obtain⟨V,c',rfl,_,q,d⟩:=Qd5 d;rw[u]at q;obtain rfl:=Zs q;rcases d with rfl|d;·exact⟨R,J,u,by rw[←z];exact K⟩
     ·rw[B]at d;exact hi V x d
theorem Ib{l:List Xu}{v:Nat}{x:Nat×Int}(h:low l=some x)(k:x.1≤v):∃e,Xf v l=some e:=by
 obtain⟨a,d⟩:=Sq h;cases c:Xf v l with
 |some e=>exact⟨e,rfl⟩
 |none=>exact absurd k (Qug c _ d)
theorem Qay(ok:Qs dep N p)(K:Uz p){now:Nat}(hn:now<Qq):∀(n:Nat)(i:Int),0<i→(∃c,p.at i=some c∧c.fit≤now)→8-dep i<n→∃j,p.next now n i=some j
 |0,_,_,_,h=>by omega
 |n+1,i,hi,⟨c,hc,hf⟩,hd=>by
  rw[Qe.next,hc];dsimp only;by_cases hl:c.leaf=true;·exact⟨i,by rw[if_pos hl]⟩
  ·rw[if_neg hl];unfold Qx.fit at hf;dsimp only at hf;rw[if_neg hl]at hf;cases d:low c.tree with
   |none=>rw[d]at hf;dsimp only at hf;omega
   |some x=> rw[d]at hf;dsimp only at hf;obtain⟨e,J⟩:=Ib d (show x.1≤now by omega);rw[J];dsimp only;obtain⟨a,k,b⟩:=e;obtain⟨U,R⟩:=Ad J;obtain⟨E,V,_,I,q,z,u⟩:=(K.ent k i c hc a b).1 U;have B:=(ok.up.2 I (Qe.aE q).1 (by rw[(Qe.aE q).2];omega)).2.2;rw[(Qe.aE q).2,z]at B;exact Qay ok K hn n k E ⟨I,q,by rw[←u];exact R⟩ (by omega)
theorem Qdx(ok:Qs dep N p)(U:Uz p){now:Nat}(hn:now<Qq):(∃j,p.next now 10 0=some j)↔p.tick≤now:=by
 obtain⟨r,hr,K⟩:=ok.root;unfold Qe.tick;rw[Qe.next,hr];dsimp only;rw[if_neg (by rw[K];exact Bool.false_ne_true)];cases c:low r.tree with
 |none=>
  rw[Ei c];refine⟨fun⟨j,h⟩=>?_,fun h=>?_⟩;·cases h
  ·dsimp only at h;omega
 |some x=>
  dsimp only;constructor
  ·rintro⟨j,h⟩;cases q:Xf now r.tree with
   |none=>rw[q]at h;cases h
   |some e=> obtain⟨J,B⟩:=Ad q;exact Zp (Cn c e J) B
  ·intro V;obtain⟨e,q⟩:=Ib c V;rw[q];dsimp only;obtain⟨a,k,b⟩:=e;obtain⟨J,B⟩:=Ad q;obtain⟨I,Z,_,R,d,z,u⟩:=(U.ent k 0 r hr a b).1 J;have E:=(ok.up.2 R (Qe.aE d).1 (by rw[(Qe.aE d).2];omega)).2.2;rw[(Qe.aE d).2,z]at E;exact Qay ok U hn 9 k I ⟨R,d,by rw[←u];exact B⟩ (by omega)
theorem Qpc(ok:Qs dep N p)(K:Uz p){now:Nat}(hn:now<Qq){i:Int}{c:Qx}(hc:p.at i=some c)(hi:0<i)(hf:∀x∈p.path 9 i,p.fits now x):∃j,p.next now 10 0=some j:=by
 refine(Qdx ok K hn).2 ?_;obtain⟨E,J,R⟩:=De ok hc;have top:∀(l:List Int),l≠[]→Vy p l→(∀x∈l,p.fits now x)→p.tick≤now:=by
  intro l;induction l with
  |nil=>exact fun h=>absurd rfl h
  |cons a l ih=>
   intro _ U q;obtain⟨h0,⟨c,hc,V⟩,hr⟩:=U;by_cases hl:l=[]
   ·subst hl;obtain⟨ha,c',k,u⟩:=q a List.mem_cons_self;rw[hc]at k;obtain rfl:=Zs k;have I:c.par=0:=V;obtain⟨r,z,Z⟩:=ok.root;have B:=(K.ent a 0 r z (p.v a) c.fit).2 ⟨h0,ha,rfl,c,hc,I,rfl⟩;unfold Qe.tick;rw[z];dsimp only;cases d:low r.tree with
    |none=>rw[Ei d]at B;cases B
    |some x=>exact Zp (Cn d _ B) u
   ·exact ih hl hr fun x hx=>q x (Zr _ hx)
 refine top _ (fun e=>?_) E hf;rw[e]at J;have:i=0:=J.symm;omega
end
def Kx(f:Int→Nat)(c:Nat×List Int)(i:Int):Nat×List Int:=if f i<c.1∨c.2=[]then(f i,[i])else if f i=c.1 then(c.1,c.2++[i])else c
def Kt(f:Int→Nat)(l:List Int):List Int:=(l.foldl (Kx f) (18446744073709551615,[])).2
theorem Qdh(f:Int→Nat):∀(l c:List Int)(d:Nat×List Int),(c=[]→d.2=[])→(c≠[]→d.2≠[]∧(∀j∈c,d.1≤f j)∧d.2=c.filter fun j=>decide (f j=d.1))→
  l.foldl (Kx f) d=d∧l=[]∨((l.foldl (Kx f) d).2≠[]∧(∀j∈c++l,(l.foldl (Kx f) d).1≤f j)∧(l.foldl (Kx f) d).2=(c++l).filter fun j=>decide (f j=(l.foldl (Kx f) d).1))
 |[],c,d,_,_=>.inl ⟨rfl,rfl⟩
 |i::l,c,d,h0,h1=>by
  right;have q:(Kx f d i).2≠[]∧(∀j∈c++[i],(Kx f d i).1≤f j)∧(Kx f d i).2=(c++[i]).filter fun j=>decide (f j=(Kx f d i).1):=by
   unfold Kx;by_cases z:c=[];·subst z;rw[if_pos (.inr (h0 rfl))];simp
   ·obtain⟨k1,k2,B⟩:=h1 z;by_cases Xg:f i<d.1
    ·rw[if_pos (.inl Xg)];refine⟨by simp,fun j k=>?_,?_⟩
     ·rcases Zl.1 k with k|k;·have:=k2 j k;dsimp only;omega
      ·obtain rfl:=List.mem_singleton.1 k;exact Zv _
     ·rw[List.filter_append];have:c.filter (fun j=>decide (f j=f i))=[]:=List.filter_eq_nil_iff.2 fun j k=>by have:=k2 j k;simp only[decide_eq_true_eq];omega
      dsimp only;rw[this];simp
    ·rw[if_neg (fun h=>h.elim Xg k1)];by_cases u:f i=d.1
     ·rw[if_pos u];refine⟨by simp,fun j k=>?_,?_⟩
      ·rcases Zl.1 k with k|k;·exact k2 j k
       ·obtain rfl:=List.mem_singleton.1 k;dsimp only;omega
      ·dsimp only;rw[List.filter_append,←B];simp[u]
     ·rw[if_neg u];refine⟨k1,fun j k=>?_,?_⟩
      ·rcases Zl.1 k with k|k;·exact k2 j k
       ·obtain rfl:=List.mem_singleton.1 k;omega
      ·rw[List.filter_append,←B];simp[u]
  rw[List.foldl_cons];rcases Qdh f l (c++[i]) (Kx f d i) (fun e=>by simp at e) (fun _=>q)with⟨e,rfl⟩|h;·rw[e];exact q
  ·rw[List.append_assoc]at h;exact h
theorem Qoy{f:Int→Nat}:Kt f []=[]:=rfl
theorem Qho(f:Int→Nat){l:List Int}(hl:l≠[]):Kt f l≠[]∧∃m,(∀j∈l,m≤f j)∧Kt f l=l.filter fun j=>decide (f j=m):=by
 rcases Qdh f l [] (18446744073709551615,[]) (fun _=>rfl) (fun h=>absurd rfl h)with⟨_,h⟩|⟨h1,c,d⟩;·exact absurd h hl
 ·rw[List.nil_append]at c d;exact⟨h1,_,c,d⟩
theorem Ej{f:Int→Nat}{l:List Int}{i:Int}:i∈Kt f l↔i∈l∧∀j∈l,f i≤f j:=by
 by_cases hl:l=[];·subst hl;simp[Qoy]
 ·obtain⟨h1,m,u,z⟩:=Qho f hl;constructor
  ·intro hi;rw[z]at hi;obtain⟨k,c⟩:=List.mem_filter.1 hi;have c:f i=m:=by simpa using c
   exact⟨k,fun j E=>by rw[c];exact u j E⟩
  ·rintro⟨k,c⟩;obtain⟨x,B⟩:=List.exists_mem_of_ne_nil _ h1;rw[z]at B⊢;obtain⟨q,d⟩:=List.mem_filter.1 B;have d:f x=m:=by simpa using d
   refine List.mem_filter.2 ⟨k,?_⟩;have:=c x q;have:=u i k;simp only[decide_eq_true_eq];omega
theorem Ch(f:Int→Nat)(l:List Int):(Kt f l).Sublist l:=by
 by_cases hl:l=[];·subst hl;exact List.Sublist.refl _
 ·obtain⟨_,m,_,c⟩:=Qho f hl;rw[c];exact List.filter_sublist
theorem Qw9{f:Int→Nat}{l:List Int}(hl:l≠[]):Kt f l≠[]:=(Qho f hl).1
def Lp(l:List Int):List Int:=l.mergeSort fun x y=>decide (x≤y)
theorem Vi{l:List Int}{x:Int}:x∈Lp l↔x∈l:=(List.mergeSort_perm l _).mem_iff
theorem Qwc{l:List Int}(h:l.Pairwise (· ≠ ·)):(Lp l).Pairwise (· < ·):=by
 have d:=List.mergeSort_perm l (fun x y=>decide (x≤y));have q:=List.pairwise_mergeSort (le:=fun x y:Int=>decide (x≤y)) (fun a b c h1 k=>by simp only[decide_eq_true_eq]at*;omega) (fun a b=>by simp only[Bool.or_eq_true,decide_eq_true_eq];omega) l;have u:=(d.pairwise_iff (R:=(· ≠ ·)) (fun h e=>h e.symm)).2 h;refine(q.and u).imp fun{a b}⟨h1,k⟩=>?_;have:a≤b:=by simpa using h1
 have k:a≠b:=k;omega
theorem Qwm{l:List Int}:Lp l=[]↔l=[]:=by
 unfold Lp;constructor;·intro h;have:=(List.mergeSort_perm l (fun x y=>decide (x≤y))).length_eq;rw[h]at this;exact List.eq_nil_of_length_eq_zero this.symm
 ·rintro rfl;exact List.mergeSort_nil
def Qf.waits(s:Qf):List Int:=(s.tree.aI 0).filter fun i=>!decide (s.many i=0)
def Qf.isLeaf(s:Qf)(i:Int):Bool:=((s.tree.at i).map (·.sp.leaf)).getD false
def Qf.fitters(s:Qf)(t:Nat)(i:Int):List Int:=(s.tree.aM i).filter fun x=>!(!s.pick.aL x||decide (t<s.fit x))
def Qf.down(s:Qf)(t:Nat):Nat→Int→List Int
 |0,_=>[]
 |n+1,i=>if s.isLeaf i then[i]else(Kt s.pick.v (s.fitters t i)).flatMap (s.down t n)
def Qf.elig1(s:Qf)(t:Nat):List Int:=s.waits.filter fun i=>!decide (t<s.elig i)
def Qf.opts(s:Qf)(t:Nat):List Int×Nat:=if s.elig1 t≠[]then(Lp (Kt s.due (s.elig1 t)),1)else(Lp (s.down t 9 0),2)
def Qf.shareNone(s:Qf)(i:Int):Bool:=((s.tree.at i).map (·.sp.share.none)).getD true
def Qf.heldB(s:Qf)(t:Nat)(i:Int):Bool:=decide (t<s.elig i)&&(s.shareNone i||(s.tree.path 9 i).any fun x=>decide (t<s.fit x))
def Qf.held(s:Qf)(t:Nat):List Int:=s.waits.filter (s.heldB t)
section
variable{s:Qf}{N:Nat}
theorem Xp.waits_mem(h:Xp N s){i:Int}:i∈s.waits↔∃l,s.leaf i=some l∧l.q≠[]:=by
 unfold Qf.waits;rw[List.mem_filter];constructor;·rintro⟨h1,k⟩;obtain⟨l,hl⟩:=(G8 h).1 h1;obtain⟨c,hc,d⟩:=h.leaf_at hl;refine⟨l,hl,fun e=>?_⟩;rw[(Qdq h hc d).1,Ov hl,e]at k;simp at k
 ·rintro⟨l,hl,q⟩;refine⟨(G8 h).2 ⟨l,hl⟩,?_⟩;obtain⟨c,hc,d⟩:=h.leaf_at hl;rw[(Qdq h hc d).1,Ov hl];have:=List.length_pos_iff.2 q;simp;exact q
theorem Qxc(h:Xp N s):s.waits.Pairwise (· < ·):=(Ut h.tree 0).filter _
theorem Xp.awake_leaf(h:Xp N s){i:Int}{l:Qw}(hl:s.leaf i=some l)(u:l.q≠[]):s.pick.aL i=!s.shareNone i:=by
 obtain⟨k,z,_⟩:=h.at hl;obtain⟨c,hc,d,_,_,_,e⟩:=k.sp;rw[z]at hc e;unfold Qf.shareNone;rw[hc,e];simp only[u,ne_eq,not_false_eq_true,decide_true,Bool.and_true,Zn,Option.getD_some];have q:=h.tree.may c (h.tree.pos hc).2.2.2.2.2;unfold Yk.aJ;cases hn:c.sp.share.none with
 |true=>rfl
 |false=> have:=(Md q).2.1;simp[this]
theorem Xp.elig_waits(h:Xp N s){t:Nat}(ht:t<Qq){i:Int}(c:s.elig i≤t):i∈s.waits:=by obtain⟨_,_,l,hl,d⟩:=h.row_of (h.row_has ht c);exact h.waits_mem.2 ⟨l,hl,d⟩
theorem Sr(h:Xp N s){t:Nat}(ht:t<Qq){i:Int}:i∈s.elig1 t↔s.elig i≤t:=by unfold Qf.elig1;rw[List.mem_filter];simp only[Bool.not_eq_true',decide_eq_false_iff_not,Nat.not_lt];exact⟨fun h=>h.2,fun c=>⟨h.elig_waits ht c,c⟩⟩
theorem Qh3(h:Xp N s){t:Nat}(ht:t<Qq){i x:Int}:x∈s.fitters t i↔s.pick.fits t x∧∃c,s.tree.at x=some c∧c.sp.par=i:=by
 unfold Qf.fitters;rw[List.mem_filter,Dv,Nh ht];simp only[Bool.not_eq_true',Bool.or_eq_false_iff,Bool.not_eq_false',decide_eq_false_iff_not,Nat.not_lt];constructor;·rintro⟨⟨c,hc,rfl,d⟩,ha,hf⟩;exact⟨hf,c,Da h.tree.sorted hc,d⟩
 ·rintro⟨hf,c,hc,d⟩;obtain⟨k,hi⟩:=Qm.aE hc;exact⟨⟨c,k,hi,d⟩,((Nh ht).2 hf).1,hf⟩
theorem Qov{i:Int}{c:Vm}(hc:s.tree.at i=some c):s.isLeaf i=c.sp.leaf:=by unfold Qf.isLeaf;rw[hc];rfl
theorem Xp.isLeaf_no(h:Xp N s){i:Int}(hl:¬s.isLeaf i=true):∀c,s.tree.at i=some c→c.sp.leaf=false:=fun c hc=>by rw[Qov hc]at hl;simpa using hl
theorem Xp.zero_no(h:Xp N s):¬s.isLeaf 0=true:=by unfold Qf.isLeaf;rw[h.tree.zero (by decide)];simp
theorem Lj(h:Xp N s){t:Nat}(ht:t<Qq):∀(n:Nat)(i j:Int),j∈s.down t n i→j∈s.tree.aI i∧((∀m,∀x∈s.tree.path m i,s.pick.fits t x)→∀m,∀x∈s.tree.path m j,s.pick.fits t x)
 |0,i,j,hj=>by rw[Qf.down]at hj;cases hj
 |n+1,i,j,hj=>by
  rw[Qf.down]at hj;by_cases hl:s.isLeaf i=true
  ·rw[if_pos hl]at hj;obtain rfl:=List.mem_singleton.1 hj;unfold Qf.isLeaf at hl;cases hc:s.tree.at j with
   |none=>rw[hc]at hl;simp at hl
   |some c=> rw[hc]at hl;refine⟨?_,fun h=>h⟩;rw[Rf h.tree hc (by simpa using hl)];exact List.mem_singleton.2 rfl
  ·rw[if_neg hl]at hj;obtain⟨a,ha,k⟩:=List.mem_flatMap.1 hj;obtain⟨hf,c,hc,q⟩:=(Qh3 h ht).1 (Ej.1 ha).1;obtain⟨k1,k2⟩:=Lj h ht n a j k;obtain⟨u,hi⟩:=Qm.aE hc;refine⟨(Np h.tree (h.isLeaf_no hl)).2 ⟨a,Dv.2 ⟨c,u,hi,q⟩,k1⟩,fun hi=>k2 fun m x d=>?_⟩;cases m with
   |zero=>rw[Qm.path]at d;cases d
   |succ m=>
    rw[Qm.path,hc]at d;rcases Zu.1 d with rfl|d;·exact hf
    ·rw[q]at d;exact hi m x d
theorem Wb(h:Xp N s){t:Nat}(ht:t<Qq):∀(n:Nat)(i:Int),(s.down t n i).Pairwise (· ≠ ·)
 |0,i=>by rw[Qf.down];exact List.Pairwise.nil
 |n+1,i=>by
  rw[Qf.down];split;·exact List.pairwise_singleton _ _
  ·refine List.pairwise_flatMap.2 ⟨fun a _=>Wb h ht n a,?_⟩;have hs:(Kt s.pick.v (s.fitters t i)).Pairwise (· < ·):=((Gk h.tree.sorted i).filter _).sublist (Ch _ _);refine(List.Pairwise.and_mem.1 hs).imp fun{a b}⟨ha,k,d⟩x q y z e=>?_;subst e;have h1:=(Lj h ht n a x q).1;have c:=(Lj h ht n b x z).1;have u:∀a,a∈Kt s.pick.v (s.fitters t i)→a∈s.tree.aM i:=fun a ha=>(List.mem_filter.1 (Ej.1 ha).1).1;have:=No h.tree (u a ha) (u b k) h1 c;omega
theorem Xp.fits_below(h:Xp N s){t:Nat}(ht:t<Qq){i:Int}(hf:s.pick.fits t i)(hl:¬s.isLeaf i=true):∃x,x∈s.fitters t i:=by
 obtain⟨ha,c,hc,q⟩:=hf;have hi:0<i:=by
  by_cases h0:0<i;·exact h0
  ·rw[Qe.awake_neg h0]at ha;cases ha
 obtain⟨d,hd,e1,V,_⟩:=h.mt.back (by omega) hc;have J:c.leaf=false:=V.trans (h.isLeaf_no hl d hd);unfold Qx.fit at q;dsimp only at q;rw[if_neg (by rw[J];exact Bool.false_ne_true)]at q;cases u:low c.tree with
 |none=>rw[u]at q;dsimp only at q;omega
 |some x=> rw[u]at q;dsimp only at q;obtain⟨e,he⟩:=Ib u (show x.1≤t by omega);obtain⟨a,k,b⟩:=e;obtain⟨hm,Z⟩:=Ad he;obtain⟨aa,hk,_,R,z,B,I⟩:=(h.pinv.ent k i c hc a b).1 hm;obtain⟨U,K,E,_⟩:=h.mt.back (by omega) z;refine⟨k,(Qh3 h ht).2 ⟨⟨hk,R,z,by rw[←I];exact Z⟩,U,K,E.symm.trans B⟩⟩
theorem Qwg(h:Xp N s){t:Nat}(ht:t<Qq):∀(n:Nat)(i:Int),8-Xk s.tree i<n→(s.isLeaf i=true∨s.fitters t i≠[])→s.down t n i≠[]
 |0,_,h,_=>by omega
 |n+1,i,hn,hi=>by
  rw[Qf.down];by_cases hl:s.isLeaf i=true;·rw[if_pos hl];simp
  ·rw[if_neg hl];have u:=hi.resolve_left hl;obtain⟨a,ha⟩:=List.exists_mem_of_ne_nil _ (Qw9 (f:=s.pick.v) u);obtain⟨hf,c,hc,z⟩:=(Qh3 h ht).1 (Ej.1 ha).1;have I:Xk s.tree a=Xk s.tree i+1∧Xk s.tree a≤8:=by
    refine⟨?_,Nl h.tree hc⟩;rcases Oq h.tree hc with⟨e1,k⟩|⟨q,J,_,k⟩;·rw[z]at e1;rw[k,e1,Kr (h.tree.zero (by decide))]
    ·rw[k,z]
   have:=Qwg h ht n a (by omega) (by
    by_cases d:s.isLeaf a=true;·exact .inl d
    ·obtain⟨x,E⟩:=h.fits_below ht hf d;exact .inr (List.ne_nil_of_mem E))
   obtain⟨j,B⟩:=List.exists_mem_of_ne_nil _ this;exact List.ne_nil_of_mem (List.mem_flatMap.2 ⟨a,ha,B⟩)
theorem Qwi(h:Xp N s)(hr:∀c∈s.pick,Xd c.tree){t:Nat}(ht:t<Qq):∀(n:Nat)(i j:Int),s.pick.next t (n+1) i=some j→j∈s.down t (n+1) i
 |n,i,j,hj=>by
  rw[Qe.next]at hj;cases hc:s.pick.at i with
  |none=>rw[hc]at hj;cases hj
  |some c=>
   rw[hc]at hj;dsimp only at hj;have Z:s.isLeaf i=c.leaf:=by
    by_cases h0:i=0;·subst h0;obtain⟨r,hr,ab,_⟩:=h.mt.root;rw[hr]at hc;obtain rfl:=Zs hc;rw[ab];simpa using h.zero_no
    ·obtain⟨d,hd,_,e2,_⟩:=h.mt.back h0 hc;rw[Qov hd,e2]
   rw[Qf.down,Z];by_cases hl:c.leaf=true;·rw[if_pos hl]at hj⊢;obtain rfl:=Zs hj;exact List.mem_singleton.2 rfl
   ·rw[if_neg hl]at hj⊢;cases I:Xf t c.tree with
    |none=>rw[I]at hj;cases hj
    |some e=>
     rw[I]at hj;dsimp only at hj;obtain⟨a,k,b⟩:=e;obtain⟨hm,hb⟩:=Ad I;obtain⟨ah,hk,hv,ck,z,E,K⟩:=(h.pinv.ent k i c hc a b).1 hm;obtain⟨d',R,J,_⟩:=h.mt.back (by omega) z;have V:k∈s.fitters t i:=(Qh3 h ht).2 ⟨⟨hk,ck,z,by rw[←K];exact hb⟩,d',R,J.symm.trans E⟩;refine List.mem_flatMap.2 ⟨k,Ej.2 ⟨V,fun x hx=>?_⟩,?_⟩
     ·obtain⟨⟨u,cx,B,ae⟩,dx,U,af⟩:=(Qh3 h ht).1 hx;have ac:0<x:=by
       by_cases h0:0<x;·exact h0
       ·rw[Qe.awake_neg h0]at u;cases u
      obtain⟨ag,q,ex,_⟩:=h.mt.back (by omega) B;rw[U]at q;obtain rfl:=Zs q;have aa:=(h.pinv.ent x i c hc (s.pick.v x) cx.fit).2 ⟨ac,u,rfl,cx,B,ex.trans af,rfl⟩;rw[←hv];exact Qe6 (hr c (Qe.aE hc).1) I aa ae
     ·cases n with
      |zero=>rw[Qe.next]at hj;cases hj
      |succ n=>exact Qwi h hr ht n k j hj
theorem Xp.fitters_root(h:Xp N s){t:Nat}(ht:t<Qq):s.fitters t 0≠[]↔s.pick.tick≤t:=by
 obtain⟨r,hr,af,_⟩:=h.mt.root;constructor
 ·intro V;obtain⟨x,hx⟩:=List.exists_mem_of_ne_nil _ V;obtain⟨⟨z,cx,E,aa⟩,dx,U,ab⟩:=(Qh3 h ht).1 hx;have Z:0<x:=by
   by_cases h0:0<x;·exact h0
   ·rw[Qe.awake_neg h0]at z;cases z
  obtain⟨ac,q,ex,_⟩:=h.mt.back (by omega) E;rw[U]at q;obtain rfl:=Zs q;have u:=(h.pinv.ent x 0 r hr (s.pick.v x) cx.fit).2 ⟨Z,z,rfl,cx,E,ex.trans ab,rfl⟩;unfold Qe.tick;rw[hr];dsimp only;cases c:low r.tree with
  |none=>rw[Ei c]at u;cases u
  |some y=>exact Zp (Cn c _ u) aa
 ·intro d;unfold Qe.tick at d;rw[hr]at d;dsimp only at d;cases c:low r.tree with
  |none=>rw[c]at d;dsimp only at d;omega
  |some y=> rw[c]at d;obtain⟨e,he⟩:=Ib c d;obtain⟨a,k,b⟩:=e;obtain⟨hm,hb⟩:=Ad he;obtain⟨ae,hk,_,ck,B,I,K⟩:=(h.pinv.ent k 0 r hr a b).1 hm;obtain⟨d',R,J,_⟩:=h.mt.back (by omega) B;exact List.ne_nil_of_mem ((Qh3 h ht).2 ⟨⟨hk,ck,B,by rw[←K];exact hb⟩,d',R,J.symm.trans I⟩)
end
section
variable{s:Qf}{N:Nat}
theorem Qph(h:Xp N s){t:Nat}(ht:t<Qq){x:Nat×Int}(ha:Jt t s.row=some x):s.who t=some (x.2,1)∧s.opts t=(Lp (Kt s.due (s.elig1 t)),1)∧x.2∈Kt s.due (s.elig1 t)∧∀j∈Kt s.due (s.elig1 t),x.2≤j:=by
 obtain⟨h1,q,u,_⟩:=h.least_some ht ha;have d:x.2∈s.elig1 t:=(Sr h ht).2 h1;refine⟨by unfold Qf.who;rw[ha],by unfold Qf.opts;rw[if_pos (List.ne_nil_of_mem d)],Ej.2 ⟨d,fun j c=>?_⟩,fun j c=>?_⟩;·rw[q];exact(u j ((Sr h ht).1 c)).1
 ·obtain⟨z,B⟩:=Ej.1 c;have:=B _ d;have k:=u j ((Sr h ht).1 z);exact k.2 (by rw[q]at this;omega)
theorem Qa2(h:Xp N s){t:Nat}(ht:t<Qq)(ha:Jt t s.row=none):s.who t=(s.pick.next t 10 0).map (fun id=>(id,2))∧s.opts t=(Lp (s.down t 9 0),2):=by refine⟨by unfold Qf.who;rw[ha],?_⟩;unfold Qf.opts;have:s.elig1 t=[]:=List.eq_nil_iff_forall_not_mem.2 fun i hi=>h.least_none ht ha i ((Sr h ht).1 hi);rw[this];simp
theorem Qau{f g:Int→List Int}:∀{l:List Int},(∀a∈l,f a=g a)→l.flatMap f=l.flatMap g
 |[],_=>rfl
 |a::l,h=>by rw[List.flatMap_cons,List.flatMap_cons,h a List.mem_cons_self,Qau fun b c=>h b (Zr _ c)]
theorem Qwf(h:Xp N s){t:Nat}(ht:t<Qq):∀(n:Nat)(i:Int),8-Xk s.tree i<n→s.down t (n+1) i=s.down t n i
 |0,_,h=>by omega
 |n+1,i,hn=>by
  rw[Qf.down,Qf.down];split;·rfl
  ·refine Qau fun a ha=>Qwf h ht n a ?_;obtain⟨_,c,hc,k⟩:=(Qh3 h ht).1 (Ej.1 ha).1;have:=Nl h.tree hc;rcases Oq h.tree hc with⟨e1,d⟩|⟨q,u,_,d⟩;·rw[k]at e1;rw[e1,Kr (h.tree.zero (by decide))]at hn;omega
   ·rw[k]at d;omega
theorem Qwl(h:Xp N s)(hr:∀c∈s.pick,Xd c.tree){t:Nat}(ht:t<Qq):(s.opts t).1≠[]↔∃x,s.who t=some x:=by
 cases ha:Jt t s.row with
 |some x=> obtain⟨h1,d,k,_⟩:=Qph h ht ha;rw[h1,d];refine⟨fun _=>⟨_,rfl⟩,fun _ e=>?_⟩;rw[Qwm]at e;rw[e]at k;cases k
 |none=>
  obtain⟨h1,d⟩:=Qa2 h ht ha;rw[h1,d];have key:s.down t 9 0≠[]↔s.pick.tick≤t:=by
   rw[←h.fitters_root ht];constructor;·intro u hf;refine u ?_;rw[Qf.down,if_neg h.zero_no,hf];rfl
   ·exact fun hf=>Qwg h ht 9 0 (by rw[Kr (h.tree.zero (by decide))];omega) (.inr hf)
  rw[ne_eq,Qwm,←ne_eq,key,←Qdx h.pick h.pinv ht];constructor;·rintro⟨j,z⟩;exact⟨(j,2),by rw[z];rfl⟩
  ·rintro⟨x,q⟩;cases hn:s.pick.next t 10 0 with
   |none=>rw[hn]at q;cases q
   |some j=>exact⟨j,rfl⟩
theorem Qw1(h:Xp N s){t:Nat}(ht:t<Qq):(s.opts t).1.Pairwise (· < ·):=by
 cases ha:Jt t s.row with
 |some x=> rw[(Qph h ht ha).2.1];refine Qwc ?_;exact(((Qxc h).filter _).sublist (Ch s.due _)).imp fun{a b}c e=>by omega
 |none=> rw[(Qa2 h ht ha).2];exact Qwc (Wb h ht 9 0)
theorem Qxa(h:Xp N s)(hr:∀c∈s.pick,Xd c.tree){t:Nat}(ht:t<Qq){id:Int}{r:Nat}(k:s.who t=some (id,r)):(s.opts t).2=r∧id∈(s.opts t).1∧(r=1→(s.opts t).1[0]? =some id):=by
 have z:=Qw1 h ht;cases ha:Jt t s.row with
 |some x=>
  obtain⟨h1,u,B,E⟩:=Qph h ht ha;rw[h1]at k;obtain⟨rfl,rfl⟩:=Prod.mk.inj (Zs k);have q:x.2∈(s.opts t).1:=by rw[u];exact Vi.2 B
  refine⟨by rw[u],q,fun _=>?_⟩;have d:∀j∈(s.opts t).1,x.2≤j:=by rw[u];exact fun j I=>E j (Vi.1 I)
  generalize(s.opts t).1=l at z q d;cases l with
  |nil=>cases q
  |cons a l=>
   rcases Zu.1 q with e|q;·rw[e];rfl
   ·have:=(List.pairwise_cons.1 z).1 _ q;have:=d a List.mem_cons_self;omega
 |none=>
  obtain⟨h1,u⟩:=Qa2 h ht ha;rw[h1]at k;cases hn:s.pick.next t 10 0 with
  |none=>rw[hn]at k;cases k
  |some j=> rw[hn]at k;obtain⟨rfl,rfl⟩:=Prod.mk.inj (Zs k);rw[u];refine⟨rfl,Vi.2 ?_,fun e=>by cases e⟩;rw[←Qwf h ht 9 0 (by rw[Kr (h.tree.zero (by decide))];omega)];exact Qwi h hr ht 9 0 j hn
theorem Qbw(h:Xp N s){t:Nat}{j:Int}(hn:s.pick.next t 10 0=some j):∀x∈s.tree.path 9 j,s.pick.fits t x:=fun x d=>by
 rw[←h.mt.path h.tree]at d;exact Qdw h.pinv t 10 0 j hn (fun m x d=>by
  obtain⟨k,c,_,h0,_⟩:=Qd5 d;omega) 9 x d
theorem T9(h:Xp N s){t:Nat}(ht:t<Qq){i:Int}:s.heldB t i=false↔s.elig i≤t∨(s.shareNone i=false∧∀x∈s.tree.path 9 i,s.pick.fits t x):=by
 unfold Qf.heldB;simp only[Bool.and_eq_false_iff,decide_eq_false_iff_not,Nat.not_lt,Bool.or_eq_false_iff,List.any_eq_false,decide_eq_true_eq];refine or_congr Iff.rfl (and_congr Iff.rfl ⟨fun k x c=>(Nh ht).2 ?_,fun k x c=>?_⟩);·have:=k x c;unfold Qf.fit at this;exact this
 ·exact(Nh ht).1 (k x c)
theorem Qwk(h:Xp N s){t:Nat}(ht:t<Qq){i:Int}(hi:i∈(s.opts t).1):i∈s.waits∧s.heldB t i=false:=by
 cases ha:Jt t s.row with
 |some x=> rw[(Qph h ht ha).2.1]at hi;have z:=(Sr h ht).1 (Ej.1 (Vi.1 hi)).1;exact⟨h.elig_waits ht z,(T9 h ht).2 (.inl z)⟩
 |none=>
  rw[(Qa2 h ht ha).2]at hi;obtain⟨h1,I⟩:=Lj h ht 9 0 i (Vi.1 hi);have hf:∀x∈s.tree.path 9 i,s.pick.fits t x:=fun x d=>I (fun m x d=>by
   cases m with
   |zero=>rw[Qm.path]at d;cases d
   |succ m=>rw[Qm.path,h.tree.zero (by decide)]at d;cases d) 9 x d
  obtain⟨c,u,rfl,q,_⟩:=Y8.1 h1;have hc:=Da h.tree.sorted u;obtain⟨x,d,_,E,_⟩:=h.mt.fwd h.tree hc;have k:=(hf _ (Mh hc)).1;obtain⟨_,l,_,_,hl,B⟩:=h.busy d (E.trans q) k;refine⟨h.waits_mem.2 ⟨l,hl,B⟩,(T9 h ht).2 (.inr ⟨?_,hf⟩)⟩;rw[h.awake_leaf hl B]at k;simpa using k
theorem Qs4(h:Xp N s){t:Nat}(ht:t<Qq):(∃x,s.who t=some x)↔∃i∈s.waits,s.heldB t i=false:=by
 constructor
 ·rintro⟨⟨id,r⟩,u⟩;cases ha:Jt t s.row with
  |some x=> obtain⟨h1,_,J,l,hl,k⟩:=h.least_some ht ha;exact⟨x.2,h.waits_mem.2 ⟨l,hl,k⟩,(T9 h ht).2 (.inl h1)⟩
  |none=>
   have h1:=(Qa2 h ht ha).1;rw[u]at h1;cases hn:s.pick.next t 10 0 with
   |none=>rw[hn]at h1;cases h1
   |some j=> obtain⟨l,hl,k,_⟩:=h.who u;rw[hn]at h1;obtain⟨rfl,_⟩:=Prod.mk.inj (Zs h1);have hf:=Qbw h hn;refine⟨id,h.waits_mem.2 ⟨l,hl,k⟩,(T9 h ht).2 (.inr ⟨?_,hf⟩)⟩;obtain⟨c,hc,_⟩:=h.leaf_at hl;have d:=(hf _ (Mh hc)).1;rw[h.awake_leaf hl k]at d;simpa using d
 ·rintro⟨i,hi,hf⟩;obtain⟨l,hl,k⟩:=h.waits_mem.1 hi;unfold Qf.who;cases ha:Jt t s.row with
  |some x=>exact⟨_,rfl⟩
  |none=>
   have E:=h.least_none ht ha i;rcases(T9 h ht).1 hf with h1|⟨h1,z⟩;·exact absurd h1 E
   ·obtain⟨c,hc,B⟩:=h.leaf_at hl;obtain⟨x,q,_⟩:=h.mt.fwd h.tree hc;obtain⟨j,I⟩:=Qpc h.pick h.pinv ht q (by have:=(h.tree.pos hc).1;omega) (fun x q=>z x (by rw[←h.mt.path h.tree];exact q));dsimp only;rw[I];exact⟨_,rfl⟩
theorem Qwq(h:Xp N s){t:Nat}(ht:t<Qq):(s.held t).length=s.waits.length↔s.who t=none:=by
 have:=Qs4 h ht;unfold Qf.held;rw[List.length_filter_eq_length_iff];constructor
 ·intro c;cases d:s.who t with
  |none=>rfl
  |some x=> obtain⟨i,hi,hf⟩:=this.1 ⟨x,d⟩;rw[c i hi]at hf;cases hf
 ·intro d i hi;cases hf:s.heldB t i with
  |true=>rfl
  |false=> obtain⟨x,k⟩:=this.2 ⟨i,hi,hf⟩;rw[d]at k;cases k
theorem Qxf(s:Qf)(t:Nat):(s.held t).length≤s.waits.length:=List.length_filter_le _ _
end
section
variable{s:Qf}{N:Nat}
theorem Qqs(h:Xp N s){t:Nat}(ht:t<Qq){id:Int}{r:Nat}(q:s.who t=some (id,r)):
  (r=1∧s.elig id≤t∧(∀i,s.elig i≤t→s.due id≤s.due i)∧(s.takeC id r).due=s.due id)∨(r=2∧(∀i,¬s.elig i≤t)∧s.fit id≤t∧(s.takeC id r).due=0):=by
 cases ha:Jt t s.row with
 |some x=> obtain⟨h1,B,E,l,hl,K⟩:=h.least_some ht ha;rw[(Qph h ht ha).1]at q;obtain⟨rfl,rfl⟩:=Prod.mk.inj (Zs q);refine .inl ⟨rfl,h1,fun i hi=>by rw[B];exact(E i hi).1,?_⟩;have J:=h.row_has ht h1;obtain⟨l',d,z,I,u,_,e⟩:=(h.row _ _ _).1 J;unfold Qf.takeC;have k:s.leaf x.2=some l':=z;rw[k];dsimp only;rw[I];dsimp only;rw[if_pos rfl,e];unfold Ju.dueAt;rw[if_pos u]
 |none=>
  have h1:=(Qa2 h ht ha).1;rw[q]at h1;cases hn:s.pick.next t 10 0 with
  |none=>rw[hn]at h1;cases h1
  |some j=>
   rw[hn]at h1;obtain⟨rfl,rfl⟩:=Prod.mk.inj (Zs h1);obtain⟨l,hl,K,_⟩:=h.who q;obtain⟨c,hc,_⟩:=h.leaf_at hl;refine .inr ⟨rfl,h.least_none ht ha,(Nh ht).1 (Qbw h hn _ (Mh hc)),?_⟩;unfold Qf.takeC;rw[hl];dsimp only;cases l.debt with
   |none=>rfl
   |some d=>rfl
end
section
def bwC(i:Int):Yk:=⟨i,0,true,⟨0,0,0⟩,⟨0,0,50⟩,⟨0,0,0⟩,5,500⟩
def bwP(i:Int):Jr:=⟨0,i,9,0⟩
def bw0:Qf:=.new 100
def bw1:Qf:=bw0.add (bwC 2)
def bw2:Qf:=bw1.push (bwP 2) 3
def bw3:Qf:=bw2.add (bwC 1)
def bw4:Qf:=bw3.push (bwP 1) 3
def bw5:Qf:=(bw4.next 3).2
set_option maxRecDepth 100000
theorem Qxj:bw0.aO (bwC 2)=0:=by decide+kernel
theorem Qxk:bw1.aQ (bwP 2)=0:=by decide+kernel
theorem Qxl:bw2.aO (bwC 1)=0:=by decide+kernel
theorem Qxm:bw3.aQ (bwP 1)=0:=by decide+kernel
theorem Qwb{l:List Int}(h:l.Pairwise (· < ·)):Lp l=l:=Pe (Qwc (h.imp fun h=>by omega)) h fun x=>Vi
theorem Qxq:bw4.elig1 3=[]:=by decide+kernel
theorem Qxo:bw4.down 3 9 0=[1,2]:=by decide+kernel
theorem Qxs:bw4.opts 3=([1,2],2):=by unfold Qf.opts;rw[if_neg (fun h=>h Qxq),Qxo,Qwb (by decide)]
theorem Qxr:bw5.elig1 3=[]:=by decide+kernel
theorem Qxn:bw5.down 3 9 0=[2]:=by decide+kernel
theorem Qxv:(bw4.next 3).1=some ⟨bwP 1,2,0⟩:=by rfl
theorem Qxt:bw5.opts 3=([2],2):=by unfold Qf.opts;rw[if_neg (fun h=>h Qxr),Qxn,Qwb (by decide)]
theorem Qxu:(bw5.who 3).isSome=true:=by decide+kernel
theorem bw_ok0:Xp 0 bw0:=Xp.new (by decide) (by decide)
theorem bw_ok1:Xp 0 bw1:=bw_ok0.add Qxj
theorem bw_ok2:Xp 16 bw2:=bw_ok1.push 3 Qxk
theorem bw_ok3:Xp 16 bw3:=bw_ok2.add Qxl
theorem bw_ok4:Xp 32 bw4:=bw_ok3.push 3 Qxm
theorem Qw5:Xp 48 bw5:=bw_ok4.next 3
end
def Hc(s:Qf)(t:Nat)(c:Bool×Nat)(i:Int):Bool×Nat:=if s.elig i≤t then(true,min c.2 (s.due i))else c
def Ul(s:Qf)(t:Nat)(l:List Int):Bool×Nat:=l.foldl (Hc s t) (false,Qq)
section
variable{s:Qf}{N:Nat}{t:Nat}
theorem Cw:∀(l:List Int)(c:Bool×Nat),((l.foldl (Hc s t) c).1=true↔c.1=true∨∃i∈l,s.elig i≤t)∧(l.foldl (Hc s t) c).2≤c.2∧
  (∀i∈l,s.elig i≤t→(l.foldl (Hc s t) c).2≤s.due i)∧((l.foldl (Hc s t) c).2=c.2∨∃i∈l,s.elig i≤t∧s.due i=(l.foldl (Hc s t) c).2)
 |[],c=>by simp
 |x::l,c=>by
  obtain⟨h1,u,B,k⟩:=Cw l (Hc s t c x);rw[List.foldl_cons];generalize l.foldl (Hc s t) (Hc s t c x)=r at*;unfold Hc at*;by_cases q:s.elig x≤t
  ·rw[if_pos q]at h1 u k;dsimp only at h1 u k;refine⟨⟨fun _=>.inr ⟨x,List.mem_cons_self,q⟩,fun _=>h1.2 (.inl rfl)⟩,by omega,fun i hi d=>?_,?_⟩
   ·rcases Zu.1 hi with rfl|hi;·omega
    ·exact B i hi d
   ·rcases k with k|⟨i,hi,z,E⟩
    ·rcases Nat.le_total c.2 (s.due x)with I|I;·exact .inl (by omega)
     ·exact .inr ⟨x,List.mem_cons_self,q,by omega⟩
    ·exact .inr ⟨i,Zr _ hi,z,E⟩
  ·rw[if_neg q]at h1 u k;refine⟨h1.trans ⟨?_,?_⟩,u,fun i hi d=>?_,?_⟩
   ·rintro(h|⟨i,hi,d⟩);·exact .inl h
    ·exact .inr ⟨i,Zr _ hi,d⟩
   ·rintro(h|⟨i,hi,d⟩);·exact .inl h
    ·rcases Zu.1 hi with rfl|hi;·exact absurd d q
     ·exact .inr ⟨i,hi,d⟩
   ·rcases Zu.1 hi with rfl|hi;·exact absurd d q
    ·exact B i hi d
   ·rcases k with k|⟨i,hi,z⟩;·exact .inl k
    ·exact .inr ⟨i,Zr _ hi,z⟩
theorem Xp.due_le(h:Xp N s)(i:Int):s.due i≤Qq:=by
 unfold Qf.due;cases hl:s.leaf i with
 |none=>exact Zv _
 |some l=>
  cases c:l.debt with
  |none=>simp[c]
  |some d=>
   simp only[Option.bind_some,c,Zn,Option.getD_some];unfold Ju.dueAt;split;·exact(h.sr.due l (I8 hl) d c).2
   ·exact Zv _
theorem Xp.elig_leaf(h:Xp N s)(ht:t<Qq){i:Int}(c:s.elig i≤t):i∈s.tree.aI 0:=by obtain⟨_,_,l,hl,_⟩:=h.row_of (h.row_has ht c);exact(G8 h).2 ⟨l,hl⟩
theorem Ql8(h:Xp N s)(ht:t<Qq){id:Int}{r:Nat}(R:s.who t=some (id,r)):
  (s.takeC id r).p.cls=id∧(s.takeC id r).rule=r∧((r=1∧(Ul s t (s.tree.aI 0)).1=true∧s.elig id≤t∧s.due id=(Ul s t (s.tree.aI 0)).2∧(s.takeC id r).due=s.due id)∨
   (r=2∧(Ul s t (s.tree.aI 0)).1=false∧s.fit id≤t∧(s.takeC id r).due=0)):=by
 obtain⟨l,hl,Z,_⟩:=h.who R;obtain⟨k,ki,_⟩:=h.at hl;obtain⟨x,q,u⟩:∃x q,l.q=x::q:=by
  cases I:l.q with
  |nil=>exact absurd I Z
  |cons x t=>exact⟨x,t,rfl⟩
 have d:=(k.good x (by rw[u];exact List.mem_cons_self)).2;refine⟨?_,?_,?_⟩;·unfold Qf.takeC;rw[hl];show(l.q.headD Jr.zero).cls=id;rw[u];exact d.trans ki
 ·unfold Qf.takeC;rw[hl]
 ·obtain⟨J,f2,U,z⟩:=Cw (s:=s) (t:=t) (s.tree.aI 0) (false,Qq);rcases Qqs h ht R with⟨rfl,h1,B,E⟩|⟨rfl,h1,B,E⟩
  ·have K:=h.elig_leaf ht h1;refine .inl ⟨rfl,J.2 (.inr ⟨id,K,h1⟩),h1,?_,E⟩;refine Nat.le_antisymm ?_ (U id K h1);rcases z with z|⟨i,_,c,V⟩;·unfold Ul;rw[z];exact h.due_le id
   ·unfold Ul;rw[←V];exact B i c
  ·refine .inr ⟨rfl,?_,B,E⟩;cases hf:(Ul s t (s.tree.aI 0)).1 with
   |false=>rfl
   |true=>
    rcases J.1 hf with c|⟨i,_,c⟩;·cases c
    ·exact absurd c (h1 i)
end
end Go.Proofs.YtnnhmpehkbihnaaGreat
