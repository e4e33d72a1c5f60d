/- A part of the proof: no condition. -/
import Derived.Test.YtnnhmpehkbihnaaGreatPs02
import Derived.OrdersHeld
import Derived.Maps.AppendAt
import Derived.Laws.AppendOwnNone
import Derived.Laws.CopyRow
import Derived.Laws.IdiomCopy
import Derived.WalkSpells
import Derived.WalkLawsBesides
import Derived.Outline
namespace Go.Proofs.YtnnhmpehkbihnaaGreat
set_option linter.unusedVariables false
set_option maxRecDepth 100000
set_option maxHeartbeats 4000000
open Go.RowKit
open Go.Proofs.Tryz
abbrev Fp:=Nat→Prop
def Qn(F:Fp)(w w':World):Fp:=fun k=>F k∨(w.heap.size≤k∧k<w'.heap.size)
def Bd(F:Fp)(w:World):Prop:=∀k,F k→k<w.heap.size
def Jl(F G:Fp):Prop:=∀k,F k→¬G k
section
variable{F G S:Fp}{w w1 w2:World}
theorem Bd.later(h:Bd F w)(hc:Qc S w w1):Bd F w1:=fun k c=>Nat.lt_of_lt_of_le (h k c) hc.size
theorem Bd.ext(h:Bd F w)(hc:Qc S w w1):Bd (Qn F w w1) w1:=fun k c=>c.elim (fun c=>Nat.lt_of_lt_of_le (h k c) hc.size) (fun c=>c.2)
theorem Bd.sub(h:Bd F w)(hs:∀k,G k→F k):Bd G w:=fun k c=>h k (hs k c)
theorem Jl.symm(h:Jl F G):Jl G F:=fun k d c=>h k c d
theorem Jl.sub{F' c:Fp}(h:Jl F G)(d:∀k,F' k→F k)(q:∀k,c k→G k):Jl F' c:=fun k a b=>h k (d k a) (q k b)
theorem Jl.subL{F':Fp}(h:Jl F G)(c:∀k,F' k→F k):Jl F' G:=fun k a b=>h k (c k a) b
theorem Jl.subR{c:Fp}(h:Jl F G)(d:∀k,c k→G k):Jl F c:=fun k a b=>h k a (d k b)
theorem Jl.none(F:Fp):Jl F Qb:=fun _ _ h=>h
theorem Jl.extL(h:Jl F G)(q:Bd G w):Jl (Qn F w w1) G:=fun k c d=>c.elim (fun c=>h k c d) (fun c=>by have:=q k d;omega)
theorem Jl.extR(h:Jl G F)(c:Bd G w):Jl G (Qn F w w1):=(Jl.extL h.symm c).symm
theorem Qn.mono(hs:∀k,G k→F k):∀k,Qn G w w1 k→Qn F w w1 k:=fun k c=>c.elim (fun h=>.inl (hs k h)) .inr
theorem Qn.not{k:Nat}(h:¬F k)(c:k<w.heap.size):¬Qn F w w1 k:=fun e=>e.elim h (fun e=>by omega)
theorem Qn.trans(h1:w.heap.size≤w1.heap.size)(d:w1.heap.size≤w2.heap.size):∀k,Qn (Qn F w w1) w1 w2 k→Qn F w w2 k:=by
 intro k c;rcases c with(c|c)|c;·exact .inl c
 ·exact .inr ⟨c.1,by omega⟩
 ·exact .inr ⟨by omega,c.2⟩
theorem Qn.later(d:w1.heap.size≤w2.heap.size):∀k,Qn F w w1 k→Qn F w w2 k:=fun k c=>c.elim .inl (fun h=>.inr ⟨h.1,by omega⟩)
theorem Qc.sub(h:Qc G w w1)(hs:∀k,G k→F k):Qc F w w1:=h.mono fun k c=>.inl (hs k c)
theorem Qc.none(h:Qc Qb w w1):Qc F w w1:=h.mono fun k c=>c.elim
theorem Qc.ext(h:Qc F w w1)(h':Qc (Qn F w w1) w1 w2):Qc F w w2:=h.trans h' fun k c=>c.elim .inl (fun h=>.inr h.1)
end
structure Hf{X:Type}(Is:World→Fp→Nat→X→Prop):Prop where
 bd:∀{w F b x},Is w F b x→Bd F w
 own:∀{w F b x},Is w F b x→F b
 aB:∀{w w' F S b x},Is w F b x→Qc S w w'→Jl F S→Is w' F b x
 more:∀{w F F' b x},Is w F b x→(∀k,F k→F' k)→Bd F' w→Is w F' b x
theorem Hf.lt{X:Type}{Is:World→Fp→Nat→X→Prop}(c:Hf Is){w}{F:Fp}{b:Nat}{x:X}(h:Is w F b x):b<w.heap.size:=c.bd h b (c.own h)
section
variable{X:Type}{key:X→Int}{Is:World→Fp→Nat→X→Prop}{w w':World}{F:Fp}{m:Nat}{ad:Int→Nat}{l:List X}
def ptr(b:Nat):Value:=.pointer (some ⟨b,0,none⟩)
def Xy(key:X→Int)(ad:Int→Nat)(l:List X):List (Int×Value):=l.map fun x=>(key x,ptr (ad (key x)))
structure Yn(key:X→Int)(Is:World→Fp→Nat→X→Prop)(w:World)(F:Fp)(m:Nat)(ad:Int→Nat)(l:List X):Prop where
 map:Xq w m (Xy key ad l)
 bd:Bd F w
 at_:F m
 ex:∃G:Int→Fp,(∀x∈l,Is w (G (key x)) (ad (key x)) x)∧(∀i k,G i k→F k∧k≠m)∧(∀i j k,G i k→G j k→i=j)
def Lg(key:X→Int)(x':X)(l:List X):List X:=l.map fun y=>if key y=key x' then x' else y
theorem Qcy(x':X)(l:List X):Xy key ad (Lg key x' l)=Xy key ad l:=by
 simp only[Xy,Lg,List.map_map];refine List.map_congr_left fun y _=>?_;simp only[Function.comp];split;·rename_i h;rw[h]
 ·rfl
theorem Qj4(l:List X):(Xy key ad l).map (·.1)=l.map key:=by simp[Xy]
theorem Yn.nodup(h:Yn key Is w F m ad l):(l.map key).Nodup:=by have:=h.map.nodup;rwa[Qj4]at this
theorem Qd7{k:Int}{v:Value}:∀{l:List (Int×Value)}{i:Nat},(l.map (·.1)).Nodup→(k,v)∈l→∃n,Oe k l i=some (n,v)
 |p::l,i,hn,c=>by
  simp only[List.map_cons,List.nodup_cons]at hn;rw[Oe];rcases Zu.1 c with rfl|c;·simp
  ·have:k≠p.1:=by rintro rfl;exact hn.1 (Z3.2 ⟨_,c,rfl⟩)
   rw[if_neg this];exact Qd7 hn.2 c
theorem Eh{k:Int}{v:Value}{l:List (Int×Value)}(hn:(l.map (·.1)).Nodup)(c:(k,v)∈l):look k l=some v:=by obtain⟨n,h⟩:=Qd7 (i:=0) hn c;simp[look,h]
theorem Sp{k:Int}{l:List (Int×Value)}(h:∀p∈l,p.1≠k):look k l=none:=by
 cases d:Oe k l 0 with
 |none=>simp[look,d]
 |some q=> obtain⟨n,v⟩:=q;obtain⟨j,_,u,c⟩:=U6 d;exact absurd rfl (h _ (List.mem_of_getElem? c))
def Hn(key:X→Int)(i:Int)(l:List X):Option X:=l.find? fun x=>decide (key x=i)
theorem Y3{i:Int}{x:X}(h:Hn key i l=some x):x∈l∧key x=i:=⟨List.mem_of_find?_eq_some h,by simpa using List.find?_some h⟩
theorem Lz{i:Int}(h:Hn key i l=none):∀x∈l,key x≠i:=by simpa[Hn]using h
theorem Ls{i:Int}{x:X}(hn:(l.map key).Nodup)(c:x∈l)(d:key x=i):Hn key i l=some x:=by
 induction l with
 |nil=>cases c
 |cons y l k=>
  simp only[List.map_cons,List.nodup_cons]at hn;unfold Hn;rw[List.find?_cons];rcases Zu.1 c with rfl|c;·simp[d]
  ·have:key y≠i:=by rintro rfl;exact hn.1 (Z3.2 ⟨_,c,d⟩)
   simp only[this,decide_false];exact k hn.2 c
theorem Yn.look(h:Yn key Is w F m ad l)(i:Int):look i (Xy key ad l)=(Hn key i l).map fun _=>ptr (ad i):=by
 cases ha:Hn key i l with
 |some x=> obtain⟨c,rfl⟩:=Y3 ha;rw[Eh h.map.nodup (v:=ptr (ad (key x))) (Z3.2 ⟨x,c,rfl⟩)];rfl
 |none=>
  rw[Sp];·rfl
  ·intro p d;obtain⟨x,c,rfl⟩:=Z3.1 d;exact Lz ha x c
theorem Yn.aB(u:Hf Is){S:Fp}(h:Yn key Is w F m ad l)(hc:Qc S w w')(d:Jl F S):Yn key Is w' F m ad l:=by obtain⟨G,h1,c,q⟩:=h.ex;exact⟨h.map.aB hc (d m h.at_),h.bd.later hc,h.at_,G,fun x B=>u.aB (h1 x B) hc (d.subL fun k z=>(c _ k z).1),c,q⟩
theorem Yn.more{F':Fp}(h:Yn key Is w F m ad l)(hs:∀k,F k→F' k)(u:Bd F' w):Yn key Is w F' m ad l:=by obtain⟨G,h1,c,q⟩:=h.ex;exact⟨h.map,u,hs m h.at_,G,h1,fun i k d=>⟨hs k (c i k d).1,(c i k d).2⟩,q⟩
theorem Qao{x x' y:X}(hn:(l.map key).Nodup)(c:y∈Lg key x' l):y=x'∨(y∈l∧key y≠key x'):=by
 obtain⟨z,d,rfl⟩:=Z3.1 c;by_cases h:key z=key x';·exact .inl (by simp[h])
 ·exact .inr (by simp[h,d])
theorem Yn.focus(J:Hf Is)(h:Yn key Is w F m ad l){x:X}(K:x∈l):
  ∃G:Fp,Is w G (ad (key x)) x∧(∀k,G k→F k∧k≠m)∧
   ∀w' x',key x'=key x→Is w' (Qn G w w') (ad (key x)) x'→Qc G w w'→Yn key Is w' (Qn F w w') m ad (Lg key x' l):=by
 obtain⟨G,h1,d,z⟩:=h.ex;have R:=h.map.lt;refine⟨G (key x),h1 x K,d _,fun w' x' B E hc=>⟨?_,h.bd.ext hc,.inl h.at_,fun i=>if i=key x then Qn (G (key x)) w w' else G i,?_,?_,?_⟩⟩;·rw[Qcy];exact h.map.aB hc fun c=>(d _ _ c).2 rfl
 ·intro y I;rcases Qao (x:=x) h.nodup I with rfl|⟨I,q⟩
  ·try dsimp only
   rw[B,if_pos rfl];exact E
  ·try dsimp only
   rw[if_neg (by rw[←B];exact q)];exact J.aB (h1 y I) hc fun k a b=>q ((z _ _ k a b).trans B.symm)
 ·intro i k c;try dsimp only at c
  split at c
  ·rcases c with c|c;·exact⟨.inl (d _ k c).1,(d _ k c).2⟩
   ·exact⟨.inr c,by omega⟩
  ·exact⟨.inl (d i k c).1,(d i k c).2⟩
 ·intro i j k a b;try dsimp only at a b
  split at a<;>split at b;·rename_i e1 u;rw[e1,u]
  ·rename_i e1 u;rcases a with a|a;·rw[e1];exact z _ _ k a b
   ·have:=h.bd k (d j k b).1;omega
  ·rename_i e1 u;rcases b with b|b;·rw[u];exact z _ _ k a b
   ·have:=h.bd k (d i k a).1;omega
  ·exact z _ _ k a b
theorem Yn.put(B:Hf Is)(h:Yn key Is w F m ad l){x:X}{N:Fp}{b:Nat}(I:Is w N b x)(z:Jl N F)(hn:Hn key (key x) l=none)
  (E:Xq w' m (Oi (key x) (ptr b) (Xy key ad l))) (hc:Qc (fun j=>j=m) w w'):
  Yn key Is w' (fun k=>F k∨N k) m (fun i=>if i=key x then b else ad i) (l++[x]):=by
 obtain⟨G,h1,u,K⟩:=h.ex;have d:=Lz hn;refine⟨?_,?_,.inl h.at_,fun i=>if i=key x then N else G i,?_,?_,?_⟩
 ·rw[Gw (fun p U=>by obtain⟨y,c,rfl⟩:=Z3.1 U;exact d y c)]at E;have:Xy key (fun i=>if i=key x then b else ad i) (l++[x])=Xy key ad l++[(key x,ptr b)]:=by simp only[Xy,List.map_append,List.map_cons,List.map_nil,if_true];congr 1;refine List.map_congr_left fun y c=>?_;rw[if_neg (d y c)]
  rw[this];exact E
 ·exact fun k R=>Nat.lt_of_lt_of_le (R.elim (h.bd k) (B.bd I k)) hc.size
 ·intro y c;rcases Zl.1 c with c|c
  ·try dsimp only
   rw[if_neg (d y c),if_neg (d y c)];exact B.aB (h1 y c) hc fun k a e=>(u _ k a).2 e
  ·obtain rfl:y=x:=by simpa using c
   try dsimp only
   rw[if_pos rfl,if_pos rfl];exact B.aB I hc fun k a e=>z k a (by subst e;exact h.at_)
 ·intro i k q;try dsimp only at q
  split at q;·exact⟨.inr q,fun e=>z k q (by subst e;exact h.at_)⟩
  ·exact⟨.inl (u i k q).1,(u i k q).2⟩
 ·intro i j k a b;try dsimp only at a b
  split at a<;>split at b;·rename_i e1 J;rw[e1,J]
  ·exact(z k a (u j k b).1).elim
  ·exact(z k b (u i k a).1).elim
  ·exact K _ _ k a b
def Kp(key:X→Int)(i:Int)(l:List X):List X:=l.filter fun x=>!decide (key x=i)
theorem Yn.del(q:Hf Is)(h:Yn key Is w F m ad l)(i:Int)(u:Xq w' m (Vu i (Xy key ad l)))(hc:Qc (fun j=>j=m) w w'):Yn key Is w' F m ad (Kp key i l):=by
 obtain⟨G,h1,c,d⟩:=h.ex;refine⟨?_,h.bd.later hc,h.at_,G,?_,c,d⟩
 ·have:Xy key ad (Kp key i l)=Vu i (Xy key ad l):=by simp only[Xy,Kp,Vu,List.filter_map];rfl
  rw[this];exact u
 ·intro y z;exact q.aB (h1 y (List.mem_filter.1 z).1) hc fun k a e=>(c _ k a).2 e
theorem Yn.new(k:Xq w m [])(d:Bd F w)(c:F m):Yn key Is w F m ad ([]:List X):=⟨k,d,c,fun _ _=>False,nofun,nofun,nofun⟩
end
section
variable{w:World}{b:Nat}{t:TypeId}{v0 v1 v2 v3 v4 v5 v6 v7 v8 v9 v10 v11 v12 v13:Value}
theorem Jf(h:Qh w b #[v0] t):w.cell? ⟨b,0,none⟩=some v0:=by rw[h.cell];rfl
theorem Q4(h:Qh w b #[v0,v1] t):w.cell? ⟨b,0,none⟩=some v0∧w.cell? ⟨b,1,none⟩=some v1:=by simp only[h.cell];exact⟨rfl,rfl⟩
theorem L6(h:Qh w b #[v0,v1,v2] t):w.cell? ⟨b,0,none⟩=some v0∧w.cell? ⟨b,1,none⟩=some v1∧w.cell? ⟨b,2,none⟩=some v2:=by simp only[h.cell];exact⟨rfl,rfl,rfl⟩
theorem X9(h:Qh w b #[v0,v1,v2,v3] t):w.cell? ⟨b,0,none⟩=some v0∧w.cell? ⟨b,1,none⟩=some v1∧w.cell? ⟨b,2,none⟩=some v2∧w.cell? ⟨b,3,none⟩=some v3:=by simp only[h.cell];exact⟨rfl,rfl,rfl,rfl⟩
theorem Ym(h:Qh w b #[v0,v1,v2,v3,v4] t):w.cell? ⟨b,0,none⟩=some v0∧w.cell? ⟨b,1,none⟩=some v1∧w.cell? ⟨b,2,none⟩=some v2∧w.cell? ⟨b,3,none⟩=some v3∧w.cell? ⟨b,4,none⟩=some v4:=by simp only[h.cell];exact⟨rfl,rfl,rfl,rfl,rfl⟩
theorem Lf(h:Qh w b #[v0,v1,v2,v3,v4,v5] t):w.cell? ⟨b,0,none⟩=some v0∧w.cell? ⟨b,1,none⟩=some v1∧w.cell? ⟨b,2,none⟩=some v2∧w.cell? ⟨b,3,none⟩=some v3∧w.cell? ⟨b,4,none⟩=some v4∧w.cell? ⟨b,5,none⟩=some v5:=by simp only[h.cell];exact⟨rfl,rfl,rfl,rfl,rfl,rfl⟩
theorem Ja(h:Qh w b #[v0,v1,v2,v3,v4,v5,v6,v7] t):w.cell? ⟨b,0,none⟩=some v0∧w.cell? ⟨b,1,none⟩=some v1∧w.cell? ⟨b,2,none⟩=some v2∧w.cell? ⟨b,3,none⟩=some v3∧w.cell? ⟨b,4,none⟩=some v4∧w.cell? ⟨b,5,none⟩=some v5∧w.cell? ⟨b,6,none⟩=some v6∧w.cell? ⟨b,7,none⟩=some v7:=by simp only[h.cell];exact⟨rfl,rfl,rfl,rfl,rfl,rfl,rfl,rfl⟩
theorem Av(h:Qh w b #[v0,v1,v2,v3,v4,v5,v6,v7,v8] t):w.cell? ⟨b,0,none⟩=some v0∧w.cell? ⟨b,1,none⟩=some v1∧w.cell? ⟨b,2,none⟩=some v2∧w.cell? ⟨b,3,none⟩=some v3∧w.cell? ⟨b,4,none⟩=some v4∧w.cell? ⟨b,5,none⟩=some v5∧w.cell? ⟨b,6,none⟩=some v6∧w.cell? ⟨b,7,none⟩=some v7∧w.cell? ⟨b,8,none⟩=some v8:=by simp only[h.cell];exact⟨rfl,rfl,rfl,rfl,rfl,rfl,rfl,rfl,rfl⟩
end
def cV(c:Jy):Value:=.agg #[.int .u64 c.f,.int .u64 c.l,.int .u64 c.r]
theorem X8{P:Program}(c:Array TypeId)(t:TypeId)(k:IntKind)(a b:Int)(w):(Builtin.min_ c t #[.int k a,.int k b]).run P w=.ok (.int k (min a b)) w:=by
 have e:(if b<a then b else a)=min a b:=by split<;>omega
 rw[run_min_int2,e]
theorem Yd{P:Program}(c:Array TypeId)(t:TypeId)(k:IntKind)(a b:Int)(w):(Builtin.max_ c t #[.int k a,.int k b]).run P w=.ok (.int k (max a b)) w:=by
 have e:(if a<b then b else a)=max a b:=by split<;>omega
 rw[run_max_int2,e]
theorem Yz:Xw=4611686018427387904:=rfl
theorem Yf:Qq=9223372036854775808:=rfl
theorem Rs(a b:Nat)(ha:a<18446744073709551616)(z:b<18446744073709551616)(w):Cl 312 #[.int .u64 a,.int .u64 b] w fun e w'=>e=.returned (.int .u64 (min Xw (a*b):Nat))∧Qc Qb w w':=by
 have c:=O (fun w=>Dw a b w ha z);have k:min Xw (a*b)=min (a*b) Ca:=Nat.min_comm _ _;rw[k];by_cases h:a*b<18446744073709551616;·rw[Nat.div_eq_of_lt h,Nat.mod_eq_of_lt h]at c;have d:=O (fun w=>Pd (a*b) w);generalize a*b=n at c d⊢;generalize min n Ca=r at d⊢;clear h ha z k;go_enter func312,ntmps312;go_wp2_with fail;refine Zz (c.o _) ?_;intro w1 q;go_wp2_with fail;refine Zz (d.o _) ?_;intro w2 u;go_wp2;go_ret;exact⟨rfl,(q.alloc _).aA u⟩
 ·have h1:0<a*b/18446744073709551616:=Nat.div_pos (by omega) (by decide);have hr:min (a*b) Ca=4611686018427387904:=by rw[Na];omega
  rw[hr];generalize a*b/18446744073709551616=B at c h1;generalize a*b%18446744073709551616=I at c;have d:=O (fun w=>Tg I w);have J:decide ((0:Int)<(B:Int))=true:=by simp;omega
  have E:decide (0<B)=true:=by simp;omega
  clear h ha z hr h1 k;go_enter func312,ntmps312;go_wp2_with fail;refine Zz (c.o _) ?_;intro w1 q;go_wp2_with fail;refine Zz (d.o _) ?_;intro w2 u;go_wp2;go_ret;exact⟨rfl,(q.alloc _).aA u⟩
theorem Qiq(a b:Nat)(ha:a≤Xw)(w):Cl 336 #[.int .u64 a,.int .u64 b] w fun e w'=>e=.returned (.int .u64 (a-b:Nat))∧Qc Qb w w':=by
 rw[Yz]at ha;by_cases h:a<b
 ·have e:a-b=0:=by omega
  rw[e];go_enter func336,ntmps336;go_wp2;go_ret;exact⟨rfl,Zg _ _⟩
 ·have c:=O (fun w=>Pd (a-b) w);have e:min (a-b) Ca=a-b:=by rw[Na];omega
  rw[e]at c;have hs:IntKind.u64.wrap ((a:Int)-(b:Int))=((a-b:Nat):Int):=by rw[IntWalk.u64_in _ (by omega)];omega
  have h':¬(a:Int)<(b:Int):=by omega
  generalize a-b=n at c hs⊢;clear e ha h;go_enter func336,ntmps336;go_wp2_with fail;refine Zz (c.o _) ?_;intro w2 d;go_wp2;go_ret;exact⟨rfl,d⟩
theorem L7(c:Jy)(w):Cl 234 #[cV c] w fun e w'=>e=.returned (.bool (decide (c.r<c.f)))∧Qc Qb w w':=by unfold cV;go_enter func234,ntmps234;go_wp2;go_ret;exact⟨by simp,(Zg _ _).alloc _⟩
theorem Qgr(c:Jy)(hc:c.May)(h:c.r<c.f)(w):Cl 308 #[cV c] w fun e w'=>e=.returned (.tuple #[.int .u64 ((c.f-c.r)*c.l:Nat),.bool true])∧Qc Qb w w':=by
 have u:=O (fun w=>L7 c w);have k:=O (fun w=>Rs (c.f-c.r) c.l (by have:=hc.hf;omega) (by have:=hc.hl;omega) w);rw[decide_eq_true h]at u;have E:(c.f-c.r)*c.l≤1048576*1099511627776:=Nat.mul_le_mul (by have:=hc.hf;omega) hc.hl;rw[Nat.min_eq_right (by rw[Yz];omega)]at k;have hs:IntKind.u64.wrap ((c.f:Int)-(c.r:Int))=((c.f-c.r:Nat):Int):=by have:=hc.hf;rw[IntWalk.u64_in _ (by omega)];omega
 obtain⟨f,l,r⟩:=c;unfold cV at*;dsimp only at*;generalize(f-r)*l=n at k⊢;generalize f-r=d at k hs;clear E hc h;go_enter func308,ntmps308;go_wp2_with fail;refine Zz (u.o _) ?_;intro w1 q;have b1:=L6 (q.blk (Qh.new w _ _) (fun h=>h));obtain⟨I,a1,J⟩:=b1;have z:=O (((Zg Qb w).alloc _).aA q);clear q;go_wp2_with fail;refine Zz (k.o _) ?_;intro w2 B;go_wp2;go_ret2;exact⟨rfl,z.o.aA B⟩
theorem Qpx(a:Nat)(ha:a<18446744073709551616)(w):Cl 311 #[.int .u64 a,.int .u64 1,.int .u64 0] w fun e w'=>e=.returned (.tuple #[.int .u64 0,.int .i64 2])∧Qc Qb w w':=by
 have d:=O (fun w=>Dw a 1 w ha (by omega));rw[Nat.mul_one,Nat.div_eq_of_lt ha,Nat.mod_eq_of_lt ha]at d;have B:=O (fun w=>Qqp 0 0 (a:Int) w);clear ha;have E:Hi (∀w,Cl 315 #[.agg #[.func (.func 314) #[] #[]],.int .u64 a,.int .u64 1,.int .u64 0] w fun e w'=>e=.returned (.tuple #[.int .u64 0,.int .i64 2])∧Qc Qb w w'):=O (by
  intro w;have q:=O ((Zg Qb w).alloc (.cells #[.func (.func 314) #[] #[]] 358));go_enter func315,ntmps315;go_wp2_with fail;refine Zz (d.o _) ?_;intro w1 c;have u:=O (q.o.aA c);clear c;go_wp2_with fail;refine Zz (B.o _) ?_;intro w2 k;have z:=O (u.o.aA k);clear k;go_wp2;exact bodyPost_ret (v:=.tuple #[.int .u64 0,.int .i64 2]) (by simp[results,Tryz.results315,go_sem]) rfl ⟨rfl,z.o⟩)
 go_enter func311,ntmps311;go_wp2_with fail;refine Zz (E.o _) ?_;intro w1 c;go_wp2;exact bodyPost_ret (v:=.tuple #[.int .u64 0,.int .i64 2]) (by simp[results,Tryz.results311,go_sem]) rfl ⟨rfl,c⟩
theorem Qmr{a c:Nat}(h0:0<c)(ha:a≤Xw):upN a c=Tw a c:=by
 have h:=(D9 h0 (a:=a) (n:=a)).2 (Nat.le_mul_of_pos_left a h0);have e:(a+c-1)/c=Tw a c:=by unfold Tw;rw[show a+(c-1)=a+c-1 by omega]
 unfold upN;rw[e,Nat.min_eq_left];exact Zp h ha
section
variable{P:Program}{ops:Array Oper}{Q:Exit→Act→World→Prop}{C:World→Prop}
def Ld(P:Program)(ops:Array Oper)(Q:Exit→Act→World→Prop)(C:World→Prop)(late:Nat→Bool):Nat→Array Bool→Act→World→Prop
 |0,listed,a,w=>Region.ready .any ops listed=[]∧Q .normal a w
 |f+1,listed,a,w=>(Region.ready .any ops listed=[]→Q .normal a w)∧
  ∀i∈Region.ready .any ops listed,wpOp P ops Q i (fun c w'=>(late i=false→C w')∧Ld P ops Q C late f (listed.setIfInBounds i true) c w') a w
theorem Pj{late:Nat→Bool}:∀(f:Nat)(c:Array Bool)(a:Act)(w),Ld P ops Q C late f c a w→wpAny P .any ops Q f c a w
 |0,_,_,_,h=>h
 |f+1,_,_,_,h=>⟨h.1,fun i hi=>wpOp_mono (fun d w' h'=>Pj f _ d w' h'.2) (h.2 i hi)⟩
theorem Pi{late:Nat→Bool}{i F:Nat}{Z:Oper}{v:Value}(hi:ops[i]? =some Z)(R:∀(j:Nat)(o:Oper)cs b,ops[j]? =some o→o.op≠ .select cs b)
  (hQ:∀c a w,Q (.panic c) (a.put Z.dst v) w→Q (.panic c) a w) (V:∀j E,ops[j]? =some E→late j=true→Xs ops F j i=true):
  ∀(f:Nat)(d:Array Bool)(a:Act)(w),Xj ops d→
   (∀j E,ops[j]? =some E→j≠i→d.getD j true=false→(∀e∈E.after,Region.binds .any e=true→e.on≠i)→Z.apart ops E=true)→
   i∈Region.ready .any ops d→YieldsIf P ops C Z v a→C w→
   Ld P ops Q C late f (d.setIfInBounds i true) (a.put Z.dst v) w→Ld P ops Q C late (f+1) d a w:=by
 intro f;induction f with
 |zero=>
  intro d a w U _ hr hy hC H;refine⟨fun h=>(by rw[h]at hr;cases hr),fun j hj=>?_⟩;by_cases q:j=i;·subst q;exact hy.wpOp hi hC ⟨fun _=>hC,H⟩
  ·have:=ready_mono hj q;rw[H.1]at this;cases this
 |succ f ih=>
  intro d a w U u hr hy hC H;have B:=(mem_ready.1 hr).1;refine⟨fun h=>(by rw[h]at hr;cases hr),fun j hj=>?_⟩;by_cases q:j=i;·subst q;exact hy.wpOp hi hC ⟨fun _=>hC,H⟩
  ·have h1:=H.2 j (ready_mono hj q);obtain⟨K,E,z,J⟩:=mem_ready.1 hj;have af:late j=false:=by
    cases hl:late j with
    |false=>rfl
    |true=>
     have h1:=Yw U F j i (fun o ho e he hb=>by
      have:o=E:=Zs (ho.symm.trans z);subst this;exact J e he hb) (V j E z hl)
     rw[getD_both B]at h1;cases h1
   have ab:∀e∈E.after,Region.binds .any e=true→e.on≠i:=fun e he hb ac=>by have h1:=J e he hb;rw[ac,getD_both B]at h1;cases h1
   have h2:=wpOp_putIf (S:=C) z (u j E z q K ab) (fun cs b=>R i Z cs b hi) (fun cs b=>R j E cs b z) hQ hy h1;have I:∀k ok,ops[k]? =some ok→k≠i→(d.setIfInBounds j true).getD k true=false→
     (∀e∈ok.after,Region.binds .any e=true→e.on≠i)→Z.apart ops ok=true:=fun k ok hk ae B ag=>by
    refine u k ok hk ae ?_ ag;by_cases aa:j=k;·subst aa;exact K
    ·rw[getD_set_ne true aa]at B;exact B
   refine wpOp_mono (fun a' w' h3=>⟨h3.2.1,ih (d.setIfInBounds j true) a' w' (U.set hj) I (ready_mono hr (Ne.symm q)) h3.1 (h3.2.1 af) ?_⟩) h2;rw[Array.setIfInBounds_comm _ _ q];exact h3.2.2
def Qp(P:Program)(o:Oper)(a:Act)(C:World→Prop)(c:Act→Prop):Prop:=
 ∃v,(∀w,C w→(execOp a.eval o).run P w=.ok (.value v) w)∧c (a.put o.dst v)
def Yt(P:Program)(ops:Array Oper)(C:World→Prop)(R:Act→Prop):List Oper→Act→Prop
 |[],a=>R a
 |o::rest,a=>if Region.wanted o (yielded ops a.tmps)then Qp P o a C (Yt P ops C R rest)else Yt P ops C R rest (a.put o.dst undef)
theorem Qg{R:Act→Prop}{a:Act}(h:R a):Yt P ops C R [] a:=h
theorem Ql{R:Act→Prop}{a:Act}{o:Oper}{rest:List Oper}
  (h:∀K:Act→Prop,(∀a,Yt P ops C R rest a→K a)→if Region.wanted o (yielded ops a.tmps)then Qp P o a C K else K (a.put o.dst undef)):Yt P ops C R (o::rest) a:=
 h _ (fun _ h=>h)
def Jd(P:Program)(ops:Array Oper)(Q:Exit→Act→World→Prop)(C:World→Prop)(late:List Oper):List Oper→Act→World→Prop
 |[],a,w=>wpList P ops Q late a w
 |o::rest,a,w=>wpList P ops (Exit.then (fun c w'=>C w'∧Jd P ops Q C late rest c w') Q) [o] a w
theorem Ko{i:Nat}{o:Oper}{K:Act→World→Prop}{a:Act}{w}(h0:ops[i]? =some o)(h:wpList P ops (Exit.then K Q) [o] a w):wpOp P ops Q i K a w:=by
 unfold wpOp;simp only[h0];simp only[wpList]at h;split
 ·rename_i c;simp only[c,if_true]at h;rcases h with h|⟨h1,a1,w1,d⟩
  ·refine .inl ?_;unfold Oper.wp at*;generalize(execOp a.eval o).run P w=r at*;cases r with
   |ok n w'=> cases n<;>simp only[Oper.upon]at h⊢<;>exact h
   |halt x w'=>cases x<;>simp only[Oper.upon]at h⊢<;>exact h
  ·exact .inr ⟨h1,a1,w1,d⟩
 ·rename_i c;simp only[c]at h;exact h
end
structure Qce{T:Type}(P:Program)(cells:T→List Value)(sz:Nat)(t e:TypeId)(bytes:Nat)(z0:T):Prop where
 ht:P.underlying t=some (.slice e)
 hi:∃i z,P.info? e=some i∧i.zero=some z∧i.size=sz∧i.bytes=bytes∧z.cells=(cells z0).toArray
 pos:0<sz
 hc:∀x,(cells x).length=sz
 one:∀x,∀u∈cells x,u.oneCell'=true
theorem Ee{P:Program}{e:TypeId}{d:Array Value}{sz bytes:Nat}(h:(P.info? e).map (fun i=>(i.zero.map (fun z=>z.cells),i.size,i.bytes))=some (some d,sz,bytes)):
  ∃i z,P.info? e=some i∧i.zero=some z∧i.size=sz∧i.bytes=bytes∧z.cells=d:=by
 cases hi:P.info? e with
 |none=>rw[hi]at h;cases h
 |some i=>
  rw[hi]at h;simp only[Zn,Option.some.injEq,Prod.mk.injEq]at h;obtain⟨h1,k,q⟩:=h;cases c:i.zero with
  |none=>rw[c]at h1;cases h1
  |some z=> rw[c]at h1;exact⟨i,z,rfl,c,k,q,by simpa using h1⟩
def Own{T:Type}(cells:T→List Value)(sz:Nat)(e:TypeId)(w:World)(v:Value)(l:List T):Prop:=
 w.ownsRow 0 e sz v l.length (Jm cells l)
section
variable{T:Type}{P:Program}{cells:T→List Value}{sz:Nat}{t e:TypeId}{bytes:Nat}{z0:T}
theorem Qc5(c:Qce P cells sz t e bytes z0)(l:List T):∀u∈Jm cells l,u.oneCell'=true:=by intro u d;obtain⟨x,_,k⟩:=List.mem_flatMap.1 d;exact c.one x u k
theorem Own.nil(cells:T→List Value)(sz:Nat)(e:TypeId)(w):Own cells sz e w (.slice none 0 0) ([]:List T):=⟨by simp[Jm],.inl ⟨rfl,rfl⟩⟩
theorem Own.aB{w w1}{v:Value}{l:List T}{S:Nat→Prop}(h:Own cells sz e w v l)(hc:Qc S w w1)(d:∀k,v.ownBlock=some k→¬S k):Own cells sz e w1 v l:=by
 obtain⟨h0,h⟩:=h;refine⟨h0,?_⟩;rcases h with h|⟨g,cap,c,rfl,q,u,r⟩;·exact .inl h
 ·exact .inr ⟨g,cap,c,rfl,q,hc.heap u (d g rfl),r⟩
theorem Own.lt{w}{v:Value}{l:List T}(h:Own cells sz e w v l):∀k,v.ownBlock=some k→k<w.heap.size:=by
 obtain⟨_,h⟩:=h;rcases h with⟨rfl,_⟩|⟨g,cap,d,rfl,u,q,r⟩;·intro k c;cases c
 ·intro k c;have:g=k:=by simpa[Value.ownBlock]using c
  subst this;exact(Z2.1 q).1
theorem Own.row(hc:∀x,(cells x).length=sz){w}{v:Value}{l:List T}(h:Own cells sz e w v l):∃a cap,v=.slice a l.length cap∧l.length≤cap∧(a=none→cap=0)∧Kb cells sz w a l:=by
 obtain⟨_,h⟩:=h;rcases h with⟨rfl,hl⟩|⟨g,cap,q,rfl,I,z,hn,d,E,c⟩;·have:l=[]:=List.eq_nil_of_length_eq_zero hl;subst this;exact⟨none,0,rfl,Zv _,fun _=>rfl,fun i hi=>absurd hi (by simp)⟩
 ·refine⟨some ⟨g,0,none⟩,cap,rfl,hn,by simp,fun i hi=>⟨g,0,rfl,fun j u k=>?_⟩⟩;have B:j<sz:=by have:=(Z1.1 k).1;rw[hc]at this;exact this
  have h1:(Jm cells l)[i*sz+j]? =some u:=by rw[Eb hc l i j hi B];exact k
  have Xg:i*sz+j<l.length*sz:=by have:(i+1)*sz≤l.length*sz:=Nat.mul_le_mul_right _ hi;rw[Nat.add_mul]at this;omega
  rw[←c,List.getElem?_take,if_pos Xg]at h1;simp only[World.cell?,z,Nat.zero_add];simpa using h1
theorem Own.cap{w}{v:Value}{l:List T}(h:Own cells sz e w v l):l.length≤maxLen:=by
 obtain⟨_,h⟩:=h;rcases h with⟨rfl,hl⟩|⟨g,cap,k,rfl,u,z,hn,d,q,c⟩;·rw[hl];exact Nat.zero_le _
 ·omega
theorem Qix(hc:∀x,(cells x).length=sz){w}{g o:Nat}{l:List T}(h:Kb cells sz w (some ⟨g,o,none⟩) l)(q:0<sz):
  ∀j u,(Jm cells l)[j]? =some u→w.cell? ((⟨g,o,none⟩:Addr).add j)=some u:=by
 intro j u z;have B:j<l.length*sz:=by have:=(Z1.1 z).1;rwa[Yh hc]at this
 have hi:j/sz<l.length:=by rw[Nat.div_lt_iff_lt_mul q];exact B
 have E:=Nat.mod_lt j q;have d:=Nat.div_add_mod j sz;rw[Nat.mul_comm]at d;obtain⟨I,J,k,c⟩:=h (j/sz) hi;simp only[Option.some.injEq,Addr.mk.injEq]at k;obtain⟨rfl,rfl,_⟩:=k;have:=c (j%sz) u (by
  rw[←Eb hc l (j/sz) (j%sz) hi E,d];exact z)
 rw[Nat.add_assoc,d]at this;rw[←this];unfold Addr.add;split;·rename_i h0;rw[h0];rfl
 ·rfl
variable{ops:Array Oper}{rest:List Oper}{o:Oper}{a:Act}{w:World}{Q:Exit→Act→World→Prop}
theorem Jj(u:Qce P cells sz t e bytes z0)(E:o.guard=none)(s x:Operand)
  (ho:o.op=.call {callee:=.builtin .append,args:=#[s,x],argTypes:=#[t,t]})
  (v:Value)(l:List T)(hs:a.eval s=v)(q:Own cells sz e w v l)
  (sa:Option Addr)(c:Nat)(l2:List T)(hx:a.eval x=.slice sa l2.length c)(aa:sa=none→c=0)(B:Kb cells sz w sa l2)
  (K:l.length+l2.length≤maxLen)(d:(l.length+l2.length)*bytes≤140737488355328)
  (h:∀v' w',Own cells sz e w' v' (l++l2)→Qc (fun k=>v.ownBlock=some k) w w'→(v'.ownBlock=v.ownBlock∨v'.ownBlock=some w.heap.size)→wpList P ops Q rest (a.put o.dst v') w'):
  wpList P ops Q (o::rest) a w:=by
 obtain⟨i,z,hi,hz,V,R,ab⟩:=u.hi;have Z:z.cells.size=sz:=by rw[ab];simp[u.hc]
 have fin:∀v' w',w'.ownsRow 0 e sz v' (l.length+l2.length) (Jm cells l++Jm cells l2)→w.grownBy w' v.ownBlock→(v'.ownBlock=v.ownBlock∨v'.ownBlock=some w.heap.size)→wpList P ops Q rest (a.put o.dst v') w':=by intro v' w' h1 I J;refine h v' w' ?_ ((Zg _ _).grown I fun k hk=>.inl hk) J;unfold Own;rw[Ge,List.length_append];exact h1
 by_cases U:l2=[]
 ·subst U;cases sa with
  |none=> obtain rfl:=aa rfl;refine wpList_append_own_none E s x t ho 0 e i sz u.ht hi v l.length (Jm cells l) hs q hx ?_;exact h v w (by simpa using q) (Zg _ _) (.inl rfl)
  |some ad=> refine wpList_append_own_at _ E s x t ho 0 e i z sz bytes u.ht hi hz V R Z u.pos v l.length (Jm cells l) hs q ad 0 c [] hx (by simp) (by simp) (by simp) (by simpa using K) (by simpa using d) (Nat.zero_le _) ?_;intro v' w' h1 I _ J;exact fin v' w' (by simpa[Jm]using h1) I J
 ·obtain⟨g,off,rfl,_⟩:=B 0 (List.length_pos_iff.2 U);refine wpList_append_own_at _ E s x t ho 0 e i z sz bytes u.ht hi hz V R Z u.pos v l.length (Jm cells l) hs q ⟨g,off,none⟩ l2.length c (Jm cells l2) hx
   (Yh u.hc l2) (Qix u.hc B u.pos) (Qc5 u l2) K d (Nat.zero_le _) ?_
  intro v' w' h1 I _ J;exact fin v' w' h1 I J
theorem Dy(B:Qce P cells sz t e bytes z0)(ag:o.guard=none)(d s:Operand)
  (ho:o.op=.call {callee:=.builtin .copy,args:=#[d,s],argTypes:=#[t,t]})
  (dp sp:Option Addr)(q E u U:Nat)(hd:a.eval d=.slice dp q E)(hs:a.eval s=.slice sp u U)
  (g off:Nat)(L:List T)(te:TypeId)(hg:RowBlk cells w g L te)(c:List T)(hn:c.length=Nat.min u q)
  (af:0<c.length→dp=some ⟨g,off*sz,none⟩)(ab:Kb cells sz w sp c)(I:off+c.length≤L.length)
  (h:∀w',RowBlk cells w' g (L.take off++c++L.drop (off+c.length)) te→Qc (fun k=>k=g) w w'→wpList P ops Q rest (a.put o.dst (.int .i64 c.length)) w'):
  wpList P ops Q (o::rest) a w:=by
 obtain⟨i,z,hi,hz,ah,ai,aj⟩:=B.hi;refine wpList_plain ag fun K hK=>?_;by_cases h0:c=[]
 ·subst h0;have Z:Nat.min u q=0:=by simpa using hn.symm
  have hl:∀(x:Addr),(loadCells x 0).run P w=.ok #[] w:=fun x=>by simpa using run_loadCells_list (P:=P) w x [] (by simp)
  have R:(Builtin.copy_ #[t,t] o.type #[.slice dp q E,.slice sp u U]).run P w=.ok (goInt 0) w:=by cases dp<;>cases sp<;>simp[Builtin.copy_,run_underlying B.ht,Builtin.lenOf,Builtin.firstCells,sizeOf,typeInfo,hi,Z,storeCells,hl]
  unfold Oper.wp;simp[execOp,ho,resolve,invoke,builtin,hd,hs,R,Result.andThen];exact hK _ _ (h w (by simpa using hg) (Zg _ _))
 ·have V:=List.length_pos_iff.2 h0;obtain⟨g2,o2,rfl,_⟩:=ab 0 V;obtain rfl:=af V;have J:=run_loadCells_list (P:=P) w ⟨g2,o2,none⟩ (Jm cells c) (Qix B.hc ab B.pos);rw[Yh B.hc]at J;have ae:=Yh B.hc L;have aa:(off+c.length)*sz≤L.length*sz:=Nat.mul_le_mul_right _ I;rw[Nat.add_mul]at aa;have ac:=run_storeCells_at P g (off*sz) te (Jm cells c) 0 (Jm cells L).toArray w hg (by rw[Yh B.hc];simp[ae];omega) (Qc5 B c);have R:(Builtin.copy_ #[t,t] o.type #[.slice (some ⟨g,off*sz,none⟩) q E,.slice (some ⟨g2,o2,none⟩) u U]).run P w=
    .ok (goInt c.length) (w.setRow g ((Jm cells L).take (off*sz)++Jm cells c++(Jm cells L).drop (off*sz+(Jm cells c).length)).toArray):=by
   simp only[Nat.add_zero]at ac;simp[Builtin.copy_,run_underlying B.ht,Builtin.lenOf,Builtin.firstCells,sizeOf,typeInfo,hi,ah,←hn,J,ac]
  unfold Oper.wp;simp[execOp,ho,resolve,invoke,builtin,hd,hs,R,Result.andThen];refine hK _ _ (h _ ?_ ⟨rfl,rfl,rfl,by simp[World.setRow],fun k _ hk=>setRow_other w g k _ hk⟩);have e1:(Jm cells L).take (off*sz)++Jm cells c++(Jm cells L).drop (off*sz+(Jm cells c).length)=Jm cells (L.take off++c++L.drop (off+c.length)):=by
   rw[Ge,Ge,Wn B.hc,Yh B.hc,←Nat.add_mul];congr 1;have e3:Jm cells L=Jm cells (L.take (off+c.length))++Jm cells (L.drop (off+c.length)):=by rw[←Ge,List.take_append_drop]
   rw[e3,List.drop_append,List.drop_of_length_le (by rw[Yh B.hc,List.length_take,Nat.min_eq_left I];exact Zv _),Yh B.hc,List.length_take,Nat.min_eq_left I];simp
  rw[←List.append_assoc,e1];exact setRow_heap w g _ _ te _ hg
theorem Qal(hc:∀x,(cells x).length=sz)(z0:T)(n:Nat):madeCells (cells z0).toArray (n*sz)=(Jm cells (List.replicate n z0)).toArray:=by
 apply Array.ext;·simp[madeCells,Yh hc]
 ·intro i h1 E;have hi:i<n*sz:=by simpa[madeCells]using h1
  have u:0<sz:=by
   rcases Nat.eq_zero_or_pos sz with h|h;·subst h;simp at hi
   ·exact h
  have B:i/sz<n:=by rw[Nat.div_lt_iff_lt_mul u];exact hi
  have q:=Nat.mod_lt i u;have k:=Nat.div_add_mod i sz;rw[Nat.mul_comm]at k;have d:=Eb hc (List.replicate n z0) (i/sz) (i%sz) (by simpa using B) q;rw[k]at d;simp only[List.getElem_replicate]at d;have c:i%sz<(cells z0).length:=by rw[hc];exact q
  rw[List.getElem?_eq_getElem c]at d;have z:=(Z1.1 d).2;simp only[madeCells,Array.getElem_map,Array.getElem_range,List.size_toArray,hc,List.getElem_toArray];rw[z];simp[c]
theorem Gi(c:Qce P cells sz t e bytes z0)(n:Nat)(E:bytes*n≤281474976710656)(hn:n≤9223372036854775807)(w):
  (Instr.makeSlice t (.int .i64 n) (.int .i64 n)).run P w=.ok (.slice (some ⟨w.heap.size,0,none⟩) n n) (w.alloc (.cells (Jm cells (List.replicate n z0)).toArray e)):=by
 obtain⟨i,z,hi,B,q,k,u⟩:=c.hi;have d:(i.bytes:Int)*(n:Int)≤281474976710656:=by
  have h:((bytes*n:Nat):Int)≤281474976710656:=by omega
  rw[k];rwa[Int.natCast_mul]at h
 have hr:=run_make (P:=P) w t e i z c.ht hi B .i64 .i64 n n (by omega) (by omega) d (by omega);simp only[Int.toNat_natCast]at hr;rw[hr,u,q,Qal c.hc]
end
section
variable{P:Program}{ops:Array Oper}{Q:Exit→Act→World→Prop}{C:World→Prop}
def pick(ops:Array Oper):List Nat→List Oper
 |[]=>[]
 |i::is=>match ops[i]? with
  |some o=>o::pick ops is
  |none=>pick ops is
theorem Df{i:Nat}{is:List Nat}{o:Oper}(h:ops[i]? =some o):pick ops (i::is)=o::pick ops is:=by simp[pick,h]
def Iv(ops:Array Oper):List Nat→Array Bool→Bool
 |[],listed=>(Region.ready .any ops listed).isEmpty
 |k::ks,listed=>decide (Region.ready .any ops listed=[k])&&Iv ops ks (listed.setIfInBounds k true)
theorem Cz{k:Nat}{d:List Nat}{c:Array Bool}(h:Iv ops (k::d) c=true):Region.ready .any ops c=[k]∧(∃o,ops[k]? =some o)∧Iv ops d (c.setIfInBounds k true)=true:=by simp only[Iv,Zw,decide_eq_true_eq]at h;obtain⟨_,o,q,_⟩:=mem_ready.1 (show k∈Region.ready .any ops c by rw[h.1];simp);exact⟨h.1,⟨o,q⟩,h.2⟩
theorem Qd2{late:Nat→Bool}:∀(d:List Nat)(c:Array Bool)(a:Act)(w),(∀j∈d,late j=true)→Iv ops d c=true→
  wpList P ops Q (pick ops d) a w→Ld P ops Q C late d.length c a w
 |[],c,a,w,_,hB,h=>⟨by simpa[Iv]using hB,h⟩
 |k::d,c,a,w,hl,hB,h=>by
  obtain⟨h1,⟨o,h0⟩,q⟩:=Cz hB;refine⟨fun z=>(by rw[h1]at z;cases z),fun i hi=>?_⟩;rw[h1]at hi;have u:i=k:=by simpa using hi
  subst u;rw[Df h0]at h;have I:wpOp P ops Q i (wpList P ops Q (pick ops d)) a w:=by unfold wpOp;simp only[h0];exact h
  exact wpOp_mono (fun B w' h'=>⟨fun h=>(by rw[hl i (by simp)]at h;cases h),Qd2 d _ B w' (fun j E=>hl j (by simp[E])) q h'⟩) I
theorem Mg{late:Nat→Bool}{u:List Nat}(d:∀j∈u,late j=true):
  ∀(q:List Nat)(c:Array Bool)(a:Act)(w),Iv ops (q++u) c=true→
  Jd P ops Q C (pick ops u) (pick ops q) a w→Ld P ops Q C late (q.length+u.length) c a w
 |[],c,a,w,hB,h=>by rw[List.length_nil,Nat.zero_add];exact Qd2 u c a w d hB h
 |k::q,c,a,w,hB,h=>by
  obtain⟨h1,⟨o,h0⟩,z⟩:=Cz hB;have e:(k::q).length+u.length=(q.length+u.length)+1:=by simp;omega
  rw[e];rw[Df h0]at h;refine⟨fun E=>(by rw[h1]at E;cases E),fun i hi=>?_⟩;rw[h1]at hi;have B:i=k:=by simpa using hi
  subst B;refine wpOp_mono (fun I w' h'=>⟨fun _=>h'.1,?_⟩) (Ko h0 h);exact Mg d q _ I w' z h'.2
def Qak(ops:Array Oper)(rest:List Nat):List Nat→Array Bool→Bool
 |[],listed=>Iv ops rest listed
 |k::ks,listed=>(Region.ready .any ops listed).contains k&&Region.free .any ops listed k&&((ops[k]?).map (·.dst.isSome)).getD false&&Qak ops rest ks (listed.setIfInBounds k true)
def Nb(ops:Array Oper)(c rest:List Nat):List Nat→Array Bool→Bool
 |[],listed=>Qak ops rest c listed
 |k::ks,listed=>(Region.ready .any ops listed).contains k&&Region.free .any ops listed k&&((ops[k]?).map W9).getD false&&Nb ops c rest ks (listed.setIfInBounds k true)
def Qvm(ops:Array Oper)(cs ls d c:List Nat):Bool:=
 Region.noSelect ops&&decide (cs.length+(ls.length+(d.length+c.length))=ops.size)&&(c.all fun t=>ls.all fun h=>Xs ops ops.size t h)&&Nb ops ls (d++c) cs (Array.replicate ops.size false)
theorem Qd3{ls I B:List Nat}(z:Region.noSelect ops=true)(hn:∀t∈B,∀h∈ls,Xs ops ops.size t h=true)
  (hQ:∀c(a:Act)(d:Tmp)v w,Q (.panic c) (a.put (some d) v) w→Q (.panic c) a w):
  ∀(u:List Nat)(q:Array Bool)(a:Act)(w),(∀k∈u,k∈ls)→Xj ops q→C w→
   Qak ops (I++B) u q=true→Yt P ops C (fun J=>∀w',C w'→Jd P ops Q C (pick ops B) (pick ops I) J w') (pick ops u) a→
   Ld P ops Q C (fun j=>decide (j∈B)) (u.length+(I.length+B.length)) q a w
 |[],q,a,w,_,hcl,hC,hB,h=>by simp only[List.length_nil,Nat.zero_add];exact Mg (fun j R=>by simpa using R) I q a w (by simpa[Qak]using hB) (h w hC)
 |k::u,q,a,w,hsub,hcl,hC,hB,h=>by
  simp only[Qak,Zw]at hB;obtain⟨⟨⟨hr,hf⟩,K⟩,V⟩:=hB;have E:k∈Region.ready .any ops q:=by simpa using hr
  obtain⟨_,o,h0,_⟩:=mem_ready.1 E;rw[h0]at K;simp only[Zn,Option.getD_some]at K;obtain⟨d,K⟩:=Option.isSome_iff_exists.1 K;rw[Df h0]at h;have Z:∃v,YieldsIf P ops C o v a∧Yt P ops C (fun J=>∀w',C w'→Jd P ops Q C (pick ops B) (pick ops I) J w') (pick ops u) (a.put o.dst v):=by
   simp only[Yt]at h;by_cases U:Region.wanted o (yielded ops a.tmps)=true;·simp only[U,if_true]at h;obtain⟨v,h1,h2⟩:=h;exact⟨v,.inl ⟨U,h1⟩,h2⟩
   ·simp only[U]at h;exact⟨undef,.inr ⟨by simpa using U,rfl⟩,h⟩
  obtain⟨v,Z,hK⟩:=Z;have e:(k::u).length+(I.length+B.length)=(u.length+(I.length+B.length))+1:=by simp;omega
  rw[e];refine Pi (F:=ops.size) h0 (Region.noSelect_spec z) (fun c J w' hq=>by rw[K]at hq;exact hQ c J d _ w' hq) (fun j oj R hT=>hn j (by simpa using hT) k (hsub k (by simp))) _ q a w hcl (Region.free_spec h0 hf) E Z hC
   (Qd3 z hn hQ u _ _ w (fun j R=>hsub j (by simp[R])) (hcl.set E) hC V hK)
theorem Qa3{ls R E:List Nat}(u:Region.noSelect ops=true)(hn:∀t∈E,∀h∈ls,Xs ops ops.size t h=true)
  (hQ:∀c(a:Act)(d:Tmp)v w,Q (.panic c) (a.put (some d) v) w→Q (.panic c) a w):
  ∀(B:List Nat)(q:Array Bool)(a:Act)(w),Xj ops q→C w→
   Nb ops ls (R++E) B q=true→Yt P ops C (fun z=>Yt P ops C (fun z=>∀w',C w'→Jd P ops Q C (pick ops E) (pick ops R) z w') (pick ops ls) z) (pick ops B) a→
   wpAny P .any ops Q (B.length+(ls.length+(R.length+E.length))) q a w
 |[],q,a,w,hcl,hC,hB,h=>by simp only[List.length_nil,Nat.zero_add];refine Pj (C:=C) (late:=fun j=>decide (j∈E)) _ _ _ _ ?_;exact Qd3 u hn hQ ls q a w (fun _ h=>h) hcl hC (by simpa[Nb]using hB) h
 |k::B,q,a,w,hcl,hC,hB,h=>by
  simp only[Nb,Zw]at hB;obtain⟨⟨⟨hr,hf⟩,J⟩,aa⟩:=hB;have K:k∈Region.ready .any ops q:=by simpa using hr
  obtain⟨_,o,h0,_⟩:=mem_ready.1 K;rw[h0]at J;rw[Df h0]at h;simp only[Zn,Option.getD_some]at J;obtain⟨ae,op,I,pos,after,Z⟩:=o;obtain⟨d,x,e1,e2,e3⟩:=Fz J;dsimp only at e1 e2 e3;subst e1 e2 e3;have V:Yields P ops ⟨some d,.move x,I,pos,after,none⟩ (a.eval x) a:=.inl ⟨rfl,fun w'=>rfl⟩;have U:(k::B).length+(ls.length+(R.length+E.length))=(B.length+(ls.length+(R.length+E.length)))+1:=by simp;omega
  rw[U];refine wpAny_first (md:=.any) h0 (Region.noSelect_spec u) (fun c z w' hq=>hQ c z d _ w' hq) _ q a w (Region.free_spec h0 hf) K V ?_;refine Qa3 u hn hQ B _ _ w (hcl.set K) hC aa ?_;have h':Qp P ⟨some d,.move x,I,pos,after,none⟩ a C (Yt P ops C (fun z=>Yt P ops C (fun z=>∀w',C w'→Jd P ops Q C (pick ops E) (pick ops R) z w') (pick ops ls) z) (pick ops B)):=h;obtain⟨v,hv,hK⟩:=h';have ab:=hv w hC;have ac:a.eval x=v:=by injection ab with h1 _;injection h1
  rw[ac];exact hK
theorem Qu{id:Nat}{a:Act}{w}{l:List Oper}(cs ls K I:List Nat)(G:World→World)(Z:P.follows .mixedOrders=true)(J:Qvm l.toArray cs ls K I=true)
  (U:∀c(a:Act)(d:Tmp)v w,Q (.panic c) (a.put (some d) v) w→Q (.panic c) a w)(R:∃x,w.drew=G x)
  (h:Yt P l.toArray (fun w'=>∃x,w'=G x) (fun u=>Yt P l.toArray (fun w'=>∃x,w'=G x) (fun u=>∀w',(∃x,w'=G x)→Jd P l.toArray Q (fun w'=>∃x,w'=G x) (pick l.toArray I) (pick l.toArray K) u w') (pick l.toArray ls) u) (pick l.toArray cs) a):
  (Code.region id l.toArray true).wp P Q a w:=by
 simp only[Qvm,Zw,decide_eq_true_eq]at J;obtain⟨⟨⟨q,k⟩,E⟩,B⟩:=J;refine wp_region_any Z ?_;have z:Xj l.toArray (Array.replicate l.toArray.size false):=fun j oj _ hl=>by rw[getD_replicate_false]at hl;cases hl
 have hn:∀t∈I,∀h∈ls,Xs l.toArray l.toArray.size t h=true:=fun t ht h V=>List.all_eq_true.1 (List.all_eq_true.1 E t ht) h V;have:=Qa3 (P:=P) (ops:=l.toArray) (C:=fun w'=>∃x,w'=G x) (Q:=Q) q hn U cs _ a _ z R B h;rw[k]at this;exact this
end
section
variable{T:Type}{P:Program}{cells:T→List Value}{sz:Nat}{t e:TypeId}{bytes:Nat}{z0:T}{w:World}
end
noncomputable def Qz(S:Nat→Prop)(w x:World):World:=by
 classical
 exact{heap:=((Array.range (max w.heap.size x.heap.size)).map fun k=>if k<w.heap.size∧¬S k then w.heap.getD k (.cells #[] 0)else x.heap.getD k (w.heap.getD k (.cells #[] 0))),tape:=w.tape,drawn:=x.drawn,os:=w.os,output:=w.output}
theorem Qd{S:Nat→Prop}{w w'}(h:Qc S w w'):∃x,w'=Qz S w x:=by
 classical
 refine⟨w',?_⟩;have d:=h.size;cases w' with
 |mk c tape u os output=>
  simp only at d;have e:c=((Array.range (max w.heap.size c.size)).map fun k=>if k<w.heap.size∧¬S k then w.heap.getD k (.cells #[] 0)else c.getD k (w.heap.getD k (.cells #[] 0))):=by
   rw[Nat.max_eq_right d];apply Array.ext_getElem?;intro k;by_cases z:k<c.size
   ·simp only[Array.getElem?_map,Array.getElem?_range,z,if_true,Zn];split;·rename_i q;have:=h.block k q.1 q.2;simp only at this;rw[this,Array.getElem?_eq_getElem q.1];simp[Array.getD,q.1]
    ·rw[Array.getElem?_eq_getElem z];simp
   ·rw[Array.getElem?_eq_none (by omega),Array.getElem?_eq_none (by simp;omega)]
  unfold Qz;simp only[World.mk.injEq];exact⟨e,h.tape,trivial,h.os,h.output⟩
theorem Qv(S:Nat→Prop)(w x):Qc S w (Qz S w x):=by
 classical
 refine⟨rfl,rfl,rfl,by unfold Qz;simp;omega,fun k c d=>?_⟩;unfold Qz;simp only[Array.getElem?_map,Array.getElem?_range];rw[if_pos (by omega)];simp only[Zn,c,d,not_false_eq_true,and_self,if_true];rw[Array.getElem?_eq_getElem c];simp[Array.getD,c]
section
attribute [local go_sem] Qp
theorem Qk{S:Nat→Prop}{w}{b:Nat}{cs:Array Value}{t:TypeId}(h:Qh w b cs t)(c:¬S b)(x):Qh (Qz S w x) b cs t:=(Qv S w x).blk h c
theorem Qgl(s h n:Nat)(hs:s<18446744073709551616)(Z:h≤Xw)(hn:n<18446744073709551616)(w):Cl 310 #[.agg #[.int .u64 s,.int .u64 h],.int .u64 n] w fun e w'=>e=.returned (.int .u64 (Hb h s n:Nat))∧Qc Qb w w':=by
 have hc:=Yz;have u:=O (fun w=>Rs s n hs hn w);have d:=O (fun w=>Mm h (min Xw (s*n)) (by omega) (by omega) w);rw[show Qa6 h (min Xw (s*n))=Hb h s n from Nat.min_comm _ _]at d;generalize Hb h s n=r at d⊢;generalize min Xw (s*n)=m at u d;clear hc hs Z hn;have B:=O (Qh.new w #[.int .u64 s,.int .u64 h] 295);have C:=O ((Zg Qb w).alloc (.cells #[.int .u64 s,.int .u64 h] 295));have E:=fun x=>Q4 (Qk (S:=Qb) B.o (fun h=>h) x);go_enter func310,ntmps310;go_wp2;refine Qu [] [0,1,2,3,4] [5,6,7] [] (Qz (Qb) (w.alloc (.cells #[.int .u64 s,.int .u64 h] 295))) Zq (by kernel_rfl) (fun _ _ _ _ _ h=>h) (Qd (Zj (Zg _ _))) ?_;simp only[pick,Zf,Ze,Zd];refine Qg ?_;iterate 5 (refine Ql (fun K U=>?_);go_simp;refine U _ ?_;clear U K)
 refine Qg ?_;intro _ q;obtain⟨V,c⟩:=q;subst c;simp only[Jd];have z:=O (Qv Qb (w.alloc (.cells #[.int .u64 s,.int .u64 h] 295)) V);generalize Qz Qb (w.alloc (.cells #[.int .u64 s,.int .u64 h] 295)) V=w3 at z⊢;clear E;go_wp2_with fail;refine Zz (u.o _) ?_;intro w4 J;have I:=O (z.o.aA J);clear J;go_wp2;refine⟨Qd I.o,?_⟩;go_wp2_with fail;refine Zz (d.o _) ?_;intro w5 R;have k:=O (I.o.aA R);clear R;go_wp2;refine⟨Qd k.o,?_⟩;go_wp2;refine⟨Qd k.o,?_⟩;go_wp2;go_ret;exact⟨rfl,C.o.aA k.o⟩
theorem As(s h y:Nat)(hs:s<18446744073709551616)(J:h≤Xw)(U:y<18446744073709551616)(w):Cl 307 #[.agg #[.int .u64 s,.int .u64 h],.int .u64 y] w fun e w'=>e=.returned (.int .u64 (Y5 h s y:Nat))∧Qc Qb w w':=by
 have hc:=Yz;have hn:=Yf;unfold Y5;have B:=O (Qh.new w #[.int .u64 s,.int .u64 h] 295);have C:=O ((Zg Qb w).alloc (.cells #[.int .u64 s,.int .u64 h] 295));by_cases h0:y≤h;·rw[if_pos h0];obtain⟨I,a1⟩:=Q4 B.o;clear hc hn;go_enter func307,ntmps307;go_wp2;go_ret;exact⟨rfl,C.o⟩
 ·rw[if_neg h0];have c:IntKind.u64.wrap ((y:Int)-(h:Int))=((y-h:Nat):Int):=by rw[IntWalk.u64_in _ (by omega)];omega
  have R:decide (y≤h)=false:=by simpa using h0
  by_cases q:s=0;·subst q;rw[if_pos (.inl rfl),hn];have k:=O (fun w=>Qpx (y-h) (by omega) w);generalize y-h=d at c k;clear hc hn h0 hs J;obtain⟨I,a1⟩:=Q4 B.o;go_enter func307,ntmps307;go_wp2_with fail;refine Zz (k.o _) ?_;intro w1 E;go_wp2;go_ret;exact⟨rfl,C.o.aA E⟩
  ·have k:=O (fun w=>Qir (y-h) s (by omega) hs (by omega) w);by_cases z:Xw<y
   ·rw[if_pos (.inr z),hn];have K:(4611686018427387904:Int)<(y:Int):=by omega
    generalize upN (y-h) s=u at k;generalize y-h=d at c k;clear hc hn h0 J z q;obtain⟨I,a1⟩:=Q4 B.o;go_enter func307,ntmps307;go_wp2_with fail;refine Zz (k.o _) ?_;intro w1 E;go_wp2;go_ret;exact⟨rfl,C.o.aA E⟩
   ·rw[if_neg (by omega)];rw[Qmr (by omega) (by omega)]at k;have K:¬(4611686018427387904:Int)<(y:Int):=by omega
    generalize Tw (y-h) s=u at k⊢;generalize y-h=d at c k;clear hc hn h0 J z q;obtain⟨I,a1⟩:=Q4 B.o;go_enter func307,ntmps307;go_wp2_with fail;refine Zz (k.o _) ?_;intro w1 E;go_wp2;go_ret;exact⟨rfl,C.o.aA E⟩
def Xh.h1(r:Xh):Nat:=if r.l=[]then 0 else Vk r.c.f 0 r.l
def Xh.h2(r:Xh):Nat:=if r.l=[]then 0 else Vk r.c.r ((r.c.f-r.c.r)*r.c.l) r.l
def Pk(r:Xh)(x:Nat)(h1 c:Nat)(n:Int):Array Value:=#[.int .u64 r.c.f,.int .u64 r.c.l,.int .u64 r.c.r,.int .i64 n,.int .u64 x,.int .u64 r.c.f,.int .u64 h1,.int .u64 r.c.r,.int .u64 c]
structure Ve(w:World)(F:Fp)(b:Nat)(r:Xh):Prop where
 bd:Bd F w
 own:F b
 may:r.c.May
 bent:r.c.r<r.c.f
 ok:Uj r.l
 rise:Ew r.l
 blk:Qh w b (Pk r (Ji r.l) r.h1 r.h2 r.l.length) 297
theorem bentP:Hf Ve where
 bd h:=h.bd
 own h:=h.own
 aB h hc hd:=⟨h.bd.later hc,h.own,h.may,h.bent,h.ok,h.rise,hc.blk h.blk (hd _ h.own)⟩
 more h hs hb:=⟨hb,hs _ h.own,h.may,h.bent,h.ok,h.rise,h.blk⟩
theorem Qdl(s o:Nat)(l:Uw):Vk s o l≤Xw:=Nat.min_le_left _ _
theorem Xh.h1_cap(r:Xh):r.h1≤Xw:=by unfold Xh.h1;split;exact Nat.zero_le _;exact Qdl _ _ _
theorem Xh.h2_cap(r:Xh):r.h2≤Xw:=by unfold Xh.h2;split;exact Nat.zero_le _;exact Qdl _ _ _
theorem Qcv{w}{F:Fp}{b:Nat}{r:Xh}(h:Ve w F b r):Cl 306 #[ptr b] w fun e w'=>e=.returned (.bool (r.l.length==0))∧w=w':=by
 unfold ptr;obtain⟨c,a1,d,q,u,z,B,E,I⟩:=Av h.blk;have e:((r.l.length:Int)==0)=(r.l.length==0):=by
  cases r.l with
  |nil=>rfl
  |cons k l=>simp;omega
 rw[←e];clear h e;generalize(r.l.length:Int)=n at*;go_enter func306,ntmps306;go_wp2;go_ret;exact⟨rfl,rfl⟩
theorem Qn5(c:Jy)(hc:c.May)(z:c.r<c.f)(w):Cl 220 #[cV c] w fun e w'=>∃b,e=.returned (.tuple #[ptr b,.int .i64 0])∧Ve w' (Qn Qb w w') b ⟨c,[]⟩∧Qc Qb w w':=by
 have J:=O (K8 c);have I:=O (L7 c);rw[decide_eq_true hc]at J;rw[decide_eq_true z]at I;have d:∀(W w'),Qc Qb w W→w'=W.alloc (.cells (Pk ⟨c,[]⟩ 0 0 0 0) 297)→Ve w' (Qn Qb w w') W.heap.size ⟨c,[]⟩∧Qc Qb w w':=by rintro W w' hW rfl;have h1:=hW.size;exact⟨⟨fun k hk=>hk.elim (fun h=>h.elim) (fun h=>h.2),.inr ⟨h1,by simp⟩,hc,z,Uj.nil,.nil,Qh.new _ _ _⟩,hW.alloc _⟩
 have HF:=O d;obtain⟨f,l,r⟩:=c;unfold cV at*;dsimp only[Pk]at*;have B:=O (Qh.new w #[.int .u64 f,.int .u64 l,.int .u64 r] 38);have C:=O ((Zg Qb w).alloc (.cells #[.int .u64 f,.int .u64 l,.int .u64 r] 38));clear hc z d;go_enter func220,ntmps220;go_wp2_with fail;refine Zz (J.o _) ?_;intro w1 q;have V:=O (C.o.aA q);have E:=O (q.blk B.o (fun h=>h));clear q;obtain⟨K,a1,R⟩:=L6 E.o;go_wp2_with fail;refine Zz (I.o _) ?_;intro w2 u;have Z:=O (V.o.aA u);have U:=O (u.blk E.o (fun h=>h));clear u K a1 R;obtain⟨K,a1,R⟩:=L6 U.o;go_wp2;go_ret2;exact⟨_,rfl,HF.o _ _ Z.o rfl⟩
theorem Qn4{w}{F:Fp}{b:Nat}{r:Xh}(h:Ve w F b r):Cl 322 #[ptr b] w fun e w'=>∃b',e=.returned (ptr b')∧Ve w' (Qn Qb w w') b' r∧Qc Qb w w':=by
 have c:∀(w'),w'=w.alloc (.cells (Pk r (Ji r.l) r.h1 r.h2 r.l.length) 297)→Ve w' (Qn Qb w w') w.heap.size r∧Qc Qb w w':=by rintro w' rfl;exact⟨⟨fun k q=>q.elim (fun h=>h.elim) (fun h=>h.2),.inr ⟨Zv _,by simp⟩,h.may,h.bent,h.ok,h.rise,Qh.new _ _ _⟩,(Zg _ _).alloc _⟩
 have d:=O c;obtain⟨u,a1,z,B,E,I,J,K,R⟩:=Av h.blk;unfold ptr;dsimp only[Pk]at*;clear c;go_enter func322,ntmps322;go_wp2;go_ret;exact⟨_,rfl,d.o _ rfl⟩
theorem Qgm{w}{F:Fp}{b:Nat}{r:Xh}(h:Ve w F b r)(hl:r.l=[])(y:Nat):Cl 303 #[ptr b,.int .u64 y] w fun e w'=>e=.returned (.int .u64 (r.reach y:Nat))∧Qc Qb w w':=by
 have c:=O (Qcv h);rw[hl]at c;have e:r.reach y=if y=0 then 0 else 9223372036854775808:=by unfold Xh.reach Kn;rw[if_pos hl]
 unfold ptr at*;dsimp only[List.length_nil]at c;rw[e];by_cases d:y=0;·subst d;go_enter func303,ntmps303;go_wp2_with fail;refine Zy c ?_;rintro w1 rfl;go_wp2;go_ret;exact⟨rfl,Zg _ _⟩
 ·rw[if_neg d];have k:((y:Int)==0)=false:=by simp;omega
  clear d e;go_enter func303,ntmps303;go_wp2_with fail;refine Zy c ?_;rintro w1 rfl;go_wp2;go_ret;exact⟨rfl,Zg _ _⟩
theorem Qgn{w}{F:Fp}{b:Nat}{r:Xh}(h:Ve w F b r)(hl:r.l≠[])(y:Nat)(hy:y<18446744073709551616):Cl 303 #[ptr b,.int .u64 y] w fun e w'=>e=.returned (.int .u64 (r.reach y:Nat))∧Qc Qb w w':=by
 have HN:=O (Qcv h);have k:(r.l.length==0)=false:=by simpa using hl
 rw[k]at HN;have hm:=h.may;have hx:Ji r.l≤Qq:=h.ok.last;have e:r.reach y=O6 (Ji r.l) (max (Y5 r.h1 r.c.f y) (Y5 r.h2 r.c.r y)):=by unfold Xh.h1 Xh.h2;rw[if_neg hl,if_neg hl];exact(Qj0 h.bent h.ok hl).symm
 have H1:=O (fun w=>As r.c.f r.h1 y (by have:=hm.hf;omega) r.h1_cap hy w);have H2:=O (fun w=>As r.c.r r.h2 y (by have:=hm.hr;omega) r.h2_cap hy w);have E:=fun x=>Av (Qk (S:=Qb) h.blk (fun h=>h) x);have B:=O h.blk;have u:∀h s,Y5 h s y≤9223372036854775808:=fun h s=>by
  unfold Y5;have e1:=Yz;have e2:=Yf;split;·omega
  ·split;·omega
   ·rename_i h1;have:=(D9 (a:=y-h) (b:=s) (n:=y) (by omega)).2 (by have:=Nat.le_mul_of_pos_left y (show 0<s by omega);omega);omega
 have k1:=u r.h1 r.c.f;have k2:=u r.h2 r.c.r;unfold ptr at*;rw[e];clear e u hm h;unfold O6;generalize Y5 r.h1 r.c.f y=Z at*;generalize Y5 r.h2 r.c.r y=n2 at*;rw[Yf]at*;have k3:max Z n2≤9223372036854775808:=by omega
 clear k1 k2;dsimp only[Pk]at*;generalize Ji r.l=x at*;have ab:IntKind.u64.wrap ((9223372036854775808:Int)-(x:Int))=((9223372036854775808-x:Nat):Int):=by rw[IntWalk.u64_in _ (by omega)];omega
 have U:∀n,n<9223372036854775808-x→IntKind.u64.wrap ((x:Int)+(n:Int))=((x+n:Nat):Int):=fun n h=>by rw[IntWalk.u64_in _ (by omega)];omega
 clear k hl;have q:∀(W),Qc Qb w W→Qh W b (Pk r x r.h1 r.h2 r.l.length) 297:=fun W c=>c.blk B.o (fun h=>h);have TL:=O q;dsimp only[Pk]at TL;clear q B;obtain⟨n,hn⟩:=Zx (max Z n2);rw[←hn]at k3⊢;have I:=U n;obtain⟨d,Eu⟩:=Zx (9223372036854775808-x);rw[←Eu]at ab I⊢;clear U Eu;obtain⟨z,J⟩:=Zx (if d≤n then 9223372036854775808 else x+n);rw[←J];have hq:(Z<n2∧n=n2)∨(¬Z<n2∧n=Z):=by omega
 have hr:(decide (d≤n)=true∧z=9223372036854775808)∨(decide (d≤n)=false∧IntKind.u64.wrap ((x:Int)+(n:Int))=(z:Int)):=by
  by_cases hc:d≤n;·exact .inl ⟨by simpa using hc,by rw[J,if_pos hc]⟩
  ·exact .inr ⟨by simpa using hc,by rw[J,if_neg hc];exact I (by omega)⟩
 clear I hx k3 hn J;rcases hq with⟨aa,rfl⟩|⟨aa,rfl⟩<;>rcases hr with⟨hd,J⟩|⟨hd,J⟩;all_goals(try subst J)
 all_goals
  go_enter func303,ntmps303;go_wp2_with fail;refine Zy HN ?_;rintro w1 rfl;go_wp2;refine Qu [] [0,1,2,3,4,6,7,8,9,10] [5,11,12,13] [] (Qz (Qb) (w)) Zq (by kernel_rfl) (fun _ _ _ _ _ h=>h) (Qd (Zj (Zg _ _))) ?_;simp only[pick,Zf,Ze,Zd];refine Qg ?_;iterate 10 (refine Ql (fun K hK=>?_);go_simp;refine hK _ ?_;clear hK K)
  refine Qg ?_;intro _ ac;obtain⟨xo,V⟩:=ac;subst V;simp only[Jd];have c3:=O (Qv Qb w xo);generalize Qz Qb w xo=w3 at c3⊢;clear E;go_wp2_with fail;refine Zz (H1.o _) ?_;intro w4 d4;have c4:=O (c3.o.aA d4);clear d4;go_wp2;refine⟨Qd c4.o,?_⟩;go_wp2_with fail;refine Zz (H2.o _) ?_;intro w5 d5;have R:=O (c4.o.aA d5);clear d5;go_wp2;refine⟨Qd R.o,?_⟩;go_wp2;refine⟨Qd R.o,?_⟩;go_wp2;refine⟨Qd R.o,?_⟩;obtain⟨a0,a1,a2,a3,a4,a5,a6,a7,a8⟩:=Av (TL.o _ R.o);go_wp2;go_ret;exact⟨rfl,R.o⟩
theorem Xh.start_h1{r:Xh}(ok:Uj r.l)(x y:Nat):(r.start x y).h1=if r.l=[]then min y Xw else min (Hb r.h1 r.c.f (max (min x Qq) (Ji r.l)-Ji r.l)) (min y Xw):=by
 unfold Xh.h1 Xh.start Dg;rw[if_neg (by simp)];by_cases hl:r.l=[];·rw[if_pos hl,hl,List.nil_append,Qdm];omega
 ·rw[if_neg hl,if_neg hl,F9 ok hl (by omega)];dsimp only;omega
theorem Xh.start_h2{r:Xh}(ok:Uj r.l)(x y:Nat):(r.start x y).h2=if r.l=[]then min Xw (min y Xw+(r.c.f-r.c.r)*r.c.l)else min (Hb r.h2 r.c.r (max (min x Qq) (Ji r.l)-Ji r.l)) (min Xw (min y Xw+(r.c.f-r.c.r)*r.c.l)):=by
 unfold Xh.h2 Xh.start Dg;rw[if_neg (by simp)];by_cases hl:r.l=[];·rw[if_pos hl,hl,List.nil_append,Qdm]
 ·rw[if_neg hl,if_neg hl,F9 ok hl (by omega)]
theorem Ew.start{l:Uw}(ok:Uj l)(h:Ew l)(x y:Nat):Ew (Dg l x y):=by
 refine List.pairwise_append.2 ⟨h,by simp,fun j c k d=>?_⟩;obtain rfl:k=_:=by simpa using d
 exact Zp (ok.rise j c) (Nat.le_max_right _ _)
end
end Go.Proofs.YtnnhmpehkbihnaaGreat
