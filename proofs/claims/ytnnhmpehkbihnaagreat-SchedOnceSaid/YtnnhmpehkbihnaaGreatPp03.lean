/- A part of the proof: no condition. -/
import Derived.Test.YtnnhmpehkbihnaaGreatPp02
import Derived.OrdersHeld
import Derived.Maps.AppendAt
import Derived.Laws.AppendOwnNone
import Derived.Laws.CopyRow
import Derived.Laws.IdiomCopy
import Derived.WalkSpells
import Derived.WalkLawsBesides
import Derived.Outline
namespace Go.Proofs.YtnnhmpehkbihnaaGreat
set_option linter.unusedVariables false
set_option maxRecDepth 100000
set_option maxHeartbeats 4000000
open Go.RowKit
open Go.Proofs.Tryz
abbrev Fp:=Nat→Prop
def Qn(F:Fp)(w w':World):Fp:=fun k=>F k∨(w.heap.size≤k∧k<w'.heap.size)
def Bd(F:Fp)(w:World):Prop:=∀k,F k→k<w.heap.size
def Je(F G:Fp):Prop:=∀k,F k→¬G k
section
variable{F G S:Fp}{w w1 w2:World}
theorem Bd.later(h:Bd F w)(hc:Qc S w w1):Bd F w1:=fun k c=>Nat.lt_of_lt_of_le (h k c) hc.size
theorem Bd.ext(h:Bd F w)(hc:Qc S w w1):Bd (Qn F w w1) w1:=fun k c=>c.elim (fun c=>Nat.lt_of_lt_of_le (h k c) hc.size) (fun c=>c.2)
theorem Bd.sub(h:Bd F w)(hs:∀k,G k→F k):Bd G w:=fun k c=>h k (hs k c)
theorem Bd.not(h:Bd F w){k:Nat}(d:w.heap.size≤k):¬F k:=fun c=>by have:=h k c;omega
theorem Je.symm(h:Je F G):Je G F:=fun k c d=>h k d c
theorem Je.sub{c d:Fp}(h:Je F G)(u:∀k,c k→F k)(q:∀k,d k→G k):Je c d:=fun k a b=>h k (u k a) (q k b)
theorem Je.subL{c:Fp}(h:Je F G)(d:∀k,c k→F k):Je c G:=fun k a b=>h k (d k a) b
theorem Je.subR{c:Fp}(h:Je F G)(d:∀k,c k→G k):Je F c:=fun k a b=>h k a (d k b)
theorem Je.none(F:Fp):Je F Qb:=fun _ _ h=>h
theorem Je.extL(h:Je F G)(q:Bd G w):Je (Qn F w w1) G:=fun k c d=>c.elim (fun c=>h k c d) (fun c=>by have:=q k d;omega)
theorem Je.extR(h:Je G F)(c:Bd G w):Je G (Qn F w w1):=(Je.extL h.symm c).symm
theorem Qn.mono(hs:∀k,G k→F k):∀k,Qn G w w1 k→Qn F w w1 k:=fun k c=>c.elim (fun h=>.inl (hs k h)) .inr
theorem Qn.not{k:Nat}(h:¬F k)(c:k<w.heap.size):¬Qn F w w1 k:=fun e=>e.elim h (fun e=>by omega)
theorem Qn.trans(h1:w.heap.size≤w1.heap.size)(d:w1.heap.size≤w2.heap.size):∀k,Qn (Qn F w w1) w1 w2 k→Qn F w w2 k:=by
 intro k c;rcases c with(c|c)|c;·exact .inl c
 ·exact .inr ⟨c.1,by omega⟩
 ·exact .inr ⟨by omega,c.2⟩
theorem Qn.later(d:w1.heap.size≤w2.heap.size):∀k,Qn F w w1 k→Qn F w w2 k:=fun k c=>c.elim .inl (fun h=>.inr ⟨h.1,by omega⟩)
theorem Qc.sub(h:Qc G w w1)(hs:∀k,G k→F k):Qc F w w1:=h.mono fun k c=>.inl (hs k c)
theorem Qc.none(h:Qc Qb w w1):Qc F w w1:=h.mono fun k c=>c.elim
theorem Qc.ext(h:Qc F w w1)(h':Qc (Qn F w w1) w1 w2):Qc F w w2:=h.trans h' fun k c=>c.elim .inl (fun h=>.inr h.1)
theorem Qc.far(h:Qc S w w1){b:Nat}(c:b<w.heap.size)(d:¬S b):w1.heap[b]? =w.heap[b]? :=h.block b c d
end
structure Ky{X:Type}(Is:World→Fp→Nat→X→Prop):Prop where
 bd:∀{w F b x},Is w F b x→Bd F w
 own:∀{w F b x},Is w F b x→F b
 keep:∀{w w' F S b x},Is w F b x→Qc S w w'→Je F S→Is w' F b x
 more:∀{w F F' b x},Is w F b x→(∀k,F k→F' k)→Bd F' w→Is w F' b x
theorem Ky.lt{X:Type}{Is:World→Fp→Nat→X→Prop}(c:Ky Is){w:World}{F:Fp}{b:Nat}{x:X}(h:Is w F b x):b<w.heap.size:=c.bd h b (c.own h)
section
variable{X:Type}{key:X→Int}{Is:World→Fp→Nat→X→Prop}{w w':World}{F:Fp}{m:Nat}{ad:Int→Nat}{l:List X}
def ptr(b:Nat):Value:=.pointer (some ⟨b,0,none⟩)
def Ye(key:X→Int)(ad:Int→Nat)(l:List X):List (Int×Value):=l.map fun x=>(key x,ptr (ad (key x)))
structure Xy(key:X→Int)(Is:World→Fp→Nat→X→Prop)(w:World)(F:Fp)(m:Nat)(ad:Int→Nat)(l:List X):Prop where
 map:Xs w m (Ye key ad l)
 bd:Bd F w
 at_:F m
 ex:∃G:Int→Fp,(∀x∈l,Is w (G (key x)) (ad (key x)) x)∧(∀i k,G i k→F k∧k≠m)∧(∀i j k,G i k→G j k→i=j)
def Dc(key:X→Int)(x':X)(l:List X):List X:=l.map fun y=>if key y=key x' then x' else y
theorem Qiz(x':X)(l:List X):Ye key ad (Dc key x' l)=Ye key ad l:=by
 simp only[Ye,Dc,List.map_map];refine List.map_congr_left fun y _=>?_;simp only[Function.comp];split;·rename_i h;rw[h]
 ·rfl
theorem Qpg(l:List X):(Ye key ad l).map (·.1)=l.map key:=by simp[Ye]
theorem Xy.nodup(h:Xy key Is w F m ad l):(l.map key).Nodup:=by have:=h.map.nodup;rwa[Qpg]at this
theorem Qi0{k:Int}{v:Value}:∀{l:List (Int×Value)}{i:Nat},(l.map (·.1)).Nodup→(k,v)∈l→∃n,Ho k l i=some (n,v)
 |p::l,i,hn,c=>by
  simp only[List.map_cons,List.nodup_cons]at hn;rw[Ho];rcases List.mem_cons.1 c with rfl|c;·simp
  ·have:k≠p.1:=by rintro rfl;exact hn.1 (List.mem_map.2 ⟨_,c,rfl⟩)
   rw[if_neg this];exact Qi0 hn.2 c
theorem Dw{k:Int}{v:Value}{l:List (Int×Value)}(hn:(l.map (·.1)).Nodup)(c:(k,v)∈l):look k l=some v:=by obtain⟨n,h⟩:=Qi0 (i:=0) hn c;simp[look,h]
theorem Ez{k:Int}{l:List (Int×Value)}(h:∀p∈l,p.1≠k):look k l=none:=by
 cases d:Ho k l 0 with
 |none=>simp[look,d]
 |some q=> obtain⟨n,v⟩:=q;obtain⟨j,_,u,c⟩:=Hf d;exact absurd rfl (h _ (List.mem_of_getElem? c))
def Vp(key:X→Int)(i:Int)(l:List X):Option X:=l.find? fun x=>decide (key x=i)
theorem Yh{i:Int}{x:X}(h:Vp key i l=some x):x∈l∧key x=i:=⟨List.mem_of_find?_eq_some h,by simpa using List.find?_some h⟩
theorem Dx{i:Int}(h:Vp key i l=none):∀x∈l,key x≠i:=by simpa[Vp]using h
theorem Gs{i:Int}{x:X}(hn:(l.map key).Nodup)(c:x∈l)(d:key x=i):Vp key i l=some x:=by
 induction l with
 |nil=>cases c
 |cons y l k=>
  simp only[List.map_cons,List.nodup_cons]at hn;unfold Vp;rw[List.find?_cons];rcases List.mem_cons.1 c with rfl|c;·simp[d]
  ·have:key y≠i:=by rintro rfl;exact hn.1 (List.mem_map.2 ⟨_,c,d⟩)
   simp only[this,decide_false];exact k hn.2 c
theorem Xy.look(h:Xy key Is w F m ad l)(i:Int):look i (Ye key ad l)=(Vp key i l).map fun _=>ptr (ad i):=by
 cases ha:Vp key i l with
 |some x=> obtain⟨c,rfl⟩:=Yh ha;rw[Dw h.map.nodup (v:=ptr (ad (key x))) (List.mem_map.2 ⟨x,c,rfl⟩)];rfl
 |none=>
  rw[Ez];·rfl
  ·intro p d;obtain⟨x,c,rfl⟩:=List.mem_map.1 d;exact Dx ha x c
theorem Xy.keep(z:Ky Is){S:Fp}(h:Xy key Is w F m ad l)(hc:Qc S w w')(d:Je F S):Xy key Is w' F m ad l:=by obtain⟨G,h1,c,q⟩:=h.ex;exact⟨h.map.keep hc (d m h.at_),h.bd.later hc,h.at_,G,fun x u=>z.keep (h1 x u) hc (d.subL fun k B=>(c _ k B).1),c,q⟩
theorem Xy.more{c:Fp}(h:Xy key Is w F m ad l)(hs:∀k,F k→c k)(u:Bd c w):Xy key Is w c m ad l:=by obtain⟨G,h1,d,z⟩:=h.ex;exact⟨h.map,u,hs m h.at_,G,h1,fun i k q=>⟨hs k (d i k q).1,(d i k q).2⟩,z⟩
theorem Qfj{x x' y:X}(hn:(l.map key).Nodup)(d:y∈Dc key x' l):y=x'∨(y∈l∧key y≠key x'):=by
 obtain⟨z,c,rfl⟩:=List.mem_map.1 d;by_cases h:key z=key x';·exact .inl (by simp[h])
 ·exact .inr (by simp[h,c])
theorem Xy.focus(J:Ky Is)(h:Xy key Is w F m ad l){x:X}(K:x∈l):
  ∃G:Fp,Is w G (ad (key x)) x∧(∀k,G k→F k∧k≠m)∧
   ∀w' x',key x'=key x→Is w' (Qn G w w') (ad (key x)) x'→Qc G w w'→Xy key Is w' (Qn F w w') m ad (Dc key x' l):=by
 obtain⟨G,h1,d,z⟩:=h.ex;have R:=h.map.lt;refine⟨G (key x),h1 x K,d _,fun w' x' I B hc=>⟨?_,h.bd.ext hc,.inl h.at_,fun i=>if i=key x then Qn (G (key x)) w w' else G i,?_,?_,?_⟩⟩;·rw[Qiz];exact h.map.keep hc fun c=>(d _ _ c).2 rfl
 ·intro y E;rcases Qfj (x:=x) h.nodup E with rfl|⟨E,q⟩
  ·try dsimp only
   rw[I,if_pos rfl];exact B
  ·try dsimp only
   rw[if_neg (by rw[←I];exact q)];exact J.keep (h1 y E) hc fun k a b=>q ((z _ _ k a b).trans I.symm)
 ·intro i k c;try dsimp only at c
  split at c
  ·rcases c with c|c;·exact⟨.inl (d _ k c).1,(d _ k c).2⟩
   ·exact⟨.inr c,by omega⟩
  ·exact⟨.inl (d i k c).1,(d i k c).2⟩
 ·intro i j k a b;try dsimp only at a b
  split at a<;>split at b;·rename_i e1 u;rw[e1,u]
  ·rename_i e1 u;rcases a with a|a;·rw[e1];exact z _ _ k a b
   ·have:=h.bd k (d j k b).1;omega
  ·rename_i e1 u;rcases b with b|b;·rw[u];exact z _ _ k a b
   ·have:=h.bd k (d i k a).1;omega
  ·exact z _ _ k a b
theorem Xy.put(B:Ky Is)(h:Xy key Is w F m ad l){x:X}{N:Fp}{b:Nat}(I:Is w N b x)(z:Je N F)(hn:Vp key (key x) l=none)
  (E:Xs w' m (Ht (key x) (ptr b) (Ye key ad l))) (hc:Qc (fun j=>j=m) w w'):
  Xy key Is w' (fun k=>F k∨N k) m (fun i=>if i=key x then b else ad i) (l++[x]):=by
 obtain⟨G,h1,u,K⟩:=h.ex;have d:=Dx hn;refine⟨?_,?_,.inl h.at_,fun i=>if i=key x then N else G i,?_,?_,?_⟩
 ·rw[Om (fun p U=>by obtain⟨y,c,rfl⟩:=List.mem_map.1 U;exact d y c)]at E;have:Ye key (fun i=>if i=key x then b else ad i) (l++[x])=Ye key ad l++[(key x,ptr b)]:=by simp only[Ye,List.map_append,List.map_cons,List.map_nil,if_true];congr 1;refine List.map_congr_left fun y c=>?_;rw[if_neg (d y c)]
  rw[this];exact E
 ·exact fun k R=>Nat.lt_of_lt_of_le (R.elim (h.bd k) (B.bd I k)) hc.size
 ·intro y c;rcases List.mem_append.1 c with c|c
  ·try dsimp only
   rw[if_neg (d y c),if_neg (d y c)];exact B.keep (h1 y c) hc fun k a e=>(u _ k a).2 e
  ·obtain rfl:y=x:=by simpa using c
   try dsimp only
   rw[if_pos rfl,if_pos rfl];exact B.keep I hc fun k a e=>z k a (by subst e;exact h.at_)
 ·intro i k q;try dsimp only at q
  split at q;·exact⟨.inr q,fun e=>z k q (by subst e;exact h.at_)⟩
  ·exact⟨.inl (u i k q).1,(u i k q).2⟩
 ·intro i j k a b;try dsimp only at a b
  split at a<;>split at b;·rename_i e1 J;rw[e1,J]
  ·exact(z k a (u j k b).1).elim
  ·exact(z k b (u i k a).1).elim
  ·exact K _ _ k a b
def Yw(key:X→Int)(i:Int)(l:List X):List X:=l.filter fun x=>!decide (key x=i)
theorem Xy.del(z:Ky Is)(h:Xy key Is w F m ad l)(i:Int)(d:Xs w' m (Kx i (Ye key ad l)))(hc:Qc (fun j=>j=m) w w'):Xy key Is w' F m ad (Yw key i l):=by
 obtain⟨G,h1,c,u⟩:=h.ex;refine⟨?_,h.bd.later hc,h.at_,G,?_,c,u⟩
 ·have:Ye key ad (Yw key i l)=Kx i (Ye key ad l):=by simp only[Ye,Yw,Kx,List.filter_map];rfl
  rw[this];exact d
 ·intro y q;exact z.keep (h1 y (List.mem_filter.1 q).1) hc fun k a e=>(c _ k a).2 e
theorem Xy.new(d:Xs w m [])(c:Bd F w)(k:F m):Xy key Is w F m ad ([]:List X):=⟨d,c,k,fun _ _=>False,nofun,nofun,nofun⟩
end
section
variable{w:World}{b:Nat}{t:TypeId}{v0 v1 v2 v3 v4 v5 v6 v7 v8 v9 v10 v11 v12 v13:Value}
theorem Zv(h:Qh w b #[v0] t):w.cell? ⟨b,0,none⟩=some v0:=by rw[h.cell];rfl
theorem Qz(h:Qh w b #[v0,v1] t):w.cell? ⟨b,0,none⟩=some v0∧w.cell? ⟨b,1,none⟩=some v1:=by simp only[h.cell];exact⟨rfl,rfl⟩
theorem Dy(h:Qh w b #[v0,v1,v2] t):w.cell? ⟨b,0,none⟩=some v0∧w.cell? ⟨b,1,none⟩=some v1∧w.cell? ⟨b,2,none⟩=some v2:=by simp only[h.cell];exact⟨rfl,rfl,rfl⟩
theorem Xt(h:Qh w b #[v0,v1,v2,v3] t):w.cell? ⟨b,0,none⟩=some v0∧w.cell? ⟨b,1,none⟩=some v1∧w.cell? ⟨b,2,none⟩=some v2∧w.cell? ⟨b,3,none⟩=some v3:=by simp only[h.cell];exact⟨rfl,rfl,rfl,rfl⟩
theorem Ys(h:Qh w b #[v0,v1,v2,v3,v4] t):w.cell? ⟨b,0,none⟩=some v0∧w.cell? ⟨b,1,none⟩=some v1∧w.cell? ⟨b,2,none⟩=some v2∧w.cell? ⟨b,3,none⟩=some v3∧w.cell? ⟨b,4,none⟩=some v4:=by simp only[h.cell];exact⟨rfl,rfl,rfl,rfl,rfl⟩
theorem Dm(h:Qh w b #[v0,v1,v2,v3,v4,v5] t):w.cell? ⟨b,0,none⟩=some v0∧w.cell? ⟨b,1,none⟩=some v1∧w.cell? ⟨b,2,none⟩=some v2∧w.cell? ⟨b,3,none⟩=some v3∧w.cell? ⟨b,4,none⟩=some v4∧w.cell? ⟨b,5,none⟩=some v5:=by simp only[h.cell];exact⟨rfl,rfl,rfl,rfl,rfl,rfl⟩
theorem Q7(h:Qh w b #[v0,v1,v2,v3,v4,v5,v6,v7] t):w.cell? ⟨b,0,none⟩=some v0∧w.cell? ⟨b,1,none⟩=some v1∧w.cell? ⟨b,2,none⟩=some v2∧w.cell? ⟨b,3,none⟩=some v3∧w.cell? ⟨b,4,none⟩=some v4∧w.cell? ⟨b,5,none⟩=some v5∧w.cell? ⟨b,6,none⟩=some v6∧w.cell? ⟨b,7,none⟩=some v7:=by simp only[h.cell];exact⟨rfl,rfl,rfl,rfl,rfl,rfl,rfl,rfl⟩
theorem Qh9(h:Qh w b #[v0,v1,v2,v3,v4,v5,v6,v7,v8] t):w.cell? ⟨b,0,none⟩=some v0∧w.cell? ⟨b,1,none⟩=some v1∧w.cell? ⟨b,2,none⟩=some v2∧w.cell? ⟨b,3,none⟩=some v3∧w.cell? ⟨b,4,none⟩=some v4∧w.cell? ⟨b,5,none⟩=some v5∧w.cell? ⟨b,6,none⟩=some v6∧w.cell? ⟨b,7,none⟩=some v7∧w.cell? ⟨b,8,none⟩=some v8:=by simp only[h.cell];exact⟨rfl,rfl,rfl,rfl,rfl,rfl,rfl,rfl,rfl⟩
end
def cV(c:Z6):Value:=.agg #[.int .u64 (c.f:Int),.int .u64 (c.l:Int),.int .u64 (c.r:Int)]
theorem Xe{P:Program}(c:Array TypeId)(t:TypeId)(k:IntKind)(a b:Int)(w:World):(Builtin.min_ c t #[.int k a,.int k b]).run P w=.ok (.int k (min a b)) w:=by
 have e:(if b<a then b else a)=min a b:=by split<;>omega
 rw[run_min_int2,e]
theorem Xn{P:Program}(c:Array TypeId)(t:TypeId)(k:IntKind)(a b:Int)(w:World):(Builtin.max_ c t #[.int k a,.int k b]).run P w=.ok (.int k (max a b)) w:=by
 have e:(if a<b then b else a)=max a b:=by split<;>omega
 rw[run_max_int2,e]
theorem Xu:Jz=4611686018427387904:=rfl
theorem Hx:Qx=9223372036854775808:=rfl
theorem Lt(a b:Nat)(ha:a<18446744073709551616)(u:b<18446744073709551616)(w:World):Cl 312 #[.int .u64 (a:Int),.int .u64 (b:Int)] w fun e w'=>e=.returned (.int .u64 (min Jz (a*b):Nat))∧Qc Qb w w':=by
 have c:=O (fun w=>Uz a b w ha u);have z:min Jz (a*b)=min (a*b) Qcv:=Nat.min_comm _ _;rw[z];by_cases h:a*b<18446744073709551616;·rw[Nat.div_eq_of_lt h,Nat.mod_eq_of_lt h]at c;have d:=O (fun w=>Gl (a*b) w);generalize a*b=n at c d⊢;generalize min n Qcv=r at d⊢;clear h ha u z;go_enter func312,ntmps312;go_wp2_with fail;refine(c.out _).mono ?_;rintro e w1⟨rfl,k⟩;go_wp2_with fail;refine(d.out _).mono ?_;rintro e w2⟨rfl,q⟩;go_wp2;go_ret;exact⟨rfl,(k.alloc _).trans' q⟩
 ·have h1:0<a*b/18446744073709551616:=Nat.div_pos (by omega) (by decide);have hr:min (a*b) Qcv=4611686018427387904:=by rw[Qbr];omega
  rw[hr];generalize a*b/18446744073709551616=B at c h1;generalize a*b%18446744073709551616=E at c;have d:=O (fun w=>Qam E w);have J:decide ((0:Int)<(B:Int))=true:=by simp;omega
  have I:decide (0<B)=true:=by simp;omega
  clear h ha u hr h1 z;go_enter func312,ntmps312;go_wp2_with fail;refine(c.out _).mono ?_;rintro e w1⟨rfl,k⟩;go_wp2_with fail;refine(d.out _).mono ?_;rintro e w2⟨rfl,q⟩;go_wp2;go_ret;exact⟨rfl,(k.alloc _).trans' q⟩
theorem Ql5(a b:Nat)(ha:a≤Jz)(w:World):Cl 336 #[.int .u64 (a:Int),.int .u64 (b:Int)] w fun e w'=>e=.returned (.int .u64 (a-b:Nat))∧Qc Qb w w':=by
 rw[Xu]at ha;by_cases h:a<b
 ·have e:a-b=0:=by omega
  rw[e];go_enter func336,ntmps336;go_wp2;go_ret;exact⟨rfl,Qc.refl _ _⟩
 ·have c:=O (fun w=>Gl (a-b) w);have e:min (a-b) Qcv=a-b:=by rw[Qbr];omega
  rw[e]at c;have hs:IntKind.u64.wrap ((a:Int)-(b:Int))=((a-b:Nat):Int):=by rw[IntWalk.u64_in _ (by omega)];omega
  have h':¬(a:Int)<(b:Int):=by omega
  generalize a-b=n at c hs⊢;clear e ha h;go_enter func336,ntmps336;go_wp2_with fail;refine(c.out _).mono ?_;rintro e w2⟨rfl,d⟩;go_wp2;go_ret;exact⟨rfl,d⟩
theorem Dz(c:Z6)(w:World):Cl 234 #[cV c] w fun e w'=>e=.returned (.bool (decide (c.r<c.f)))∧Qc Qb w w':=by unfold cV;go_enter func234,ntmps234;go_wp2;go_ret;exact⟨by simp,(Qc.refl _ _).alloc _⟩
theorem Ql6(c:Z6)(hc:c.May)(h:c.r<c.f)(w:World):Cl 308 #[cV c] w fun e w'=>e=.returned (.tuple #[.int .u64 ((c.f-c.r)*c.l:Nat),.bool true])∧Qc Qb w w':=by
 have u:=O (fun w=>Dz c w);have k:=O (fun w=>Lt (c.f-c.r) c.l (by have:=hc.hf;omega) (by have:=hc.hl;omega) w);rw[decide_eq_true h]at u;have z:(c.f-c.r)*c.l≤1048576*1099511627776:=Nat.mul_le_mul (by have:=hc.hf;omega) hc.hl;rw[Nat.min_eq_right (by rw[Xu];omega)]at k;have hs:IntKind.u64.wrap ((c.f:Int)-(c.r:Int))=((c.f-c.r:Nat):Int):=by have:=hc.hf;rw[IntWalk.u64_in _ (by omega)];omega
 obtain⟨f,l,r⟩:=c;unfold cV at*;dsimp only at*;generalize(f-r)*l=n at k⊢;generalize f-r=d at k hs;clear z hc h;go_enter func308,ntmps308;go_wp2_with fail;refine(u.out _).mono ?_;rintro e w1⟨rfl,q⟩;have b1:=Dy (q.blk (Qh.new w _ _) (fun h=>h));obtain⟨I,a1,J⟩:=b1;have E:=O (((Qc.refl Qb w).alloc _).trans' q);clear q;go_wp2_with fail;refine(k.out _).mono ?_;rintro e w2⟨rfl,B⟩;go_wp2;go_ret2;exact⟨rfl,E.out.trans' B⟩
theorem Qsx(a:Nat)(ha:a<18446744073709551616)(w:World):Cl 311 #[.int .u64 (a:Int),.int .u64 1,.int .u64 0] w fun e w'=>e=.returned (.tuple #[.int .u64 0,.int .i64 2])∧Qc Qb w w':=by
 have k:=O (fun w=>Uz a 1 w ha (by omega));rw[Nat.mul_one,Nat.div_eq_of_lt ha,Nat.mod_eq_of_lt ha]at k;have u:=O (fun w=>Qsv 0 0 (a:Int) w);clear ha;have q:Hid (∀w,Cl 315 #[.agg #[.func (.func 314) #[] #[]],.int .u64 (a:Int),.int .u64 1,.int .u64 0] w fun e w'=>e=.returned (.tuple #[.int .u64 0,.int .i64 2])∧Qc Qb w w'):=O (by
  intro w;have z:=O ((Qc.refl Qb w).alloc (.cells #[.func (.func 314) #[] #[]] 358));go_enter func315,ntmps315;go_wp2_with fail;refine(k.out _).mono ?_;rintro e w1⟨rfl,c⟩;have E:=O (z.out.trans' c);clear c;go_wp2_with fail;refine(u.out _).mono ?_;rintro e w2⟨rfl,d⟩;have B:=O (E.out.trans' d);clear d;go_wp2;exact bodyPost_ret (v:=.tuple #[.int .u64 0,.int .i64 2]) (by simp[results,Tryz.results315,go_sem]) rfl ⟨rfl,B.out⟩)
 go_enter func311,ntmps311;go_wp2_with fail;refine(q.out _).mono ?_;rintro e w1⟨rfl,c⟩;go_wp2;exact bodyPost_ret (v:=.tuple #[.int .u64 0,.int .i64 2]) (by simp[results,Tryz.results311,go_sem]) rfl ⟨rfl,c⟩
theorem Qph{a c:Nat}(h0:0<c)(ha:a≤Jz):upN a c=Qay a c:=by
 have h:=(Oc h0 (a:=a) (n:=a)).2 (Nat.le_mul_of_pos_left a h0);have e:(a+c-1)/c=Qay a c:=by unfold Qay;rw[show a+(c-1)=a+c-1 by omega]
 unfold upN;rw[e,Nat.min_eq_left];exact Nat.le_trans h ha
section
variable{P:Program}{ops:Array Oper}{Q:Exit→Act→World→Prop}{C:World→Prop}
def Ox(P:Program)(ops:Array Oper)(Q:Exit→Act→World→Prop)(C:World→Prop)(late:Nat→Bool):Nat→Array Bool→Act→World→Prop
 |0,listed,a,w=>Region.ready .any ops listed=[]∧Q .normal a w
 |f+1,listed,a,w=>(Region.ready .any ops listed=[]→Q .normal a w)∧
  ∀i∈Region.ready .any ops listed,wpOp P ops Q i (fun c w'=>(late i=false→C w')∧Ox P ops Q C late f (listed.setIfInBounds i true) c w') a w
theorem Gu{late:Nat→Bool}:∀(f:Nat)(c:Array Bool)(a:Act)(w:World),Ox P ops Q C late f c a w→wpAny P .any ops Q f c a w
 |0,_,_,_,h=>h
 |f+1,_,_,_,h=>⟨h.1,fun i hi=>wpOp_mono (fun d w' h'=>Gu f _ d w' h'.2) (h.2 i hi)⟩
theorem Gv{late:Nat→Bool}{i F:Nat}{U:Oper}{v:Value}(hi:ops[i]? =some U)(K:∀(j:Nat)(o:Oper)cs b,ops[j]? =some o→o.op≠ .select cs b)
  (hQ:∀c a w,Q (.panic c) (a.put U.dst v) w→Q (.panic c) a w) (Z:∀j u,ops[j]? =some u→late j=true→Jy ops F j i=true):
  ∀(f:Nat)(d:Array Bool)(a:Act)(w:World),Ji ops d→
   (∀j u,ops[j]? =some u→j≠i→d.getD j true=false→(∀e∈u.after,Region.binds .any e=true→e.on≠i)→U.apart ops u=true)→
   i∈Region.ready .any ops d→YieldsIf P ops C U v a→C w→
   Ox P ops Q C late f (d.setIfInBounds i true) (a.put U.dst v) w→Ox P ops Q C late (f+1) d a w:=by
 intro f;induction f with
 |zero=>
  intro d a w V _ hr hy hC H;refine⟨fun h=>(by rw[h]at hr;cases hr),fun j hj=>?_⟩;by_cases q:j=i;·subst q;exact hy.wpOp hi hC ⟨fun _=>hC,H⟩
  ·have:=ready_mono hj q;rw[H.1]at this;cases this
 |succ f ih=>
  intro d a w V E hr hy hC H;have z:=(mem_ready.1 hr).1;refine⟨fun h=>(by rw[h]at hr;cases hr),fun j hj=>?_⟩;by_cases q:j=i;·subst q;exact hy.wpOp hi hC ⟨fun _=>hC,H⟩
  ·have h1:=H.2 j (ready_mono hj q);obtain⟨J,u,B,R⟩:=mem_ready.1 hj;have af:late j=false:=by
    cases hl:late j with
    |false=>rfl
    |true=>
     have h1:=Xp V F j i (fun o ho e he hb=>by
      have:o=u:=Option.some.inj (ho.symm.trans B);subst this;exact R e he hb) (Z j u B hl)
     rw[getD_both z]at h1;cases h1
   have aa:∀e∈u.after,Region.binds .any e=true→e.on≠i:=fun e he hb ae=>by have h1:=R e he hb;rw[ae,getD_both z]at h1;cases h1
   have h2:=wpOp_putIf (S:=C) B (E j u B q J aa) (fun cs b=>K i U cs b hi) (fun cs b=>K j u cs b B) hQ hy h1;have I:∀k ok,ops[k]? =some ok→k≠i→(d.setIfInBounds j true).getD k true=false→
     (∀e∈ok.after,Region.binds .any e=true→e.on≠i)→U.apart ops ok=true:=fun k ok hk ag z ac=>by
    refine E k ok hk ag ?_ ac;by_cases ab:j=k;·subst ab;exact J
    ·rw[getD_set_ne true ab]at z;exact z
   refine wpOp_mono (fun a' w' h3=>⟨h3.2.1,ih (d.setIfInBounds j true) a' w' (V.set hj) I (ready_mono hr (Ne.symm q)) h3.1 (h3.2.1 af) ?_⟩) h2;rw[Array.setIfInBounds_comm _ _ q];exact h3.2.2
def Qq(P:Program)(o:Oper)(a:Act)(C:World→Prop)(c:Act→Prop):Prop:=
 ∃v,(∀w,C w→(execOp a.eval o).run P w=.ok (.value v) w)∧c (a.put o.dst v)
def Xk(P:Program)(ops:Array Oper)(C:World→Prop)(R:Act→Prop):List Oper→Act→Prop
 |[],a=>R a
 |o::rest,a=>if Region.wanted o (yielded ops a.tmps)then Qq P o a C (Xk P ops C R rest)else Xk P ops C R rest (a.put o.dst undef)
theorem Qf{R:Act→Prop}{a:Act}(h:R a):Xk P ops C R [] a:=h
theorem Ql{R:Act→Prop}{a:Act}{o:Oper}{rest:List Oper}
  (h:∀K:Act→Prop,(∀a,Xk P ops C R rest a→K a)→if Region.wanted o (yielded ops a.tmps)then Qq P o a C K else K (a.put o.dst undef)):Xk P ops C R (o::rest) a:=
 h _ (fun _ h=>h)
def Zn(P:Program)(ops:Array Oper)(Q:Exit→Act→World→Prop)(C:World→Prop)(late:List Oper):List Oper→Act→World→Prop
 |[],a,w=>wpList P ops Q late a w
 |o::rest,a,w=>wpList P ops (Exit.then (fun c w'=>C w'∧Zn P ops Q C late rest c w') Q) [o] a w
theorem Yp{i:Nat}{o:Oper}{K:Act→World→Prop}{a:Act}{w:World}(h0:ops[i]? =some o)(h:wpList P ops (Exit.then K Q) [o] a w):wpOp P ops Q i K a w:=by
 unfold wpOp;simp only[h0];simp only[wpList]at h;split
 ·rename_i c;simp only[c,if_true]at h;rcases h with h|⟨h1,a1,w1,d⟩
  ·refine .inl ?_;unfold Oper.wp at*;generalize(execOp a.eval o).run P w=r at*;cases r with
   |ok n w'=> cases n<;>simp only[Oper.upon]at h⊢<;>exact h
   |halt x w'=>cases x<;>simp only[Oper.upon]at h⊢<;>exact h
  ·exact .inr ⟨h1,a1,w1,d⟩
 ·rename_i c;simp only[c]at h;exact h
end
structure Qkf{T:Type}(P:Program)(cells:T→List Value)(sz:Nat)(t e:TypeId)(bytes:Nat)(z0:T):Prop where
 ht:P.underlying t=some (.slice e)
 hi:∃i z,P.info? e=some i∧i.zero=some z∧i.size=sz∧i.bytes=bytes∧z.cells=(cells z0).toArray
 pos:0<sz
 hc:∀x,(cells x).length=sz
 one:∀x,∀u∈cells x,u.oneCell'=true
theorem Lu{P:Program}{e:TypeId}{d:Array Value}{sz bytes:Nat}(h:(P.info? e).map (fun i=>(i.zero.map (fun z=>z.cells),i.size,i.bytes))=some (some d,sz,bytes)):
  ∃i z,P.info? e=some i∧i.zero=some z∧i.size=sz∧i.bytes=bytes∧z.cells=d:=by
 cases hi:P.info? e with
 |none=>rw[hi]at h;cases h
 |some i=>
  rw[hi]at h;simp only[Option.map_some,Option.some.injEq,Prod.mk.injEq]at h;obtain⟨h1,k,q⟩:=h;cases c:i.zero with
  |none=>rw[c]at h1;cases h1
  |some z=> rw[c]at h1;exact⟨i,z,rfl,c,k,q,by simpa using h1⟩
def Own{T:Type}(cells:T→List Value)(sz:Nat)(e:TypeId)(w:World)(v:Value)(l:List T):Prop:=
 w.ownsRow 0 e sz v l.length (Zr cells l)
section
variable{T:Type}{P:Program}{cells:T→List Value}{sz:Nat}{t e:TypeId}{bytes:Nat}{z0:T}
theorem Qi1(k:Qkf P cells sz t e bytes z0)(l:List T):∀u∈Zr cells l,u.oneCell'=true:=by intro u d;obtain⟨x,_,c⟩:=List.mem_flatMap.1 d;exact k.one x u c
theorem Own.nil(cells:T→List Value)(sz:Nat)(e:TypeId)(w:World):Own cells sz e w (.slice none 0 0) ([]:List T):=⟨by simp[Zr],.inl ⟨rfl,rfl⟩⟩
theorem Own.keep{w w1:World}{v:Value}{l:List T}{S:Nat→Prop}(h:Own cells sz e w v l)(hc:Qc S w w1)(u:∀k,v.ownBlock=some k→¬S k):Own cells sz e w1 v l:=by
 obtain⟨h0,h⟩:=h;refine⟨h0,?_⟩;rcases h with h|⟨g,cap,c,rfl,d,q,r⟩;·exact .inl h
 ·exact .inr ⟨g,cap,c,rfl,d,hc.heap q (u g rfl),r⟩
theorem Own.lt{w:World}{v:Value}{l:List T}(h:Own cells sz e w v l):∀k,v.ownBlock=some k→k<w.heap.size:=by
 obtain⟨_,h⟩:=h;rcases h with⟨rfl,_⟩|⟨g,cap,d,rfl,u,q,r⟩;·intro k c;cases c
 ·intro k c;have:g=k:=by simpa[Value.ownBlock]using c
  subst this;exact(Array.getElem?_eq_some_iff.1 q).1
theorem Own.row(hc:∀x,(cells x).length=sz){w:World}{v:Value}{l:List T}(h:Own cells sz e w v l):∃a cap,v=.slice a l.length cap∧l.length≤cap∧(a=none→cap=0)∧Yr cells sz w a l:=by
 obtain⟨_,h⟩:=h;rcases h with⟨rfl,hl⟩|⟨g,cap,q,rfl,I,B,hn,d,E,c⟩;·have:l=[]:=List.eq_nil_of_length_eq_zero hl;subst this;exact⟨none,0,rfl,Nat.le_refl _,fun _=>rfl,fun i hi=>absurd hi (by simp)⟩
 ·refine⟨some ⟨g,0,none⟩,cap,rfl,hn,by simp,fun i hi=>⟨g,0,rfl,fun j u k=>?_⟩⟩;have z:j<sz:=by have:=(List.getElem?_eq_some_iff.1 k).1;rw[hc]at this;exact this
  have h1:(Zr cells l)[i*sz+j]? =some u:=by rw[Ol hc l i j hi z];exact k
  have Jl:i*sz+j<l.length*sz:=by have:(i+1)*sz≤l.length*sz:=Nat.mul_le_mul_right _ hi;rw[Nat.add_mul]at this;omega
  rw[←c,List.getElem?_take,if_pos Jl]at h1;simp only[World.cell?,B,Nat.zero_add];simpa using h1
theorem Own.cap{w:World}{v:Value}{l:List T}(h:Own cells sz e w v l):l.length≤maxLen:=by
 obtain⟨_,h⟩:=h;rcases h with⟨rfl,hl⟩|⟨g,cap,k,rfl,u,z,hn,d,q,c⟩;·rw[hl];exact Nat.zero_le _
 ·omega
theorem Ql7(hc:∀x,(cells x).length=sz){w:World}{g o:Nat}{l:List T}(h:Yr cells sz w (some ⟨g,o,none⟩) l)(z:0<sz):
  ∀j u,(Zr cells l)[j]? =some u→w.cell? ((⟨g,o,none⟩:Addr).add j)=some u:=by
 intro j u k;have E:j<l.length*sz:=by have:=(List.getElem?_eq_some_iff.1 k).1;rwa[Xd hc]at this
 have hi:j/sz<l.length:=by rw[Nat.div_lt_iff_lt_mul z];exact E
 have B:=Nat.mod_lt j z;have d:=Nat.div_add_mod j sz;rw[Nat.mul_comm]at d;obtain⟨I,J,q,c⟩:=h (j/sz) hi;simp only[Option.some.injEq,Addr.mk.injEq]at q;obtain⟨rfl,rfl,_⟩:=q;have:=c (j%sz) u (by
  rw[←Ol hc l (j/sz) (j%sz) hi B,d];exact k)
 rw[Nat.add_assoc,d]at this;rw[←this];unfold Addr.add;split;·rename_i h0;rw[h0];rfl
 ·rfl
variable{ops:Array Oper}{rest:List Oper}{o:Oper}{a:Act}{w:World}{Q:Exit→Act→World→Prop}
theorem Jf(u:Qkf P cells sz t e bytes z0)(E:o.guard=none)(s x:Operand)
  (ho:o.op=.call {callee:=.builtin .append,args:=#[s,x],argTypes:=#[t,t]})
  (v:Value)(l:List T)(hs:a.eval s=v)(q:Own cells sz e w v l)
  (sa:Option Addr)(c:Nat)(l2:List T)(hx:a.eval x=.slice sa l2.length c)(ab:sa=none→c=0)(B:Yr cells sz w sa l2)
  (J:l.length+l2.length≤maxLen)(d:(l.length+l2.length)*bytes≤140737488355328)
  (h:∀v' w',Own cells sz e w' v' (l++l2)→Qc (fun k=>v.ownBlock=some k) w w'→(v'.ownBlock=v.ownBlock∨v'.ownBlock=some w.heap.size)→wpList P ops Q rest (a.put o.dst v') w'):
  wpList P ops Q (o::rest) a w:=by
 obtain⟨i,z,hi,hz,Z,R,aa⟩:=u.hi;have V:z.cells.size=sz:=by rw[aa];simp[u.hc]
 have fin:∀v' w',w'.ownsRow 0 e sz v' (l.length+l2.length) (Zr cells l++Zr cells l2)→w.grownBy w' v.ownBlock→(v'.ownBlock=v.ownBlock∨v'.ownBlock=some w.heap.size)→wpList P ops Q rest (a.put o.dst v') w':=by intro v' w' h1 U K;refine h v' w' ?_ ((Qc.refl _ _).grown U fun k hk=>.inl hk) K;unfold Own;rw[Ob,List.length_append];exact h1
 by_cases I:l2=[]
 ·subst I;cases sa with
  |none=> obtain rfl:=ab rfl;refine wpList_append_own_none E s x t ho 0 e i sz u.ht hi v l.length (Zr cells l) hs q hx ?_;exact h v w (by simpa using q) (Qc.refl _ _) (.inl rfl)
  |some ad=> refine wpList_append_own_at _ E s x t ho 0 e i z sz bytes u.ht hi hz Z R V u.pos v l.length (Zr cells l) hs q ad 0 c [] hx (by simp) (by simp) (by simp) (by simpa using J) (by simpa using d) (Nat.zero_le _) ?_;intro v' w' h1 U _ K;exact fin v' w' (by simpa[Zr]using h1) U K
 ·obtain⟨g,off,rfl,_⟩:=B 0 (List.length_pos_iff.2 I);refine wpList_append_own_at _ E s x t ho 0 e i z sz bytes u.ht hi hz Z R V u.pos v l.length (Zr cells l) hs q ⟨g,off,none⟩ l2.length c (Zr cells l2) hx
   (Xd u.hc l2) (Ql7 u.hc B u.pos) (Qi1 u l2) J d (Nat.zero_le _) ?_
  intro v' w' h1 U _ K;exact fin v' w' h1 U K
theorem Lj(B:Qkf P cells sz t e bytes z0)(ah:o.guard=none)(d s:Operand)
  (ho:o.op=.call {callee:=.builtin .copy,args:=#[d,s],argTypes:=#[t,t]})
  (dp sp:Option Addr)(u R q I:Nat)(hd:a.eval d=.slice dp u R)(hs:a.eval s=.slice sp q I)
  (g off:Nat)(L:List T)(te:TypeId)(hg:RowBlk cells w g L te)(c:List T)(hn:c.length=Nat.min q u)
  (af:0<c.length→dp=some ⟨g,off*sz,none⟩)(Z:Yr cells sz w sp c)(E:off+c.length≤L.length)
  (h:∀w',RowBlk cells w' g (L.take off++c++L.drop (off+c.length)) te→Qc (fun k=>k=g) w w'→wpList P ops Q rest (a.put o.dst (.int .i64 c.length)) w'):
  wpList P ops Q (o::rest) a w:=by
 obtain⟨i,z,hi,hz,ag,ai,aj⟩:=B.hi;refine wpList_plain ah fun K hK=>?_;by_cases h0:c=[]
 ·subst h0;have aa:Nat.min q u=0:=by simpa using hn.symm
  have hl:∀(x:Addr),(loadCells x 0).run P w=.ok #[] w:=fun x=>by simpa using run_loadCells_list (P:=P) w x [] (by simp)
  have U:(Builtin.copy_ #[t,t] o.type #[.slice dp u R,.slice sp q I]).run P w=.ok (goInt 0) w:=by cases dp<;>cases sp<;>simp[Builtin.copy_,run_underlying B.ht,Builtin.lenOf,Builtin.firstCells,sizeOf,typeInfo,hi,aa,storeCells,hl]
  unfold Oper.wp;simp[execOp,ho,resolve,invoke,builtin,hd,hs,U,Result.andThen];exact hK _ _ (h w (by simpa using hg) (Qc.refl _ _))
 ·have V:=List.length_pos_iff.2 h0;obtain⟨g2,o2,rfl,_⟩:=Z 0 V;obtain rfl:=af V;have J:=run_loadCells_list (P:=P) w ⟨g2,o2,none⟩ (Zr cells c) (Ql7 B.hc Z B.pos);rw[Xd B.hc]at J;have ae:=Xd B.hc L;have ab:(off+c.length)*sz≤L.length*sz:=Nat.mul_le_mul_right _ E;rw[Nat.add_mul]at ab;have ac:=run_storeCells_at P g (off*sz) te (Zr cells c) 0 (Zr cells L).toArray w hg (by rw[Xd B.hc];simp[ae];omega) (Qi1 B c);have U:(Builtin.copy_ #[t,t] o.type #[.slice (some ⟨g,off*sz,none⟩) u R,.slice (some ⟨g2,o2,none⟩) q I]).run P w=
    .ok (goInt c.length) (w.setRow g ((Zr cells L).take (off*sz)++Zr cells c++(Zr cells L).drop (off*sz+(Zr cells c).length)).toArray):=by
   simp only[Nat.add_zero]at ac;simp[Builtin.copy_,run_underlying B.ht,Builtin.lenOf,Builtin.firstCells,sizeOf,typeInfo,hi,ag,←hn,J,ac]
  unfold Oper.wp;simp[execOp,ho,resolve,invoke,builtin,hd,hs,U,Result.andThen];refine hK _ _ (h _ ?_ ⟨rfl,rfl,rfl,by simp[World.setRow],fun k _ hk=>setRow_other w g k _ hk⟩);have e1:(Zr cells L).take (off*sz)++Zr cells c++(Zr cells L).drop (off*sz+(Zr cells c).length)=Zr cells (L.take off++c++L.drop (off+c.length)):=by
   rw[Ob,Ob,Qfc B.hc,Xd B.hc,←Nat.add_mul];congr 1;have e3:Zr cells L=Zr cells (L.take (off+c.length))++Zr cells (L.drop (off+c.length)):=by rw[←Ob,List.take_append_drop]
   rw[e3,List.drop_append,List.drop_of_length_le (by rw[Xd B.hc,List.length_take,Nat.min_eq_left E];exact Nat.le_refl _),Xd B.hc,List.length_take,Nat.min_eq_left E];simp
  rw[←List.append_assoc,e1];exact setRow_heap w g _ _ te _ hg
theorem Qfk(hc:∀x,(cells x).length=sz)(z0:T)(n:Nat):madeCells (cells z0).toArray (n*sz)=(Zr cells (List.replicate n z0)).toArray:=by
 apply Array.ext;·simp[madeCells,Xd hc]
 ·intro i h1 E;have hi:i<n*sz:=by simpa[madeCells]using h1
  have u:0<sz:=by
   rcases Nat.eq_zero_or_pos sz with h|h;·subst h;simp at hi
   ·exact h
  have B:i/sz<n:=by rw[Nat.div_lt_iff_lt_mul u];exact hi
  have k:=Nat.mod_lt i u;have q:=Nat.div_add_mod i sz;rw[Nat.mul_comm]at q;have d:=Ol hc (List.replicate n z0) (i/sz) (i%sz) (by simpa using B) k;rw[q]at d;simp only[List.getElem_replicate]at d;have c:i%sz<(cells z0).length:=by rw[hc];exact k
  rw[List.getElem?_eq_getElem c]at d;have z:=(List.getElem?_eq_some_iff.1 d).2;simp only[madeCells,Array.getElem_map,Array.getElem_range,List.size_toArray,hc,List.getElem_toArray];rw[z];simp[c]
theorem Gw(q:Qkf P cells sz t e bytes z0)(n:Nat)(E:bytes*n≤281474976710656)(hn:n≤9223372036854775807)(w:World):
  (Instr.makeSlice t (.int .i64 (n:Int)) (.int .i64 (n:Int))).run P w=.ok (.slice (some ⟨w.heap.size,0,none⟩) n n) (w.alloc (.cells (Zr cells (List.replicate n z0)).toArray e)):=by
 obtain⟨i,z,hi,B,k,u,d⟩:=q.hi;have c:(i.bytes:Int)*(n:Int)≤281474976710656:=by
  have h:((bytes*n:Nat):Int)≤281474976710656:=by omega
  rw[u];rwa[Int.natCast_mul]at h
 have hr:=run_make (P:=P) w t e i z q.ht hi B .i64 .i64 n n (by omega) (by omega) c (by omega);simp only[Int.toNat_natCast]at hr;rw[hr,d,k,Qfk q.hc]
end
section
variable{P:Program}{ops:Array Oper}{Q:Exit→Act→World→Prop}{C:World→Prop}
def pick(ops:Array Oper):List Nat→List Oper
 |[]=>[]
 |i::is=>match ops[i]? with
  |some o=>o::pick ops is
  |none=>pick ops is
theorem Ur{i:Nat}{is:List Nat}{o:Oper}(h:ops[i]? =some o):pick ops (i::is)=o::pick ops is:=by simp[pick,h]
def Qeq(ops:Array Oper):List Nat→Array Bool→Bool
 |[],listed=>(Region.ready .any ops listed).isEmpty
 |k::ks,listed=>decide (Region.ready .any ops listed=[k])&&Qeq ops ks (listed.setIfInBounds k true)
theorem Qcz{k:Nat}{d:List Nat}{c:Array Bool}(h:Qeq ops (k::d) c=true):Region.ready .any ops c=[k]∧(∃o,ops[k]? =some o)∧Qeq ops d (c.setIfInBounds k true)=true:=by simp only[Qeq,Bool.and_eq_true,decide_eq_true_eq]at h;obtain⟨_,o,q,_⟩:=mem_ready.1 (show k∈Region.ready .any ops c by rw[h.1];simp);exact⟨h.1,⟨o,q⟩,h.2⟩
theorem Qi2{late:Nat→Bool}:∀(d:List Nat)(c:Array Bool)(a:Act)(w:World),(∀j∈d,late j=true)→Qeq ops d c=true→
  wpList P ops Q (pick ops d) a w→Ox P ops Q C late d.length c a w
 |[],c,a,w,_,hB,h=>⟨by simpa[Qeq]using hB,h⟩
 |k::d,c,a,w,hl,hB,h=>by
  obtain⟨h1,⟨o,h0⟩,q⟩:=Qcz hB;refine⟨fun z=>(by rw[h1]at z;cases z),fun i hi=>?_⟩;rw[h1]at hi;have u:i=k:=by simpa using hi
  subst u;rw[Ur h0]at h;have E:wpOp P ops Q i (wpList P ops Q (pick ops d)) a w:=by unfold wpOp;simp only[h0];exact h
  exact wpOp_mono (fun I w' h'=>⟨fun h=>(by rw[hl i (by simp)]at h;cases h),Qi2 d _ I w' (fun j B=>hl j (by simp[B])) q h'⟩) E
theorem Qaz{late:Nat→Bool}{u:List Nat}(d:∀j∈u,late j=true):
  ∀(q:List Nat)(c:Array Bool)(a:Act)(w:World),Qeq ops (q++u) c=true→
  Zn P ops Q C (pick ops u) (pick ops q) a w→Ox P ops Q C late (q.length+u.length) c a w
 |[],c,a,w,hB,h=>by rw[List.length_nil,Nat.zero_add];exact Qi2 u c a w d hB h
 |k::q,c,a,w,hB,h=>by
  obtain⟨h1,⟨o,h0⟩,z⟩:=Qcz hB;have e:(k::q).length+u.length=(q.length+u.length)+1:=by simp;omega
  rw[e];rw[Ur h0]at h;refine⟨fun E=>(by rw[h1]at E;cases E),fun i hi=>?_⟩;rw[h1]at hi;have B:i=k:=by simpa using hi
  subst B;refine wpOp_mono (fun I w' h'=>⟨fun _=>h'.1,?_⟩) (Yp h0 h);exact Qaz d q _ I w' z h'.2
def Qfl(ops:Array Oper)(rest:List Nat):List Nat→Array Bool→Bool
 |[],listed=>Qeq ops rest listed
 |k::ks,listed=>(Region.ready .any ops listed).contains k&&Region.free .any ops listed k&&((ops[k]?).map (·.dst.isSome)).getD false&&Qfl ops rest ks (listed.setIfInBounds k true)
def Qbu(ops:Array Oper)(c rest:List Nat):List Nat→Array Bool→Bool
 |[],listed=>Qfl ops rest c listed
 |k::ks,listed=>(Region.ready .any ops listed).contains k&&Region.free .any ops listed k&&((ops[k]?).map Qkc).getD false&&Qbu ops c rest ks (listed.setIfInBounds k true)
def Qzu(ops:Array Oper)(cs ls d c:List Nat):Bool:=
 Region.noSelect ops&&decide (cs.length+(ls.length+(d.length+c.length))=ops.size)&&(c.all fun t=>ls.all fun h=>Jy ops ops.size t h)&&Qbu ops ls (d++c) cs (Array.replicate ops.size false)
theorem Qi3{ls E B:List Nat}(z:Region.noSelect ops=true)(hn:∀t∈B,∀h∈ls,Jy ops ops.size t h=true)
  (hQ:∀c(a:Act)(d:Tmp)v w,Q (.panic c) (a.put (some d) v) w→Q (.panic c) a w):
  ∀(u:List Nat)(q:Array Bool)(a:Act)(w:World),(∀k∈u,k∈ls)→Ji ops q→C w→
   Qfl ops (E++B) u q=true→Xk P ops C (fun J=>∀w',C w'→Zn P ops Q C (pick ops B) (pick ops E) J w') (pick ops u) a→
   Ox P ops Q C (fun j=>decide (j∈B)) (u.length+(E.length+B.length)) q a w
 |[],q,a,w,_,hcl,hC,hB,h=>by simp only[List.length_nil,Nat.zero_add];exact Qaz (fun j R=>by simpa using R) E q a w (by simpa[Qfl]using hB) (h w hC)
 |k::u,q,a,w,hsub,hcl,hC,hB,h=>by
  simp only[Qfl,Bool.and_eq_true]at hB;obtain⟨⟨⟨hr,hf⟩,K⟩,Z⟩:=hB;have I:k∈Region.ready .any ops q:=by simpa using hr
  obtain⟨_,o,h0,_⟩:=mem_ready.1 I;rw[h0]at K;simp only[Option.map_some,Option.getD_some]at K;obtain⟨d,K⟩:=Option.isSome_iff_exists.1 K;rw[Ur h0]at h;have V:∃v,YieldsIf P ops C o v a∧Xk P ops C (fun J=>∀w',C w'→Zn P ops Q C (pick ops B) (pick ops E) J w') (pick ops u) (a.put o.dst v):=by
   simp only[Xk]at h;by_cases U:Region.wanted o (yielded ops a.tmps)=true;·simp only[U,if_true]at h;obtain⟨v,h1,h2⟩:=h;exact⟨v,.inl ⟨U,h1⟩,h2⟩
   ·simp only[U]at h;exact⟨undef,.inr ⟨by simpa using U,rfl⟩,h⟩
  obtain⟨v,V,hK⟩:=V;have e:(k::u).length+(E.length+B.length)=(u.length+(E.length+B.length))+1:=by simp;omega
  rw[e];refine Gv (F:=ops.size) h0 (Region.noSelect_spec z) (fun c J w' hq=>by rw[K]at hq;exact hQ c J d _ w' hq) (fun j oj R hT=>hn j (by simpa using hT) k (hsub k (by simp))) _ q a w hcl (Region.free_spec h0 hf) I V hC
   (Qi3 z hn hQ u _ _ w (fun j R=>hsub j (by simp[R])) (hcl.set I) hC Z hK)
theorem Qfm{ls R E:List Nat}(u:Region.noSelect ops=true)(hn:∀t∈E,∀h∈ls,Jy ops ops.size t h=true)
  (hQ:∀c(a:Act)(d:Tmp)v w,Q (.panic c) (a.put (some d) v) w→Q (.panic c) a w):
  ∀(I:List Nat)(q:Array Bool)(a:Act)(w:World),Ji ops q→C w→
   Qbu ops ls (R++E) I q=true→Xk P ops C (fun z=>Xk P ops C (fun z=>∀w',C w'→Zn P ops Q C (pick ops E) (pick ops R) z w') (pick ops ls) z) (pick ops I) a→
   wpAny P .any ops Q (I.length+(ls.length+(R.length+E.length))) q a w
 |[],q,a,w,hcl,hC,hB,h=>by simp only[List.length_nil,Nat.zero_add];refine Gu (C:=C) (late:=fun j=>decide (j∈E)) _ _ _ _ ?_;exact Qi3 u hn hQ ls q a w (fun _ h=>h) hcl hC (by simpa[Qbu]using hB) h
 |k::I,q,a,w,hcl,hC,hB,h=>by
  simp only[Qbu,Bool.and_eq_true]at hB;obtain⟨⟨⟨hr,hf⟩,J⟩,ab⟩:=hB;have K:k∈Region.ready .any ops q:=by simpa using hr
  obtain⟨_,o,h0,_⟩:=mem_ready.1 K;rw[h0]at J;rw[Ur h0]at h;simp only[Option.map_some,Option.getD_some]at J;obtain⟨ae,op,B,pos,after,ac⟩:=o;obtain⟨d,x,e1,e2,e3⟩:=Qd0 J;dsimp only at e1 e2 e3;subst e1 e2 e3;have U:Yields P ops ⟨some d,.move x,B,pos,after,none⟩ (a.eval x) a:=.inl ⟨rfl,fun w'=>rfl⟩;have V:(k::I).length+(ls.length+(R.length+E.length))=(I.length+(ls.length+(R.length+E.length)))+1:=by simp;omega
  rw[V];refine wpAny_first (md:=.any) h0 (Region.noSelect_spec u) (fun c z w' hq=>hQ c z d _ w' hq) _ q a w (Region.free_spec h0 hf) K U ?_;refine Qfm u hn hQ I _ _ w (hcl.set K) hC ab ?_;have h':Qq P ⟨some d,.move x,B,pos,after,none⟩ a C (Xk P ops C (fun z=>Xk P ops C (fun z=>∀w',C w'→Zn P ops Q C (pick ops E) (pick ops R) z w') (pick ops ls) z) (pick ops I)):=h;obtain⟨v,hv,hK⟩:=h';have aa:=hv w hC;have Z:a.eval x=v:=by injection aa with h1 _;injection h1
  rw[Z];exact hK
theorem Qr{id:Nat}{a:Act}{w:World}{l:List Oper}(cs ls J I:List Nat)(G:World→World)(R:P.follows .mixedOrders=true)(K:Qzu l.toArray cs ls J I=true)
  (U:∀c(a:Act)(d:Tmp)v w,Q (.panic c) (a.put (some d) v) w→Q (.panic c) a w)(Z:∃x,w.drew=G x)
  (h:Xk P l.toArray (fun w'=>∃x,w'=G x) (fun E=>Xk P l.toArray (fun w'=>∃x,w'=G x) (fun E=>∀w',(∃x,w'=G x)→Zn P l.toArray Q (fun w'=>∃x,w'=G x) (pick l.toArray I) (pick l.toArray J) E w') (pick l.toArray ls) E) (pick l.toArray cs) a):
  (Code.region id l.toArray true).wp P Q a w:=by
 simp only[Qzu,Bool.and_eq_true,decide_eq_true_eq]at K;obtain⟨⟨⟨k,q⟩,B⟩,z⟩:=K;refine wp_region_any R ?_;have u:Ji l.toArray (Array.replicate l.toArray.size false):=fun j oj _ hl=>by rw[getD_replicate_false]at hl;cases hl
 have hn:∀t∈I,∀h∈ls,Jy l.toArray l.toArray.size t h=true:=fun t ht h V=>List.all_eq_true.1 (List.all_eq_true.1 B t ht) h V;have:=Qfm (P:=P) (ops:=l.toArray) (C:=fun w'=>∃x,w'=G x) (Q:=Q) k hn U cs _ a _ u Z z h;rw[q]at this;exact this
end
section
variable{T:Type}{P:Program}{cells:T→List Value}{sz:Nat}{t e:TypeId}{bytes:Nat}{z0:T}{w:World}
end
noncomputable def Qw(S:Nat→Prop)(w x:World):World:=by
 classical
 exact{heap:=((Array.range (max w.heap.size x.heap.size)).map fun k=>if k<w.heap.size∧¬S k then w.heap.getD k (.cells #[] 0)else x.heap.getD k (w.heap.getD k (.cells #[] 0))),tape:=w.tape,drawn:=x.drawn,os:=w.os,output:=w.output}
theorem Qd{S:Nat→Prop}{w w':World}(h:Qc S w w'):∃x,w'=Qw S w x:=by
 classical
 refine⟨w',?_⟩;have d:=h.size;cases w' with
 |mk c tape u os output=>
  simp only at d;have e:c=((Array.range (max w.heap.size c.size)).map fun k=>if k<w.heap.size∧¬S k then w.heap.getD k (.cells #[] 0)else c.getD k (w.heap.getD k (.cells #[] 0))):=by
   rw[Nat.max_eq_right d];apply Array.ext_getElem?;intro k;by_cases z:k<c.size
   ·simp only[Array.getElem?_map,Array.getElem?_range,z,if_true,Option.map_some];split;·rename_i q;have:=h.block k q.1 q.2;simp only at this;rw[this,Array.getElem?_eq_getElem q.1];simp[Array.getD,q.1]
    ·rw[Array.getElem?_eq_getElem z];simp
   ·rw[Array.getElem?_eq_none (by omega),Array.getElem?_eq_none (by simp;omega)]
  unfold Qw;simp only[World.mk.injEq];exact⟨e,h.tape,trivial,h.os,h.output⟩
theorem Qu(S:Nat→Prop)(w x:World):Qc S w (Qw S w x):=by
 classical
 refine⟨rfl,rfl,rfl,by unfold Qw;simp;omega,fun k c d=>?_⟩;unfold Qw;simp only[Array.getElem?_map,Array.getElem?_range];rw[if_pos (by omega)];simp only[Option.map_some,c,d,not_false_eq_true,and_self,if_true];rw[Array.getElem?_eq_getElem c];simp[Array.getD,c]
section
attribute [local go_sem] Qq
theorem Qk{S:Nat→Prop}{w:World}{b:Nat}{cs:Array Value}{t:TypeId}(h:Qh w b cs t)(c:¬S b)(x:World):Qh (Qw S w x) b cs t:=(Qu S w x).blk h c
theorem Ql8(s h n:Nat)(hs:s<18446744073709551616)(Z:h≤Jz)(hn:n<18446744073709551616)(w:World):Cl 310 #[.agg #[.int .u64 (s:Int),.int .u64 (h:Int)],.int .u64 (n:Int)] w fun e w'=>e=.returned (.int .u64 (Kp h s n:Nat))∧Qc Qb w w':=by
 have hc:=Xu;have z:=O (fun w=>Lt s n hs hn w);have d:=O (fun w=>Qax h (min Jz (s*n)) (by omega) (by omega) w);rw[show Qfe h (min Jz (s*n))=Kp h s n from Nat.min_comm _ _]at d;generalize Kp h s n=r at d⊢;generalize min Jz (s*n)=m at z d;clear hc hs Z hn;have B:=O (Qh.new w #[.int .u64 (s:Int),.int .u64 (h:Int)] 295);have C:=O ((Qc.refl Qb w).alloc (.cells #[.int .u64 (s:Int),.int .u64 (h:Int)] 295));have E:=fun x=>Qz (Qk (S:=Qb) B.out (fun h=>h) x);go_enter func310,ntmps310;go_wp2;refine Qr [] [0,1,2,3,4] [5,6,7] [] (Qw (Qb) (w.alloc (.cells #[.int .u64 (s:Int),.int .u64 (h:Int)] 295))) (by kernel_rfl) (by kernel_rfl) ?_ (Qd (by(repeat' (first|(with_reducible first|exact Zg _ _|assumption|refine Zh ?_ _|refine Zi ?_ _|refine Zj ?_ |refine Zk ?_ _ ?_ |(apply Or.inl;rfl))|(apply Or.inl;simp;done)|(apply Or.inr;simp;first|done|omega))))) ?_;·exact fun _ _ _ _ _ h=>h
 simp only[pick,Zf,Ze,Zd];refine Qf ?_;iterate 5 (refine Ql (fun K V=>?_);go_simp;refine V _ ?_;clear V K)
 refine Qf ?_;intro _ k;obtain⟨R,c⟩:=k;subst c;simp only[Zn];have U:=O (Qu Qb (w.alloc (.cells #[.int .u64 (s:Int),.int .u64 (h:Int)] 295)) R);generalize Qw Qb (w.alloc (.cells #[.int .u64 (s:Int),.int .u64 (h:Int)] 295)) R=w3 at U⊢;clear E;go_wp2_with fail;refine(z.out _).mono ?_;rintro e w4⟨rfl,I⟩;have J:=O (U.out.trans' I);clear I;go_wp2;refine⟨Qd J.out,?_⟩;go_wp2_with fail;refine(d.out _).mono ?_;rintro e w5⟨rfl,u⟩;have q:=O (J.out.trans' u);clear u;go_wp2;refine⟨Qd q.out,?_⟩;go_wp2;refine⟨Qd q.out,?_⟩;go_wp2;go_ret;exact⟨rfl,C.out.trans' q.out⟩
theorem Qfn(s h y:Nat)(hs:s<18446744073709551616)(K:h≤Jz)(R:y<18446744073709551616)(w:World):Cl 307 #[.agg #[.int .u64 (s:Int),.int .u64 (h:Int)],.int .u64 (y:Int)] w fun e w'=>e=.returned (.int .u64 (Xx h s y:Nat))∧Qc Qb w w':=by
 have hc:=Xu;have hn:=Hx;unfold Xx;have B:=O (Qh.new w #[.int .u64 (s:Int),.int .u64 (h:Int)] 295);have C:=O ((Qc.refl Qb w).alloc (.cells #[.int .u64 (s:Int),.int .u64 (h:Int)] 295));by_cases h0:y≤h;·rw[if_pos h0];obtain⟨I,a1⟩:=Qz B.out;clear hc hn;go_enter func307,ntmps307;go_wp2;go_ret;exact⟨rfl,C.out⟩
 ·rw[if_neg h0];have c:IntKind.u64.wrap ((y:Int)-(h:Int))=((y-h:Nat):Int):=by rw[IntWalk.u64_in _ (by omega)];omega
  have U:decide (y≤h)=false:=by simpa using h0
  by_cases z:s=0;·subst z;rw[if_pos (.inl rfl),hn];have k:=O (fun w=>Qsx (y-h) (by omega) w);generalize y-h=d at c k;clear hc hn h0 hs K;obtain⟨I,a1⟩:=Qz B.out;go_enter func307,ntmps307;go_wp2_with fail;refine(k.out _).mono ?_;rintro e w1⟨rfl,E⟩;go_wp2;go_ret;exact⟨rfl,C.out.trans' E⟩
  ·have k:=O (fun w=>Qlz (y-h) s (by omega) hs (by omega) w);by_cases q:Jz<y
   ·rw[if_pos (.inr q),hn];have J:(4611686018427387904:Int)<(y:Int):=by omega
    generalize upN (y-h) s=u at k;generalize y-h=d at c k;clear hc hn h0 K q z;obtain⟨I,a1⟩:=Qz B.out;go_enter func307,ntmps307;go_wp2_with fail;refine(k.out _).mono ?_;rintro e w1⟨rfl,E⟩;go_wp2;go_ret;exact⟨rfl,C.out.trans' E⟩
   ·rw[if_neg (by omega)];rw[Qph (by omega) (by omega)]at k;have J:¬(4611686018427387904:Int)<(y:Int):=by omega
    generalize Qay (y-h) s=u at k⊢;generalize y-h=d at c k;clear hc hn h0 K q z;obtain⟨I,a1⟩:=Qz B.out;go_enter func307,ntmps307;go_wp2_with fail;refine(k.out _).mono ?_;rintro e w1⟨rfl,E⟩;go_wp2;go_ret;exact⟨rfl,C.out.trans' E⟩
def Jo.h1(r:Jo):Nat:=if r.l=[]then 0 else Y9 r.c.f 0 r.l
def Jo.h2(r:Jo):Nat:=if r.l=[]then 0 else Y9 r.c.r ((r.c.f-r.c.r)*r.c.l) r.l
def Qap(r:Jo)(x:Nat)(h1 c:Nat)(n:Int):Array Value:=#[.int .u64 (r.c.f:Int),.int .u64 (r.c.l:Int),.int .u64 (r.c.r:Int),.int .i64 n,.int .u64 (x:Int),.int .u64 (r.c.f:Int),.int .u64 (h1:Int),.int .u64 (r.c.r:Int),.int .u64 (c:Int)]
structure Hg(w:World)(F:Fp)(b:Nat)(r:Jo):Prop where
 bd:Bd F w
 own:F b
 may:r.c.May
 bent:r.c.r<r.c.f
 ok:Vv r.l
 rise:Gm r.l
 blk:Qh w b (Qap r (Zp r.l) r.h1 r.h2 r.l.length) 297
theorem bentP:Ky Hg where
 bd h:=h.bd
 own h:=h.own
 keep h hc hd:=⟨h.bd.later hc,h.own,h.may,h.bent,h.ok,h.rise,hc.blk h.blk (hd _ h.own)⟩
 more h hs hb:=⟨hb,hs _ h.own,h.may,h.bent,h.ok,h.rise,h.blk⟩
theorem Qi4(s o:Nat)(l:V9):Y9 s o l≤Jz:=Nat.min_le_left _ _
theorem Jo.h1_cap(r:Jo):r.h1≤Jz:=by unfold Jo.h1;split;exact Nat.zero_le _;exact Qi4 _ _ _
theorem Jo.h2_cap(r:Jo):r.h2≤Jz:=by unfold Jo.h2;split;exact Nat.zero_le _;exact Qi4 _ _ _
theorem Qi5{w:World}{F:Fp}{b:Nat}{r:Jo}(h:Hg w F b r):Cl 306 #[ptr b] w fun e w'=>e=.returned (.bool (r.l.length==0))∧w=w':=by
 unfold ptr;obtain⟨c,a1,u,q,z,B,E,d,I⟩:=Qh9 h.blk;have e:((r.l.length:Int)==0)=(r.l.length==0):=by
  cases r.l with
  |nil=>rfl
  |cons k l=>simp;omega
 rw[←e];clear h e;generalize(r.l.length:Int)=n at*;go_enter func306,ntmps306;go_wp2;go_ret;exact⟨rfl,rfl⟩
theorem Qsy(c:Z6)(hc:c.May)(z:c.r<c.f)(w:World):Cl 220 #[cV c] w fun e w'=>∃b,e=.returned (.tuple #[ptr b,.int .i64 0])∧Hg w' (Qn Qb w w') b ⟨c,[]⟩∧Qc Qb w w':=by
 have R:=O (Y0 c);have J:=O (Dz c);rw[decide_eq_true hc]at R;rw[decide_eq_true z]at J;have d:∀(W w':World),Qc Qb w W→w'=W.alloc (.cells (Qap ⟨c,[]⟩ 0 0 0 0) 297)→Hg w' (Qn Qb w w') W.heap.size ⟨c,[]⟩∧Qc Qb w w':=by rintro W w' hW rfl;have h1:=hW.size;exact⟨⟨fun k Z=>Z.elim (fun h=>h.elim) (fun h=>h.2),.inr ⟨h1,by simp⟩,hc,z,Vv.nil,.nil,Qh.new _ _ _⟩,hW.alloc _⟩
 have HF:=O d;obtain⟨f,l,r⟩:=c;unfold cV at*;dsimp only[Qap]at*;have B:=O (Qh.new w #[.int .u64 (f:Int),.int .u64 (l:Int),.int .u64 (r:Int)] 38);have C:=O ((Qc.refl Qb w).alloc (.cells #[.int .u64 (f:Int),.int .u64 (l:Int),.int .u64 (r:Int)] 38));clear hc z d;go_enter func220,ntmps220;go_wp2_with fail;refine(R.out _).mono ?_;rintro e w1⟨rfl,q⟩;have C1:=O (C.out.trans' q);have K:=O (q.blk B.out (fun h=>h));clear q;obtain⟨E,a1,I⟩:=Dy K.out;go_wp2_with fail;refine(J.out _).mono ?_;rintro e w2⟨rfl,u⟩;have U:=O (C1.out.trans' u);have V:=O (u.blk K.out (fun h=>h));clear u E a1 I;obtain⟨E,a1,I⟩:=Dy V.out;go_wp2;go_ret2;exact⟨_,rfl,HF.out _ _ U.out rfl⟩
theorem Ql9{w:World}{F:Fp}{b:Nat}{r:Jo}(h:Hg w F b r)(hl:r.l=[])(y:Nat):Cl 303 #[ptr b,.int .u64 (y:Int)] w fun e w'=>e=.returned (.int .u64 (r.reach y:Nat))∧Qc Qb w w':=by
 have c:=O (Qi5 h);rw[hl]at c;have e:r.reach y=if y=0 then 0 else 9223372036854775808:=by unfold Jo.reach Yo;rw[if_pos hl]
 unfold ptr at*;dsimp only[List.length_nil]at c;rw[e];by_cases d:y=0;·subst d;go_enter func303,ntmps303;go_wp2_with fail;refine c.out.mono ?_;rintro e w1⟨rfl,rfl⟩;go_wp2;go_ret;exact⟨rfl,Qc.refl _ _⟩
 ·rw[if_neg d];have k:((y:Int)==0)=false:=by simp;omega
  clear d e;go_enter func303,ntmps303;go_wp2_with fail;refine c.out.mono ?_;rintro e w1⟨rfl,rfl⟩;go_wp2;go_ret;exact⟨rfl,Qc.refl _ _⟩
theorem Qma{w:World}{F:Fp}{b:Nat}{r:Jo}(h:Hg w F b r)(hl:r.l≠[])(y:Nat)(hy:y<18446744073709551616):Cl 303 #[ptr b,.int .u64 (y:Int)] w fun e w'=>e=.returned (.int .u64 (r.reach y:Nat))∧Qc Qb w w':=by
 have HN:=O (Qi5 h);have q:(r.l.length==0)=false:=by simpa using hl
 rw[q]at HN;have hm:=h.may;have hx:Zp r.l≤Qx:=h.ok.last;have e:r.reach y=Uo (Zp r.l) (max (Xx r.h1 r.c.f y) (Xx r.h2 r.c.r y)):=by unfold Jo.h1 Jo.h2;rw[if_neg hl,if_neg hl];exact(Qpb h.bent h.ok hl).symm
 have H1:=O (fun w=>Qfn r.c.f r.h1 y (by have:=hm.hf;omega) r.h1_cap hy w);have H2:=O (fun w=>Qfn r.c.r r.h2 y (by have:=hm.hr;omega) r.h2_cap hy w);have E:=fun x=>Qh9 (Qk (S:=Qb) h.blk (fun h=>h) x);have B:=O h.blk;have u:∀h s,Xx h s y≤9223372036854775808:=fun h s=>by
  unfold Xx;have e1:=Xu;have e2:=Hx;split;·omega
  ·split;·omega
   ·rename_i h1;have:=(Oc (a:=y-h) (b:=s) (n:=y) (by omega)).2 (by have:=Nat.le_mul_of_pos_left y (show 0<s by omega);omega);omega
 have k1:=u r.h1 r.c.f;have k2:=u r.h2 r.c.r;unfold ptr at*;rw[e];clear e u hm h;unfold Uo;generalize Xx r.h1 r.c.f y=V at*;generalize Xx r.h2 r.c.r y=U at*;rw[Hx]at*;have k3:max V U≤9223372036854775808:=by omega
 clear k1 k2;dsimp only[Qap]at*;generalize Zp r.l=x at*;have ac:IntKind.u64.wrap ((9223372036854775808:Int)-(x:Int))=((9223372036854775808-x:Nat):Int):=by rw[IntWalk.u64_in _ (by omega)];omega
 have R:∀n,n<9223372036854775808-x→IntKind.u64.wrap ((x:Int)+(n:Int))=((x+n:Nat):Int):=fun n h=>by rw[IntWalk.u64_in _ (by omega)];omega
 clear q hl;have k:∀(W:World),Qc Qb w W→Qh W b (Qap r x r.h1 r.h2 r.l.length) 297:=fun W c=>c.blk B.out (fun h=>h);have TL:=O k;dsimp only[Qap]at TL;clear k B;obtain⟨n,hn⟩:=Zx (max V U);rw[←hn]at k3⊢;have I:=R n;obtain⟨d,Gk⟩:=Zx (9223372036854775808-x);rw[←Gk]at ac I⊢;clear R Gk;obtain⟨z,J⟩:=Zx (if d≤n then 9223372036854775808 else x+n);rw[←J];have hq:(V<U∧n=U)∨(¬V<U∧n=V):=by omega
 have hr:(decide (d≤n)=true∧z=9223372036854775808)∨(decide (d≤n)=false∧IntKind.u64.wrap ((x:Int)+(n:Int))=(z:Int)):=by
  by_cases hc:d≤n;·exact .inl ⟨by simpa using hc,by rw[J,if_pos hc]⟩
  ·exact .inr ⟨by simpa using hc,by rw[J,if_neg hc];exact I (by omega)⟩
 clear I hx k3 hn J;rcases hq with⟨ab,rfl⟩|⟨ab,rfl⟩<;>rcases hr with⟨hd,J⟩|⟨hd,J⟩;all_goals(try subst J)
 all_goals
  go_enter func303,ntmps303;go_wp2_with fail;refine HN.out.mono ?_;rintro e w1⟨rfl,rfl⟩;go_wp2;refine Qr [] [0,1,2,3,4,6,7,8,9,10] [5,11,12,13] [] (Qw (Qb) (w)) (by kernel_rfl) (by kernel_rfl) ?_ (Qd (by(repeat' (first|(with_reducible first|exact Zg _ _|assumption|refine Zh ?_ _|refine Zi ?_ _|refine Zj ?_ |refine Zk ?_ _ ?_ |(apply Or.inl;rfl))|(apply Or.inl;simp;done)|(apply Or.inr;simp;first|done|omega))))) ?_;·exact fun _ _ _ _ _ h=>h
  simp only[pick,Zf,Ze,Zd];refine Qf ?_;iterate 10 (refine Ql (fun K hK=>?_);go_simp;refine hK _ ?_;clear hK K)
  refine Qf ?_;intro _ ae;obtain⟨xo,aa⟩:=ae;subst aa;simp only[Zn];have c3:=O (Qu Qb w xo);generalize Qw Qb w xo=w3 at c3⊢;clear E;go_wp2_with fail;refine(H1.out _).mono ?_;rintro e w4⟨rfl,d4⟩;have c4:=O (c3.out.trans' d4);clear d4;go_wp2;refine⟨Qd c4.out,?_⟩;go_wp2_with fail;refine(H2.out _).mono ?_;rintro e w5⟨rfl,d5⟩;have Z:=O (c4.out.trans' d5);clear d5;go_wp2;refine⟨Qd Z.out,?_⟩;go_wp2;refine⟨Qd Z.out,?_⟩;go_wp2;refine⟨Qd Z.out,?_⟩;obtain⟨a0,a1,a2,a3,a4,a5,a6,a7,a8⟩:=Qh9 (TL.out _ Z.out);go_wp2;go_ret;exact⟨rfl,Z.out⟩
theorem Jo.start_h1{r:Jo}(ok:Vv r.l)(x y:Nat):(r.start x y).h1=if r.l=[]then min y Jz else min (Kp r.h1 r.c.f (max (min x Qx) (Zp r.l)-Zp r.l)) (min y Jz):=by
 unfold Jo.h1 Jo.start Un;rw[if_neg (by simp)];by_cases hl:r.l=[];·rw[if_pos hl,hl,List.nil_append,Qit];omega
 ·rw[if_neg hl,if_neg hl,Qd3 ok hl (by omega)];dsimp only;omega
theorem Jo.start_h2{r:Jo}(ok:Vv r.l)(x y:Nat):(r.start x y).h2=if r.l=[]then min Jz (min y Jz+(r.c.f-r.c.r)*r.c.l)else min (Kp r.h2 r.c.r (max (min x Qx) (Zp r.l)-Zp r.l)) (min Jz (min y Jz+(r.c.f-r.c.r)*r.c.l)):=by
 unfold Jo.h2 Jo.start Un;rw[if_neg (by simp)];by_cases hl:r.l=[];·rw[if_pos hl,hl,List.nil_append,Qit]
 ·rw[if_neg hl,if_neg hl,Qd3 ok hl (by omega)]
theorem Gm.start{l:V9}(ok:Vv l)(h:Gm l)(x y:Nat):Gm (Un l x y):=by
 refine List.pairwise_append.2 ⟨h,by simp,fun j d k c=>?_⟩;obtain rfl:k=_:=by simpa using c
 exact Nat.le_trans (ok.rise j d) (Nat.le_max_right _ _)
end
end Go.Proofs.YtnnhmpehkbihnaaGreat
