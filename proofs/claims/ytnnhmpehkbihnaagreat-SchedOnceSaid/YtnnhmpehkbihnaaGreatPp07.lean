/- A part of the proof: no condition. -/
import Derived.Test.YtnnhmpehkbihnaaGreatPp06
import Derived.Laws.EntriesVeiled
namespace Go.Proofs.YtnnhmpehkbihnaaGreat
set_option linter.unusedVariables false
set_option maxRecDepth 100000
set_option maxHeartbeats 4000000
open Go.RowKit
open Go.Proofs.Tryz
def Tr.at(n:Nat)(i:Int):Tr→Tr
 | .nil=>.nil
 | .node x c l r=>if x.n=n∧x.i=i then .node x c l r else if lt n i x then l.at n i else r.at n i
theorem Qf6{n:Nat}{i:Int}:∀{t:Tr},X8 t.flat→(t.at n i=.nil↔∀e∈t.flat,¬(e.1=n∧e.2.1=i))
 | .nil,_=>by simp[Tr.at,Tr.flat]
 | .node x c l r,h=>by
  rw[Q8]at h⊢;obtain⟨sl,u,hl,hr⟩:=Oy h;rw[Tr.at];by_cases k:x.n=n∧x.i=i;·rw[if_pos k];simp only[reduceCtorEq,false_iff];intro h';exact h' (x.n,x.i,x.v) (by simp) k
  ·rw[if_neg k];cases q:lt n i x with
   |true=>
    rw[if_pos rfl,Qf6 sl];constructor
    ·intro h' e d;rcases List.mem_append.1 d with d|d;·exact h' e d
     ·rcases List.mem_cons.1 d with rfl|d;·exact k
      ·exact Qjb q (hr e d)
    ·intro h' e d;exact h' e (List.mem_append_left _ d)
   |false=>
    rw[if_neg (by simp),Qf6 u];constructor
    ·intro h' e d;rcases List.mem_append.1 d with d|d;·exact Qf2 q (hl e d)
     ·rcases List.mem_cons.1 d with rfl|d;·exact k
      ·exact h' e d
    ·intro h' e d;exact h' e (List.mem_append_right _ (List.mem_cons_of_mem _ d))
theorem Qkl{n:Nat}{i:Int}{y:Nd}{d:Bool}{a b:Tr}:∀{t:Tr},t.at n i=.node y d a b→y.n=n∧y.i=i∧(n,i,y.v)∈t.flat
 | .nil,h=>by cases h
 | .node x c l r,h=>by
  rw[Tr.at]at h;split at h;·rename_i q;injection h with h1 u k z;subst h1;refine⟨q.1,q.2,?_⟩;rw[Q8,←q.1,←q.2];simp
  ·split at h;·obtain⟨h1,u,k⟩:=Qkl h;exact⟨h1,u,by rw[Q8];exact List.mem_append_left _ k⟩
   ·obtain⟨h1,u,k⟩:=Qkl h;exact⟨h1,u,by rw[Q8];exact List.mem_append_right _ (List.mem_cons_of_mem _ k)⟩
def Tr.upto(n:Nat):Tr→Option (Nat×Int)→Option (Nat×Int)
 | .nil,s=>s
 | .node x _ l r,s=>if n<x.n then l.upto n s else r.upto n (jn (jn s l.sum) (some (x.v,x.i)))
theorem Qr5(a:Option (Nat×Int)):jn a none=a:=by cases a<;>rfl
theorem Qf7(n:Nat):∀(t:Tr)(s:Option (Nat×Int)),t.even→X8 t.flat→t.upto n s=jn s (low (t.flat.filter fun e=>decide (e.1≤n)))
 | .nil,s,_,_=>by simp[Tr.upto,Tr.flat,low,Qr5]
 | .node x c l r,s,⟨el,er,_,_⟩,h=>by
  rw[Q8]at h⊢;obtain⟨sl,q,hl,hr⟩:=Oy h;rw[Tr.upto,List.filter_append];by_cases k:n<x.n
  ·rw[if_pos k,Qf7 n l s el sl];have:((x.n,x.i,x.v)::r.flat).filter (fun e=>decide (e.1≤n))=[]:=by
    refine List.filter_eq_nil_iff.2 fun e d=>?_;simp only[decide_eq_true_eq];rcases List.mem_cons.1 d with rfl|d;·dsimp only;omega
    ·have:=hr e d;unfold klt at this;dsimp only at this;omega
   rw[this,List.append_nil]
  ·rw[if_neg k,Qf7 n r _ er q];have h1:l.flat.filter (fun e=>decide (e.1≤n))=l.flat:=by refine List.filter_eq_self.2 fun e d=>?_;simp only[decide_eq_true_eq];have:=hl e d;unfold klt at this;dsimp only at this;omega
   have u:((x.n,x.i,x.v)::r.flat).filter (fun e=>decide (e.1≤n))=[(x.n,x.i,x.v)]++r.flat.filter (fun e=>decide (e.1≤n)):=by rw[List.filter_cons,if_pos (by simpa using k)];rfl
   rw[h1,u,Qb4,Qb4,Qr4,Qb5 l el,Qf5,Qf5]
def Tr.within(v:Nat):Tr→Option (Nat×Int×Nat)
 | .nil=>none
 | .node x _ l r=>match l.sum with
  |some s=>if s.1≤v then l.within v else if x.v≤v then some (x.n,x.i,x.v)else r.within v
  |none=>if x.v≤v then some (x.n,x.i,x.v)else r.within v
theorem Qvy:∀{l:List J6},low l=none→l=[]
 |[],_=>rfl
 |e::l,h=>by rw[low]at h;cases hl:low l<;>rw[hl]at h<;>cases h
theorem Lx(v:Nat):∀(t:Tr),t.even→t.within v=t.flat.find? fun e=>decide (e.2.2≤v)
 | .nil,_=>rfl
 | .node x c l r,⟨el,er,_,_⟩=>by
  have I:=Lx v l el;have B:=Lx v r er;have hs:=Qb5 l el;rw[Tr.within,Q8,List.find?_append,List.find?_cons];cases d:l.sum with
  |none=>
   dsimp only;rw[d]at hs;rw[Qvy hs.symm,List.find?_nil,Option.none_or];by_cases k:x.v≤v;·simp[k]
   ·simp[k,B]
  |some s=>
   dsimp only;rw[d]at hs;by_cases h1:s.1≤v
   ·rw[if_pos h1,I];obtain⟨e,u,z⟩:=Qkk hs.symm;have:(l.flat.find? fun e=>decide (e.2.2≤v)).isSome=true:=by rw[List.find?_isSome];exact⟨e,u,by rw[z]at h1;simpa using h1⟩
    obtain⟨q,E⟩:=Option.isSome_iff_exists.1 this;rw[E];rfl
   ·rw[if_neg h1];have hn:(l.flat.find? fun e=>decide (e.2.2≤v))=none:=by rw[List.find?_eq_none];intro e u;have:=Qvx hs.symm e u;simp only[decide_eq_true_eq];omega
    rw[hn,Option.none_or];by_cases k:x.v≤v;·simp[k]
    ·simp[k,B]
def Jt(len:Int):Nat:=(min (max len 0) 65536).toNat*256
structure Jq where
 run:Jo
 got:Nat
 awake:Bool
 elig:Nat
 due:Nat
def Jq.new(c:Z6):Jq:=⟨.new c,0,false,0,0⟩
def Jq.wake(d:Jq)(now:Nat)(len:Int):Jq:=
 if d.awake then d else
  let r:=d.run.start now d.got
  ⟨r,d.got,true,r.elig d.got,r.reach (min (d.got+Jt len) Jz)⟩
def Jq.serve(d:Jq)(rule:Nat)(len c:Int):Jq:=
 if !d.awake then d else
  let g:=if rule=1 then min (d.got+Jt len) Jz else d.got
  ⟨d.run,g,decide (1≤c),if rule=1 then d.run.elig g else d.elig,d.run.reach (min (g+Jt c) Jz)⟩
def Jq.from_(d:Jq):Nat:=if d.awake then d.elig else Qx
def Jq.dueAt(d:Jq):Nat:=if d.awake then d.due else Qx
abbrev Yt:=Option Jo
def Yt.wake(l:Yt)(now total:Nat):Yt:=l.map fun r=>r.start now total
def Yt.fit(l:Yt)(total:Nat):Nat:=match l with
 |none=>0
 |some r=>r.reach total
structure Zq where
 id:Int
 total:Nat
 v:Nat
 run:Jo
 awake:Bool
structure Q9 where
 all:List Zq
 mark:Nat
def Q9.at(f:Q9)(id:Int):Option Zq:=f.all.find? fun m=>decide (m.id=id)
def Q9.set(f:Q9)(m:Zq):Q9:=⟨f.all.map fun x=>if x.id=m.id then m else x,f.mark⟩
def Q9.made(f:Q9)(m:Zq)(v:Nat):Q9:=⟨(f.set {m with v:=v}).all,max f.mark v⟩
def Q9.add(f:Q9)(id:Int)(c:Z6):Q9:=match f.at id with
 |some _=>f
 |none=>⟨f.all++[⟨id,0,0,.new c,false⟩],f.mark⟩
def Q9.drop(f:Q9)(id:Int):Q9:=⟨f.all.filter fun m=>!decide (m.id=id),f.mark⟩
def Q9.least(f:Q9):Nat:=(f.all.filter (·.awake)).foldl (fun n m=>min n m.v) Qx
def Q9.most(f:Q9):Nat:=(f.all.filter (·.awake)).foldl (fun n m=>max n m.v) 0
def Q9.start(f:Q9)(m:Zq):Nat:=if f.most<f.least then max m.v f.mark else max m.v (f.least+(f.most-f.least)/2)
def Q9.wake(f:Q9)(id:Int):Q9:=match f.at id with
 |none=>f
 |some m=>if m.awake then f else
  let v:=f.start m
  f.made {m with run:=m.run.start v m.total,awake:=true} v
def Q9.sleep(f:Q9)(id:Int):Q9:=match f.at id with
 |none=>f
 |some m=>f.set {m with awake:=false}
def Q9.gain(f:Q9)(id:Int)(g:Nat):Q9:=match f.at id with
 |none=>f
 |some m=>
  let m:={m with total:=m.total+min g (Jz-m.total)}
  if m.awake then f.made m (m.run.reach m.total)else f.set m
def Q9.v(f:Q9)(id:Int):Nat:=((f.at id).map (·.v)).getD 0
def Q9.up(f:Q9)(id:Int):Bool:=((f.at id).map (·.awake)).getD false
def Jc(id:Int)(l:List J6):List J6:=l.filter fun e=>!decide (e.2.1=id)
def Kg(id:Int)(key value:Nat)(l:List J6):List J6:=Vz (key,id,value) (Jc id l)
def Hz(id:Int)(l:List J6):Option J6:=l.find? fun e=>decide (e.2.1=id)
def Xb(k:Nat)(l:List J6):Option (Nat×Int):=low (l.filter fun e=>decide (e.1≤k))
def Xf(v:Nat)(l:List J6):Option J6:=l.find? fun e=>decide (e.2.2≤v)
def Ua(l:List J6):Prop:=(l.map (·.2.1)).Nodup
theorem Qmp{id:Int}{l:List J6}{e:J6}(h:Ua l)(u:e∈l)(hi:e.2.1=id):Jc id l=del e.1 id l:=by
 unfold Jc del;refine List.filter_congr fun f hf=>?_;by_cases c:f.2.1=id
 ·have:f=e:=by
   have B:=h;unfold Ua at B;clear h;induction l with
   |nil=>cases hf
   |cons a l I=>
    obtain⟨h1,E⟩:=List.nodup_cons.1 B;rcases List.mem_cons.1 hf with z|k
    ·rcases List.mem_cons.1 u with q|d;·rw[z,q]
     ·exact(h1 (List.mem_map.2 ⟨e,d,by rw[hi,←c,z]⟩)).elim
    ·rcases List.mem_cons.1 u with q|d;·exact(h1 (List.mem_map.2 ⟨f,k,by rw[c,←hi,q]⟩)).elim
     ·exact I d k E
  subst this;simp[c]
 ·simp[c]
theorem Qb6{id:Int}{l:List J6}(h:∀e∈l,e.2.1≠id):Jc id l=l:=by refine List.filter_eq_self.2 fun e c=>?_;simp only[Bool.not_eq_true',decide_eq_false_iff_not];exact h e c
theorem Ua.drop{id:Int}{l:List J6}(h:Ua l):Ua (Jc id l):=List.Pairwise.sublist (List.filter_sublist.map _) h
theorem D8(e:J6):∀l:List J6,(Vz e l).Perm (e::l)
 |[]=>.refl _
 |f::l=>by
  rw[Vz];split;·exact .refl _
  ·exact((D8 e l).cons f).trans (.swap e f l)
theorem Ua.put{id:Int}{key value:Nat}{l:List J6}(h:Ua l):Ua (Kg id key value l):=by unfold Kg Ua;refine((D8 (key,id,value) (Jc id l)).map _).nodup_iff.2 ?_;refine List.nodup_cons.2 ⟨?_,h.drop⟩;rintro c;obtain⟨e,d,hi⟩:=List.mem_map.1 c;have:=(List.mem_filter.1 d).2;simp at this;exact this hi
structure Od{X Y:Type}(ty:TypeId)(cells:X→Nat→Array Value)(pr:X→Y)(Is:World→Fp→Nat→Y→Prop)(w:World)(F:Fp)(b:Nat)(x:X):Prop where
 ex:∃p G,Qh w b (cells x p) ty∧Is w G p (pr x)∧∀k,G k→F k∧k≠b
 bd:Bd F w
 own:F b
section
variable{X Y:Type}{ty:TypeId}{cells:X→Nat→Array Value}{pr:X→Y}{Is:World→Fp→Nat→Y→Prop}{w w1 w2:World}{F:Fp}{b:Nat}{x:X}
theorem Od.obj(B:Ky Is):Ky (Od ty cells pr Is) where
 bd:=fun h=>h.bd
 own:=fun h=>h.own
 keep:=fun h hc u=>by obtain⟨p,G,h1,q,c⟩:=h.ex;exact⟨⟨p,G,hc.blk h1 (u _ h.own),B.keep q hc (u.subL fun k d=>(c k d).1),c⟩,h.bd.later hc,h.own⟩
 more:=fun h hs z=>by obtain⟨p,G,h1,q,c⟩:=h.ex;exact⟨⟨p,G,h1,q,fun k d=>⟨hs k (c k d).1,(c k d).2⟩⟩,z,hs _ h.own⟩
theorem Od.made{p:Nat}{G:Fp}{x':X}(h:Od ty cells pr Is w F b x)(u:∀k,G k→F k∧k≠b)(B:Ky Is)
  (hc:Qc G w w1)(hi:Is w1 (Qn G w w1) p (pr x'))(q:Qc (fun k=>k=b) w1 w2)(z:Qh w2 b (cells x' p) ty):Od ty cells pr Is w2 (Qn F w w2) b x'∧Qc F w w2:=by
 have Jl:=h.bd b h.own;have c:Qc F w w2:=(hc.sub fun k d=>(u k d).1).trans' (q.sub fun k d=>d▸h.own);refine⟨⟨⟨p,Qn G w w1,z,B.keep hi q ?_,?_⟩,h.bd.ext c,.inl h.own⟩,c⟩
 ·rintro k d rfl;rcases d with d|d;·exact(u _ d).2 rfl
  ·omega
 ·intro k d;rcases d with d|d;·exact⟨.inl (u k d).1,(u k d).2⟩
  ·exact⟨.inr ⟨d.1,Nat.lt_of_lt_of_le d.2 q.size⟩,by omega⟩
theorem Od.cell{p:Nat}{G:Fp}{x':X}(h:Od ty cells pr Is w F b x)(z:Is w G p (pr x'))(u:∀k,G k→F k∧k≠b)(E:Ky Is)
  (q:Qc (fun k=>k=b) w w2) (B:Qh w2 b (cells x' p) ty):Od ty cells pr Is w2 (Qn F w w2) b x'∧Qc F w w2:=by
 have c:Qc F w w2:=q.sub fun k d=>d▸h.own;exact⟨⟨⟨p,G,B,E.keep z q (fun k d e=>(u k d).2 e),fun k d=>⟨.inl (u k d).1,(u k d).2⟩⟩,h.bd.ext c,.inl h.own⟩,c⟩
theorem Od.new{p:Nat}{G:Fp}(hi:Is w2 G p (pr x))(u:∀k,G k→w.heap.size≤k)(z:Ky Is)(d:Qh w2 b (cells x p) ty)(q:w.heap.size≤b)(hn:¬G b):Od ty cells pr Is w2 (Qn Qb w w2) b x:=
 ⟨⟨p,G,d,hi,fun k c=>⟨.inr ⟨u k c,z.bd hi k c⟩,fun e=>hn (e▸c)⟩⟩,fun k c=>c.elim (fun h=>h.elim) (fun h=>h.2),.inr ⟨q,d.lt⟩⟩
theorem Ky.same{Z:Type}{d:World→Fp→Nat→Z→Prop}(c:Ky d){z:Z}(h:d w F b z)(hc:Qc Qb w w1):d w1 (Qn F w w1) b z∧Qc F w w1:=
 ⟨c.more (c.keep h hc (Je.none F)) (fun k q=>.inl q) ((c.bd h).ext (hc.none (F:=F))),hc.none⟩
theorem Ky.two{Z:Type}{k:World→Fp→Nat→Z→Prop}(u:Ky k){z:Z}(h:k w2 (Qn (Qn F w w1) w1 w2) b z)(q:Bd F w)(c:Qc F w w1)(d:Qc (Qn F w w1) w1 w2):k w2 (Qn F w w2) b z∧Qc F w w2:=
 ⟨u.more h (Qn.trans c.size d.size) (q.ext (c.ext d)),c.ext d⟩
end
section
attribute [local go_sem] Qq
def Qr6(d:Jq)(p:Nat):Array Value:=#[ptr p,.int .u64 (d.got:Int),.bool d.awake,.int .u64 (d.elig:Int),.int .u64 (d.due:Int)]
abbrev X9:World→Fp→Nat→Jq→Prop:=Od 150 Qr6 Jq.run Yx
theorem X9.obj:Ky X9:=Od.obj runP
theorem Qvz(len:Int)(w:World):Cl 161 #[.int .i64 len] w fun e w'=>e=.returned (.int .u64 (Jt len:Nat))∧w=w':=by
 have h1:IntKind.u64.wrap (min (max len 0) 65536)=(((min (max len 0) 65536).toNat:Nat):Int):=by rw[IntWalk.u64_in _ (by omega)];omega
 have d:IntKind.u64.wrap ((((min (max len 0) 65536).toNat:Nat):Int)*256)=(Jt len:Int):=by unfold Jt;rw[IntWalk.u64_in _ (by omega)];omega
 have q:=fun(c:Array TypeId)t k a b(w:World)=>Xe (P:=prog) c t k a b w;have B:=fun(c:Array TypeId)t k a b(w:World)=>Xn (P:=prog) c t k a b w;generalize Jt len=g at d⊢;generalize(min (max len 0) 65536).toNat=m at h1 d;generalize u:min (max len 0) 65536=z at h1;go_enter func161,ntmps161;go_wp2;go_ret;exact⟨rfl,rfl⟩
theorem Qf8(len:Int):Jt len≤16777216:=by unfold Jt;omega
theorem Qf9{w:World}{b p:Nat}{v1 v2 v3 v4:Value}(h:Qh w b #[ptr p,v1,v2,v3,v4] 150):Cl 88 #[ptr b] w fun e w'=>e=.returned (.bool false)∧w=w':=by have c:=h.cell 0;simp only[Zf,Ze]at c;unfold ptr at*;clear h;go_enter func88,ntmps88;go_wp2;go_ret;exact⟨rfl,rfl⟩
theorem Df{w:World}{F:Fp}{b:Nat}{d:Jq}(h:X9 w F b d):Cl 99 #[ptr b] w fun e w'=>e=.returned (.bool d.awake)∧w=w':=by obtain⟨p,G,c,_⟩:=h.ex;have k:=O (Qf9 c);obtain⟨q,a1,z,u,B⟩:=Ys c;unfold ptr at*;clear h c;go_enter func99,ntmps99;go_wp2_with fail;refine k.out.mono ?_;rintro e w1⟨rfl,rfl⟩;go_wp2;go_ret;exact⟨rfl,rfl⟩
theorem Qpp{w:World}{F:Fp}{b:Nat}{d:Jq}(h:X9 w F b d):Cl 46 #[ptr b] w fun e w'=>e=.returned (.int .u64 (d.from_:Nat))∧w=w':=by
 have c:=O (Df h);obtain⟨p,G,k,_⟩:=h.ex;obtain⟨q,a1,z,u,B⟩:=Ys k;unfold ptr Jq.from_ at*;clear h k;cases ha:d.awake;all_goals
  rw[ha]at c;clear ha;go_enter func46,ntmps46;go_wp2_with fail;refine c.out.mono ?_;rintro e w1⟨rfl,rfl⟩;go_wp2;go_ret;exact⟨rfl,rfl⟩
theorem Qjd{w:World}{F:Fp}{b:Nat}{d:Jq}(h:X9 w F b d):Cl 47 #[ptr b] w fun e w'=>e=.returned (.int .u64 (d.dueAt:Nat))∧w=w':=by
 have c:=O (Df h);obtain⟨p,G,k,_⟩:=h.ex;obtain⟨q,a1,z,u,B⟩:=Ys k;unfold ptr Jq.dueAt at*;clear h k;cases ha:d.awake;all_goals
  rw[ha]at c;clear ha;go_enter func47,ntmps47;go_wp2_with fail;refine c.out.mono ?_;rintro e w1⟨rfl,rfl⟩;go_wp2;go_ret;exact⟨rfl,rfl⟩
theorem Qje{w:World}{G:Fp}{b p g:Nat}{r:Jo}{v2 v3 v4:Value}(len:Int)(B:Qh w b #[ptr p,.int .u64 (g:Int),v2,v3,v4] 150)(R:Yx w G p r)(hn:r.l.length<549755813888)(Z:g≤Jz):
  Cl 191 #[ptr b,.int .i64 len] w fun e w'=>e=.returned (.tuple #[])∧Qh w' b #[ptr p,.int .u64 (g:Int),v2,.int .u64 (r.elig g:Nat),v4] 150∧Qc (fun k=>k=b) w w':=by
 have I:=O (fun w'(hc:Qc Qb w w')=>Qpm (runP.keep R hc (Je.none G)) (by omega) g (by have:=Xu;omega));have J:=O B;generalize r.elig g=x at I⊢;have E1:=fun x=>Ys (Qk (S:=Qb) J.out (fun h=>h) x);unfold ptr at*;clear B R hn Z;go_enter func191,ntmps191;go_wp2_with fail;refine Qr [] [0,1,2,3,4,5,6,7,8,9] [10] [11,12,13] (Qw (Qb) (w)) (by kernel_rfl) (by kernel_rfl) ?_ (Qd (by(repeat' (first|(with_reducible first|exact Zg _ _|assumption|refine Zh ?_ _|refine Zi ?_ _|refine Zj ?_ |refine Zk ?_ _ ?_ |(apply Or.inl;rfl))|(apply Or.inl;simp;done)|(apply Or.inr;simp;first|done|omega))))) ?_;·exact fun _ _ _ _ _ h=>h
 simp only[pick,Zf,Ze,Zd];refine Qf ?_;iterate 10 (refine Ql (fun K V=>?_);go_simp;refine V _ ?_;clear V K)
 refine Qf ?_;intro _ z;obtain⟨E,c⟩:=z;subst c;simp only[Zn];have u:=O (Qu Qb w E);generalize Qw Qb w E=w1 at u⊢;clear E1;go_wp2_with fail;refine(I.out _ u.out).mono ?_;rintro e w2⟨rfl,U⟩;have d:=O (u.out.trans' U);clear U;go_wp2;refine⟨Qd d.out,?_⟩;have q:=O (d.out.blk J.out (fun h=>h));obtain⟨a0,a1,a2,a3,a4⟩:=Ys q.out;have f2:=q.out.frozen;go_wp2;refine bodyPost_end (by simp[*,results,Tryz.results191,go_sem]) rfl ⟨rfl,q.out.set' 3 _ rfl,d.out.none.setCell (a:=⟨b,3,none⟩) _ (.inl rfl)⟩
theorem Qc7{w:World}{G:Fp}{b p g:Nat}{r:Jo}{v2 v3 v4:Value}(len:Int)(V:Qh w b #[ptr p,.int .u64 (g:Int),v2,v3,v4] 150)(hR:Yx w G p r)(hn:r.l.length<549755813888)(hg:g≤Jz):
  Cl 193 #[ptr b,.int .i64 len] w fun e w'=>e=.returned (.tuple #[])∧Qh w' b #[ptr p,.int .u64 (g:Int),v2,v3,.int .u64 (r.reach (min (g+Jt len) Jz):Nat)] 150∧Qc (fun k=>k=b) w w':=by
 have B:=Xu;have U:=Qf8 len;have J:=O (fun w'(hc:Qc Qb w w')=>Lw (runP.keep hR hc (Je.none G)) (by omega) (min (g+Jt len) Jz) (by omega));have HG:=O (fun w=>Qvz len w);have HB:=O V;have hs:IntKind.u64.wrap ((g:Int)+(Jt len:Int))=((g+Jt len:Nat):Int):=by rw[IntWalk.u64_in _ (by omega)];omega
 have d:min ((g+Jt len:Nat):Int) 4611686018427387904=((min (g+Jt len) Jz:Nat):Int):=by omega
 generalize r.reach (min (g+Jt len) Jz)=x at J⊢;generalize min (g+Jt len) Jz=y at J d;generalize g+Jt len=z at hs d;generalize Jt len=u at HG hs;have hm:=fun(ts:Array TypeId)t k a b(w:World)=>Xe (P:=prog) ts t k a b w;have E1:=fun x=>Ys (Qk (S:=Qb) HB.out (fun h=>h) x);unfold ptr at*;clear V hR hn hg B U;go_enter func193,ntmps193;go_wp2_with fail;refine Qr [] [0,1,2,3,4,5,6,7,8,9,10] [11,12,13,14] [15,16,17] (Qw (Qb) (w)) (by kernel_rfl) (by kernel_rfl) ?_ (Qd (by(repeat' (first|(with_reducible first|exact Zg _ _|assumption|refine Zh ?_ _|refine Zi ?_ _|refine Zj ?_ |refine Zk ?_ _ ?_ |(apply Or.inl;rfl))|(apply Or.inl;simp;done)|(apply Or.inr;simp;first|done|omega))))) ?_;·exact fun _ _ _ _ _ h=>h
 simp only[pick,Zf,Ze,Zd];refine Qf ?_;iterate 11 (refine Ql (fun K hK=>?_);go_simp;refine hK _ ?_;clear hK K)
 refine Qf ?_;intro _ R;obtain⟨Z,q⟩:=R;subst q;simp only[Zn];have c:=O (Qu Qb w Z);generalize Qw Qb w Z=w1 at c⊢;clear E1;go_wp2_with fail;refine(HG.out _).mono ?_;rintro e w2⟨rfl,rfl⟩;go_wp2;refine⟨Qd c.out,?_⟩;go_wp2;refine⟨Qd c.out,?_⟩;go_wp2;refine⟨Qd c.out,?_⟩;go_wp2_with fail;refine(J.out _ c.out).mono ?_;rintro e w2⟨rfl,d2⟩;have E:=O (c.out.trans' d2);clear d2;go_wp2;refine⟨Qd E.out,?_⟩;have I:=O (E.out.blk HB.out (fun h=>h));obtain⟨a0,a1,a2,a3,a4⟩:=Ys I.out;have f2:=I.out.frozen;go_wp2;refine bodyPost_end (by simp[*,results,Tryz.results193,go_sem]) rfl ⟨rfl,I.out.set' 4 _ rfl,E.out.none.setCell (a:=⟨b,4,none⟩) _ (.inl rfl)⟩
theorem Oe(r:Jo)(x y:Nat):(r.start x y).l.length=r.l.length+1:=by simp[Jo.start,Un]
def Qr7:Value:=.agg #[.func (.func 191) #[] #[],.func (.func 193) #[] #[]]
theorem Qmq(w:World):Cl 133 #[] w fun e w'=>e=.returned Qr7∧Qc Qb w w':=by
 unfold Qr7;have c:Hid (∀w',w'=w.alloc (.cells #[.func (.func 191) #[] #[],.func (.func 193) #[] #[]] 177)→Qc Qb w w'∧Qh w' w.heap.size #[.func (.func 191) #[] #[],.func (.func 193) #[] #[]] 177):=O (by
  rintro w' rfl;exact⟨(Qc.refl _ _).alloc _,Qh.new _ _ _⟩)
 go_enter func133,ntmps133;go_wp2;obtain⟨W,hW⟩:=Zx (w.alloc (.cells #[.func (.func 191) #[] #[],.func (.func 193) #[] #[]] 177));rw[←hW];obtain⟨d,k⟩:=c.out W hW;obtain⟨q,e1⟩:=Qz k;refine bodyPost_ret (v:=.agg #[.func (.func 191) #[] #[],.func (.func 193) #[] #[]]) ?_ rfl ⟨rfl,d⟩;clear d k hW;simp[*,results,Tryz.results133,go_sem]
theorem Qpq{w:World}{F:Fp}{b:Nat}{d:Jq}(h:X9 w F b d)(hn:d.run.l.length+1<549755813888)(hg:d.got≤Jz)(now:Nat)(hw:now<18446744073709551616)(len:Int):
  Cl 74 #[ptr b,.int .u64 (now:Int),.int .i64 len] w fun e w'=>e=.returned (.tuple #[])∧X9 w' (Qn F w w') b (d.wake now len)∧Qc F w w':=by
 have H:=O h;obtain⟨p,G,E,hR,hG⟩:=h.ex;have HN:=O (Qf9 E);have ah:=O (runP.bd hR);have B:=Xu;cases ha:d.awake with
 |true=>
  have e:d.wake now len=d:=by unfold Jq.wake;rw[if_pos ha]
  have I:=O (fun w'(hc:Qc Qb w w')=>X9.obj.same H.out hc);rw[e];have a2:=E.cell 2;simp only[Qr6,Zf,Ze,Zd]at a2;rw[ha]at a2;unfold ptr at*;clear h E hR ha e B hn hg;go_enter func74,ntmps74;go_wp2_with fail;refine HN.out.mono ?_;rintro e w1⟨rfl,rfl⟩;go_wp2;refine bodyPost_ret (v:=.tuple #[]) (by simp[results,Tryz.results74,go_sem]) rfl ⟨rfl,I.out _ (Qc.refl _ _)⟩
 |false=>
  have HW:Hid (d.wake now len=⟨d.run.start now d.got,d.got,true,(d.run.start now d.got).elig d.got,(d.run.start now d.got).reach (min (d.got+Jt len) Jz)⟩):=O (by unfold Jq.wake;rw[if_neg (by rw[ha];exact Bool.false_ne_true)]);have HS:=O (fun w'(hc:Qc Qb w w')=>Lv (runP.keep hR hc (Je.none G)) (by omega) now d.got hw (by omega));have Z:Hid ((d.run.start now d.got).l.length<549755813888):=O (by rw[Oe];exact hn);have HB:Hid (Qh w b #[ptr p,.int .u64 (d.got:Int),.bool false,.int .u64 (d.elig:Int),.int .u64 (d.due:Int)] 150):=O (by unfold Qr6 at E;rw[ha]at E;exact E);have J:=O hG;have U:=O hg;obtain⟨g,ag⟩:=Zx (d.got);rw[←ag]at HW HS Z HB U;obtain⟨a0,a1,a2,a3,a4⟩:=Ys HB.out;unfold ptr at*;clear h E hR ha B hn hg hG ag;go_enter func74,ntmps74;go_wp2_with fail;refine HN.out.mono ?_;rintro e w1⟨rfl,rfl⟩;go_wp2_with fail;clear a0 a1 a2 a3 a4;have E1:=fun x=>Ys (Qk (S:=Qb) HB.out (fun h=>h) x);refine Qr [] [0,1,2,3,4,5,6,7,8,9] [] [10] (Qw (Qb) (w)) (by kernel_rfl) (by kernel_rfl) ?_ (Qd (by(repeat' (first|(with_reducible first|exact Zg _ _|assumption|refine Zh ?_ _|refine Zi ?_ _|refine Zj ?_ |refine Zk ?_ _ ?_ |(apply Or.inl;rfl))|(apply Or.inl;simp;done)|(apply Or.inr;simp;first|done|omega))))) ?_;·exact fun _ _ _ _ _ h=>h
  simp only[pick,Zf,Ze,Zd];refine Qf ?_;iterate 10 (refine Ql (fun K hK=>?_);go_simp;refine hK _ ?_;clear hK K)
  refine Qf ?_;intro _ ai;obtain⟨xo,ac⟩:=ai;subst ac;simp only[Zn];have V:=O (Qu Qb w xo);generalize Qw Qb w xo=w1 at V⊢;clear E1;go_wp2_with fail;refine(HS.out _ V.out).mono ?_;rintro e w2⟨rfl,ae,c2⟩;have af:¬G b:=fun h=>(J.out _ h).2 rfl;have B2:=O (c2.blk (V.out.blk HB.out (fun h=>h)) af);have C2:=O c2;have R2:=O ae;obtain⟨a0,a1,a2,a3,a4⟩:=Ys B2.out;have f2:=B2.out.frozen;clear c2 ae af HS;go_upto_region 3 with fail;obtain⟨w3,q⟩:=Zx (w2.setCell ⟨b,2,none⟩ (.bool true));have C3:Hid (Qc (fun k=>k=b) w2 w3):=O (by rw[q];exact(Qc.refl _ _).setCell (a:=⟨b,2,none⟩) _ (.inl rfl));have B3:Hid (Qh w3 b #[.pointer (some ⟨p,0,none⟩),.int .u64 (g:Int),.bool true,.int .u64 (d.elig:Int),.int .u64 (d.due:Int)] 150):=O (by rw[q];exact B2.out.set' 2 _ rfl);have z:Je (Qn G w1 w2) (fun k=>k=b):=by
   rintro k u rfl;rcases u with u|u;·exact(J.out _ u).2 rfl
   ·have:=H.out.bd k H.out.own;have:=V.out.size;omega
  have HD:=O z;rw[←q];have HA:=O (Qmq w3);unfold Qr7 at HA;clear q z a0 a1 a2 a3 a4 f2;go_wp2_with fail;refine HA.out.mono ?_;rintro e w4⟨rfl,c4⟩;obtain⟨s,hs⟩:=Zx (w4.heap.size);obtain⟨w5,c⟩:=Zx (w4.alloc (.cells #[.func (.func 191) #[] #[],.func (.func 193) #[] #[]] 177));have C5:Hid (Qc Qb w3 w5):=O (by rw[c];exact c4.alloc _);have S5:Hid (Qh w5 s #[.func (.func 191) #[] #[],.func (.func 193) #[] #[]] 177):=O (by rw[c,hs];exact Qh.new _ _ _);have aa:s≠b:=by have:=B3.out.lt;have:=c4.size;omega
  have aj:=O aa;have A1:=O (Qje len (C5.out.blk B3.out (fun h=>h)) (runP.keep (runP.keep R2.out C3.out HD.out) C5.out (Je.none _)) Z.out U.out);obtain⟨s0,s1⟩:=Qz (show Qh (w4.alloc (.cells #[.func (.func 191) #[] #[],.func (.func 193) #[] #[]] 177)) s _ _ from c▸S5.out);unfold ptr at A1;clear c4 aa;go_wp2_with fail;rw[←hs,←c];refine A1.out.mono ?_;rintro e w6⟨rfl,R,c6⟩;have B6:=O R;have C6:=O c6;have S6:=O (c6.blk S5.out aj.out);have A2:=O (Qc7 len R (runP.keep (runP.keep (runP.keep R2.out C3.out HD.out) C5.out (Je.none _)) c6 HD.out) Z.out U.out);obtain⟨t0,t1⟩:=Qz S6.out;unfold ptr at A2;clear R c6 s0 s1 hs c A1;go_wp2_with fail;refine A2.out.mono ?_;rintro e w7⟨rfl,ab,c7⟩;have I:Hid (X9 w7 (Qn F w w7) b (d.wake now len)∧Qc F w w7):=O (by
   rw[HW.out];refine H.out.made (w1:=w2) (p:=p) (G:=G) J.out runP (V.out.none.trans' C2.out) ?_ (((C3.out.trans' C5.out.none).trans' C6.out).trans' c7) ab;exact runP.more R2.out (fun k u=>u.elim .inl (fun u=>.inr ⟨Nat.le_trans V.out.size u.1,u.2⟩)) (ah.out.ext (V.out.none.trans' C2.out)))
  clear ab c7 t0 t1;go_wp2;refine bodyPost_end (by simp[*,results,Tryz.results74,go_sem]) rfl ⟨rfl,I.out⟩
theorem Qmr{w:World}{F:Fp}{b:Nat}{d:Jq}(h:X9 w F b d)(hn:d.run.l.length<549755813888)(hg:d.got≤Jz)(rule:Nat)(len c:Int):
  Cl 97 #[ptr b,.int .u8 (rule:Int),.int .i64 len,.int .i64 c] w fun e w'=>e=.returned (.tuple #[])∧X9 w' (Qn F w w') b (d.serve rule len c)∧Qc F w w':=by
 have H:=O h;have E:=O (Df h);obtain⟨p,G,hB,hR,hG⟩:=h.ex;have ab:=Xu;cases ha:d.awake with
 |false=>
  rw[ha]at E;have e:d.serve rule len c=d:=by unfold Jq.serve;rw[if_pos (by rw[ha];rfl)]
  have R:=O (fun w'(hc:Qc Qb w w')=>X9.obj.same H.out hc);rw[e];unfold ptr at*;clear h hB hR ha e ab hn hg;go_enter func97,ntmps97;go_wp2_with fail;refine E.out.mono ?_;rintro e w1⟨rfl,rfl⟩;go_wp2;refine bodyPost_ret (v:=.tuple #[]) (by simp[results,Tryz.results97,go_sem]) rfl ⟨rfl,R.out _ (Qc.refl _ _)⟩
 |true=>
  rw[ha]at E;have HR:=O (fun w'(hc:Qc Qb w w')=>runP.keep hR hc (Je.none G));have ak:=O hR;have ac:=O hn;have HB:Hid (Qh w b #[ptr p,.int .u64 (d.got:Int),.bool true,.int .u64 (d.elig:Int),.int .u64 (d.due:Int)] 150):=O (by unfold Qr6 at hB;rw[ha]at hB;exact hB);have ai:=O hG;have al:=O hg;have aq:=Qf8 len;obtain⟨g,V⟩:=Zx (d.got);rw[←V]at HB al;have HG:=O (fun w=>Qvz len w);have HD:Hid (Je G (fun k=>k=b)):=O (fun k hk e=>(hG k hk).2 e);have HA:=O (Qmq w);unfold Qr7 at HA;obtain⟨I,ag⟩:=Zx (min (g+Jt len) Jz);have aa:Hid (I≤Jz):=O (by omega);have hs:IntKind.u64.wrap ((g:Int)+(Jt len:Int))=((g+Jt len:Nat):Int):=by rw[V,IntWalk.u64_in _ (by omega)];omega
  have an:min ((g+Jt len:Nat):Int) 4611686018427387904=(I:Int):=by omega
  have B:Hid (d.serve rule len c=⟨d.run,if rule=1 then I else g,decide (1≤c),if rule=1 then d.run.elig (if rule=1 then I else g)else d.elig,d.run.reach (min ((if rule=1 then I else g)+Jt c) Jz)⟩):=O (by unfold Jq.serve;rw[if_neg (by rw[ha];simp),ag,V]);generalize g+Jt len=z at hs an;generalize Jt len=u at HG hs;have hm:=fun(ts:Array TypeId)t k a b(w:World)=>Xe (P:=prog) ts t k a b w;unfold ptr at*;clear h hB hR ha ab hn hg hG V aq ag;go_enter func97,ntmps97;go_wp2_with fail;refine E.out.mono ?_;rintro e w1⟨rfl,rfl⟩;go_wp2_with fail;refine HA.out.mono ?_;rintro e w4⟨rfl,c4⟩;obtain⟨s,ae⟩:=Zx (w4.heap.size);obtain⟨w5,U⟩:=Zx (w4.alloc (.cells #[.func (.func 191) #[] #[],.func (.func 193) #[] #[]] 177));have C0:Hid (Qc Qb w w5):=O (by rw[U];exact c4.alloc _);have S5:Hid (Qh w5 s #[.func (.func 191) #[] #[],.func (.func 193) #[] #[]] 177):=O (by rw[U,ae];exact Qh.new _ _ _);have af:s≠b:=by have:=HB.out.lt;have:=c4.size;omega
  have am:=O af;have B5:=O (C0.out.blk HB.out (fun h=>h));clear c4 af E HA;go_upto_region 2 with fail;rw[←ae,←U];clear ae U;by_cases hr:rule=1
  ·subst hr;rw[if_pos rfl,if_pos rfl]at B;have HW:=B;clear B;have E1:=fun x=>Ys (Qk (S:=Qb) B5.out (fun h=>h) x);go_wp2_with fail;refine Qr [] [0,1,2,3,4,5] [6,7,8] [9,10,11] (Qw (Qb) (w5)) (by kernel_rfl) (by kernel_rfl) ?_ (Qd (by(repeat' (first|(with_reducible first|exact Zg _ _|assumption|refine Zh ?_ _|refine Zi ?_ _|refine Zj ?_ |refine Zk ?_ _ ?_ |(apply Or.inl;rfl))|(apply Or.inl;simp;done)|(apply Or.inr;simp;first|done|omega))))) ?_;·exact fun _ _ _ _ _ h=>h
   simp only[pick,Zf,Ze,Zd];refine Qf ?_;iterate 6 (refine Ql (fun K hK=>?_);go_simp;refine hK _ ?_;clear hK K)
   refine Qf ?_;intro _ ap;obtain⟨xo,aj⟩:=ap;subst aj;simp only[Zn];have c1:=O (Qu Qb w5 xo);generalize Qw Qb w5 xo=w6 at c1⊢;clear E1;go_wp2_with fail;refine(HG.out _).mono ?_;rintro e Z⟨rfl,rfl⟩;go_wp2;refine⟨Qd c1.out,?_⟩;go_wp2;refine⟨Qd c1.out,?_⟩;go_wp2;refine⟨Qd c1.out,?_⟩;have B6:=O (c1.out.blk B5.out (fun h=>h));have f6:=B6.out.frozen;obtain⟨a0,a1,a2,a3,a4⟩:=Ys B6.out;obtain⟨w8,J⟩:=Zx (w6.setCell ⟨b,1,none⟩ (.int .u64 (I:Int)));have C8:Hid (Qc (fun k=>k=b) w5 w8):=O (by rw[J];exact c1.out.none.setCell (a:=⟨b,1,none⟩) _ (.inl rfl));have B8:Hid (Qh w8 b #[.pointer (some ⟨p,0,none⟩),.int .u64 (I:Int),.bool true,.int .u64 (d.elig:Int),.int .u64 (d.due:Int)] 150):=O (by rw[J];exact B6.out.set' 1 _ rfl);have S8:=O (C8.out.blk S5.out am.out);have A1:=O (Qje c B8.out (runP.keep (HR.out _ C0.out) C8.out HD.out) ac.out aa.out);obtain⟨s0,s1⟩:=Qz (show Qh (w6.setCell ⟨b,1,none⟩ (.int .u64 (I:Int))) s _ _ from J▸S8.out);unfold ptr at A1;go_wp2_with fail;rw[←J];refine A1.out.mono ?_;rintro e w9⟨rfl,ah,c9⟩;have B9:=O ah;have C9:=O (C8.out.trans' c9);have S6:=O (c9.blk S8.out am.out);clear ah c9 s0 s1 J A1 a0 a1 a2 a3 a4 f6;have A2:=O (Qc7 c B9.out (runP.keep (HR.out _ C0.out) C9.out HD.out) ac.out aa.out);obtain⟨t0,t1⟩:=Qz S6.out;unfold ptr at A2;go_wp2_with fail;refine A2.out.mono ?_;rintro e Z⟨rfl,q,c7⟩;have B7:=O q;obtain⟨a0,a1,a2,a3,a4⟩:=Ys q;have f7:=q.frozen;have R:Hid (X9 (Z.setCell ⟨b,2,none⟩ (.bool (decide (1≤c)))) (Qn F w (Z.setCell ⟨b,2,none⟩ (.bool (decide (1≤c))))) b (d.serve 1 len c)∧Qc F w (Z.setCell ⟨b,2,none⟩ (.bool (decide (1≤c))))):=O (by
    rw[HW.out];exact H.out.cell (p:=p) (G:=G) (x':=⟨d.run,I,decide (1≤c),d.run.elig I,d.run.reach (min (I+Jt c) Jz)⟩) ak.out ai.out runP ((((C0.out.none.trans' C9.out).trans' c7).setCell (a:=⟨b,2,none⟩) _ (.inl rfl))) (q.set' 2 _ rfl))
   have ao:decide (c≥1)=decide (1≤c):=rfl;clear q c7 t0 t1;go_wp2;refine bodyPost_end (by simp[*,results,Tryz.results97,go_sem]) rfl ⟨rfl,R.out⟩
  ·rw[if_neg hr,if_neg hr]at B;have HW:=B;clear B;have ar:((rule:Int)==1)=false:=by simp;omega
   have S6:=S5;have C9:Hid (Qc (fun k=>k=b) w5 w5):=O (Qc.refl _ _);obtain⟨s0,s1⟩:=Qz S5.out;clear hr;have A2:=O (Qc7 c B5.out (runP.keep (HR.out _ C0.out) C9.out HD.out) ac.out al.out);obtain⟨t0,t1⟩:=Qz S6.out;unfold ptr at A2;go_wp2_with fail;refine A2.out.mono ?_;rintro e Z⟨rfl,q,c7⟩;have B7:=O q;obtain⟨a0,a1,a2,a3,a4⟩:=Ys q;have f7:=q.frozen;have R:Hid (X9 (Z.setCell ⟨b,2,none⟩ (.bool (decide (1≤c)))) (Qn F w (Z.setCell ⟨b,2,none⟩ (.bool (decide (1≤c))))) b (d.serve rule len c)∧Qc F w (Z.setCell ⟨b,2,none⟩ (.bool (decide (1≤c))))):=O (by
    rw[HW.out];exact H.out.cell (p:=p) (G:=G) (x':=⟨d.run,g,decide (1≤c),d.elig,d.run.reach (min (g+Jt c) Jz)⟩) ak.out ai.out runP ((((C0.out.none.trans' C9.out).trans' c7).setCell (a:=⟨b,2,none⟩) _ (.inl rfl))) (q.set' 2 _ rfl))
   have ao:decide (c≥1)=decide (1≤c):=rfl;clear q c7 t0 t1;go_wp2;refine bodyPost_end (by simp[*,results,Tryz.results97,go_sem]) rfl ⟨rfl,R.out⟩
end
section
attribute [local go_sem] Qq
def O0:Value:=.func (.func 177) #[] #[]
def Vw:Value:=.func (.func 178) #[] #[]
def Xi(n:Nat)(i:Int):Value:=.agg #[.int .u64 (n:Int),.int .i64 i]
def Tr.ptrV:Tr→Value
 | .nil=>.pointer none
 | .node x _ _ _=>.pointer (some ⟨x.a,0,none⟩)
def ndC(x:Nd)(c:Bool)(p q:Value):Array Value:=#[.int .u64 (x.n:Int),.int .i64 x.i,.int .u64 (x.v:Int),.int .u64 (x.sv:Int),.int .i64 x.si,.bool c,p,q]
def Qms(w:World)(b:Nat):Prop:=∃(p:Value)(n:Int),Qh w b #[O0,Vw,p,.int .i64 n] 254
def Jk(w:World):Tr→Prop
 | .nil=>True
 | .node x c l r=>Qh w x.a (ndC x c l.ptrV r.ptrV) 258∧Jk w l∧Jk w r
structure Yj(w:World)(b:Nat)(t:Tr):Prop where
 top:Qms w b
 nd:(b::t.addrs).Nodup
 at':Jk w t
theorem Jk.keep{w w':World}{S:Fp}(hc:Qc S w w'):∀(t:Tr),Jk w t→(∀a∈t.addrs,¬S a)→Jk w' t
 | .nil,_,_=>trivial
 | .node x c l r,⟨h1,h2,h3⟩,hS=>⟨hc.blk h1 (hS x.a (by simp[Tr.addrs])),Jk.keep hc l h2 (fun a ha=>hS a (by simp[Tr.addrs,ha])),Jk.keep hc r h3 (fun a ha=>hS a (by simp[Tr.addrs,ha]))⟩
theorem Jk.lt{w:World}:∀(t:Tr),Jk w t→∀a∈t.addrs,a<w.heap.size
 | .nil,_,a,h=>by simp[Tr.addrs]at h
 | .node x c l r,⟨h1,h2,h3⟩,a,h=>by
  simp only[Tr.addrs,List.mem_append,List.mem_cons]at h;rcases h with h|rfl|h;·exact Jk.lt l h2 a h
  ·exact h1.lt
  ·exact Jk.lt r h3 a h
theorem Qms.keep{w w':World}{S:Fp}{b:Nat}(h:Qms w b)(hc:Qc S w w')(c:¬S b):Qms w' b:=by obtain⟨p,n,h⟩:=h;exact⟨p,n,hc.blk h c⟩
theorem Yj.keep{w w':World}{S:Fp}{b:Nat}{t:Tr}(h:Yj w b t)(hc:Qc S w w')(c:∀a∈b::t.addrs,¬S a):Yj w' b t:=
 ⟨h.top.keep hc (c b (List.mem_cons_self)),h.nd,Jk.keep hc t h.at' fun a ha=>c a (List.mem_cons_of_mem _ ha)⟩
theorem E6(n:Nat)(i:Int)(v:Nat)(w:World):Cl 177 #[Xi n i,.int .u64 (v:Int)] w fun e w'=>e=.returned (.agg #[.int .u64 (v:Int),.int .i64 i])∧Qc Qb w w':=by
 unfold Xi;go_enter func177,ntmps177;go_wp2;refine bodyPost_ret (v:=.agg #[.int .u64 (v:Int),.int .i64 i]) ?_ rfl ⟨rfl,?_⟩;·simp[*,results,Tryz.results177,go_sem]
 ·(repeat' (first|(with_reducible first|exact Zg _ _|assumption|refine Zh ?_ _|refine Zi ?_ _|refine Zj ?_ |refine Zk ?_ _ ?_ |(apply Or.inl;rfl))|(apply Or.inl;simp;done)|(apply Or.inr;simp;first|done|omega)))
theorem Qkm:prog.eqGuardType prog.depth 201=false:=by kernel_rfl
theorem Qpr:prog.stoodInHeld 201=false:=by kernel_rfl
section
attribute [local go_sem] Qkm Qpr
theorem Qkn(a b c d:Int)(w:World):(binOp .eql 201 (.agg #[.int .u64 a,.int .i64 b]) (.agg #[.int .u64 c,.int .i64 d])).run prog w=.ok (.bool ((a==c)&&(b==d))) w:=by
 by_cases h:a=c
 ·by_cases k:b=d;·subst h k;go_simp
  ·subst h;have e:(a==a&&b==d)=false:=by simpa using k
   rw[e];go_simp;try simp[k]
 ·have e:(a==c&&b==d)=false:=by simp[h]
  rw[e];go_simp;try simp[h]
end
attribute [local go_sem ↓] Qkn
theorem Qps(a b:Nat×Int):(a=b∧Jp a b=a)∨(a≠b∧a.1<b.1∧Jp a b=a)∨(a≠b∧a.1=b.1∧a.2<b.2∧Jp a b=a)∨(a.1=b.1∧b.2<a.2∧Jp a b=b)∨(b.1<a.1∧Jp a b=b):=by
 obtain⟨a1,d⟩:=a;obtain⟨b1,b2⟩:=b;unfold Jp;by_cases h:(a1,d)=(b1,b2);·exact .inl ⟨h,if_pos (.inl h)⟩
 ·by_cases h1:a1<b1;·exact .inr (.inl ⟨h,h1,if_pos (.inr (.inl h1))⟩)
  ·by_cases c:a1=b1
   ·by_cases k:d<b2;·exact .inr (.inr (.inl ⟨h,c,k,if_pos (.inr (.inr ⟨c,k⟩))⟩))
    ·refine .inr (.inr (.inr (.inl ⟨c,?_,if_neg (by simp only[not_or];exact⟨h,h1,fun h=>k h.2⟩)⟩)));have:d≠b2:=fun e=>h (by rw[c,e]);dsimp only;omega
   ·exact .inr (.inr (.inr (.inr ⟨by dsimp only;omega,if_neg (by simp only[not_or];exact⟨h,h1,fun h=>c h.1⟩)⟩)))
theorem Qga(a b:Nat×Int)(w:World):Cl 178 #[.agg #[.int .u64 (a.1:Int),.int .i64 a.2],.agg #[.int .u64 (b.1:Int),.int .i64 b.2]] w fun e w'=>e=.returned (.agg #[.int .u64 ((Jp a b).1:Int),.int .i64 (Jp a b).2])∧Qc Qb w w':=by
 rcases Qps a b with⟨h,e⟩|⟨h,h1,e⟩|⟨h,h1,d,e⟩|⟨h1,d,e⟩|⟨h1,e⟩;all_goals
  rw[e];clear e;obtain⟨a1,c⟩:=a;obtain⟨b1,b2⟩:=b;dsimp only at*
 ·obtain⟨rfl,rfl⟩:a1=b1∧c=b2:=by simpa using h
  have k:((a1:Int)==(a1:Int))=true:=by simp
  have u:(c==c)=true:=by simp
  clear h;generalize(a1:Int)=x at*;go_enter func178,ntmps178;go_wp2;refine bodyPost_ret (v:=.agg #[.int .u64 x,.int .i64 c]) ?_ rfl ⟨rfl,?_⟩;·simp[*,results,Tryz.results178,go_sem]
  ·(repeat' (first|(with_reducible first|exact Zg _ _|assumption|refine Zh ?_ _|refine Zi ?_ _|refine Zj ?_ |refine Zk ?_ _ ?_ |(apply Or.inl;rfl))|(apply Or.inl;simp;done)|(apply Or.inr;simp;first|done|omega)))
 ·have k:((a1:Int)==(b1:Int))=false:=by simp;omega
  have q:decide ((a1:Int)<(b1:Int))=true:=by simp;omega
  clear h h1;generalize(a1:Int)=x at*;generalize(b1:Int)=y at*;go_enter func178,ntmps178;go_wp2;refine bodyPost_ret (v:=.agg #[.int .u64 x,.int .i64 c]) ?_ rfl ⟨rfl,?_⟩;·simp[*,results,Tryz.results178,go_sem]
  ·(repeat' (first|(with_reducible first|exact Zg _ _|assumption|refine Zh ?_ _|refine Zi ?_ _|refine Zj ?_ |refine Zk ?_ _ ?_ |(apply Or.inl;rfl))|(apply Or.inl;simp;done)|(apply Or.inr;simp;first|done|omega)))
 ·subst h1;have k:((a1:Int)==(a1:Int))=true:=by simp
  have u:(c==b2)=false:=by simp;omega
  have q:decide ((a1:Int)<(a1:Int))=false:=by simp
  have z:decide (c<b2)=true:=by simpa using d
  clear h d;generalize(a1:Int)=x at*;go_enter func178,ntmps178;go_wp2;refine bodyPost_ret (v:=.agg #[.int .u64 x,.int .i64 c]) ?_ rfl ⟨rfl,?_⟩;·simp[*,results,Tryz.results178,go_sem]
  ·(repeat' (first|(with_reducible first|exact Zg _ _|assumption|refine Zh ?_ _|refine Zi ?_ _|refine Zj ?_ |refine Zk ?_ _ ?_ |(apply Or.inl;rfl))|(apply Or.inl;simp;done)|(apply Or.inr;simp;first|done|omega)))
 ·subst h1;have k:((a1:Int)==(a1:Int))=true:=by simp
  have u:(c==b2)=false:=by simp;omega
  have q:decide ((a1:Int)<(a1:Int))=false:=by simp
  have z:decide (c<b2)=false:=by simp;omega
  clear d;generalize(a1:Int)=x at*;go_enter func178,ntmps178;go_wp2;refine bodyPost_ret (v:=.agg #[.int .u64 x,.int .i64 b2]) ?_ rfl ⟨rfl,?_⟩;·simp[*,results,Tryz.results178,go_sem]
  ·(repeat' (first|(with_reducible first|exact Zg _ _|assumption|refine Zh ?_ _|refine Zi ?_ _|refine Zj ?_ |refine Zk ?_ _ ?_ |(apply Or.inl;rfl))|(apply Or.inl;simp;done)|(apply Or.inr;simp;first|done|omega)))
 ·have k:((a1:Int)==(b1:Int))=false:=by simp;omega
  have q:decide ((a1:Int)<(b1:Int))=false:=by simp;omega
  clear h1;generalize(a1:Int)=x at*;generalize(b1:Int)=y at*;go_enter func178,ntmps178;go_wp2;refine bodyPost_ret (v:=.agg #[.int .u64 y,.int .i64 b2]) ?_ rfl ⟨rfl,?_⟩;·simp[*,results,Tryz.results178,go_sem]
  ·(repeat' (first|(with_reducible first|exact Zg _ _|assumption|refine Zh ?_ _|refine Zi ?_ _|refine Zj ?_ |refine Zk ?_ _ ?_ |(apply Or.inl;rfl))|(apply Or.inl;simp;done)|(apply Or.inr;simp;first|done|omega)))
theorem Qc8{P:Program}(w:World)(d:Nat)(t:TypeId)(ps k:Array TypeId)(u:Bool)(h:P.underlying t=some (.func ps k u))(q:Fn)(c e:Array Value):(Op.equalIn (d+1) t (.func q c e) .nilFunc).run P w=.ok false w:=by simp[Op.equalIn,run_underlying h]
theorem Gz{P:Program}(w:World)(t:TypeId)(ps k:Array TypeId)(u:Bool)(h:P.underlying t=some (.func ps k u))(q:Fn)(c d:Array Value):(binOp .eql t (.func q c d) .nilFunc).run P w=.ok (.bool false) w:=by simp only[binOp];simp[Op.equal,Op.maxDepth,Qc8 w 9999 t ps k u h q c d]
theorem U5(k:Fn)(c d:Array Value)(w:World):(binOp .eql 232 (.func k c d) .nilFunc).run prog w=.ok (.bool false) w:=Gz w _ _ _ _ underlying232 k c d
theorem Ub(k:Fn)(c d:Array Value)(w:World):(binOp .eql 233 (.func k c d) .nilFunc).run prog w=.ok (.bool false) w:=Gz w _ _ _ _ underlying233 k c d
attribute [local go_sem] U5 Ub
theorem Hr{w:World}{b:Nat}(h:Qms w b):Cl 209 #[ptr b] w fun e w'=>e=.returned (.bool false)∧w=w':=by obtain⟨p,n,h⟩:=h;obtain⟨c,a1,d,k⟩:=Xt h;unfold ptr O0 Vw at*;clear h;go_enter func209,ntmps209;go_wp2;go_ret;exact⟨rfl,rfl⟩
theorem Yk{w:World}(t:Tr)(h:Jk w t):Cl 235 #[t.ptrV] w fun e w'=>e=.returned (.bool t.red)∧w=w':=by
 cases t with
 |nil=> unfold Tr.ptrV;go_enter func235,ntmps235;go_wp2;go_ret;exact⟨rfl,rfl⟩
 |node x c l r=> obtain⟨d,a1,u,q,z,B,E,k⟩:=Q7 h.1;unfold Tr.ptrV Tr.red;dsimp only;clear h;go_enter func235,ntmps235;go_wp2;go_ret;exact⟨rfl,rfl⟩
theorem Qy9(n:Nat)(i:Int)(x:Nd):(n<x.n∧lt n i x=true)∨(n=x.n∧i<x.i∧lt n i x=true)∨(n=x.n∧¬i<x.i∧lt n i x=false)∨(x.n<n∧lt n i x=false):=by
 unfold lt;by_cases h1:n<x.n;·exact .inl ⟨h1,by simp[h1]⟩
 ·by_cases c:n=x.n
  ·by_cases d:i<x.i;·exact .inr (.inl ⟨c,d,by simp[c,d]⟩)
   ·exact .inr (.inr (.inl ⟨c,d,by simp[c,d]⟩))
  ·exact .inr (.inr (.inr ⟨by omega,by simp[h1,c]⟩))
theorem Oo(n:Nat)(i:Int)(x:Nd)(w:World):Cl 229 #[Xi n i,Xi x.n x.i] w fun e w'=>e=.returned (.bool (lt n i x))∧Qc Qb w w':=by
 have H:=Qy9 n i x;generalize lt n i x=q at*;generalize x.n=m at*;generalize x.i=j at*;unfold Xi;rcases H with⟨h,rfl⟩|⟨h,c,rfl⟩|⟨h,c,rfl⟩|⟨h,rfl⟩
 ·have d:decide ((n:Int)<(m:Int))=true:=by simp;omega
  clear h;generalize(n:Int)=n at*;generalize(m:Int)=m at*;go_enter func229,ntmps229;go_wp2;go_ret;refine⟨rfl,?_⟩;(repeat' (first|(with_reducible first|exact Zg _ _|assumption|refine Zh ?_ _|refine Zi ?_ _|refine Zj ?_ |refine Zk ?_ _ ?_ |(apply Or.inl;rfl))|(apply Or.inl;simp;done)|(apply Or.inr;simp;first|done|omega)))
 ·subst h;have d:decide ((n:Int)<(n:Int))=false:=by simp
  have k:((n:Int)==(n:Int))=true:=by simp
  have u:decide (i<j)=true:=by simpa using c
  clear c;generalize(n:Int)=n at*;go_enter func229,ntmps229;go_wp2;go_ret;refine⟨rfl,?_⟩;(repeat' (first|(with_reducible first|exact Zg _ _|assumption|refine Zh ?_ _|refine Zi ?_ _|refine Zj ?_ |refine Zk ?_ _ ?_ |(apply Or.inl;rfl))|(apply Or.inl;simp;done)|(apply Or.inr;simp;first|done|omega)))
 ·subst h;have d:decide ((n:Int)<(n:Int))=false:=by simp
  have k:((n:Int)==(n:Int))=true:=by simp
  have u:decide (i<j)=false:=by simpa using c
  clear c;generalize(n:Int)=n at*;go_enter func229,ntmps229;go_wp2;go_ret;refine⟨rfl,?_⟩;(repeat' (first|(with_reducible first|exact Zg _ _|assumption|refine Zh ?_ _|refine Zi ?_ _|refine Zj ?_ |refine Zk ?_ _ ?_ |(apply Or.inl;rfl))|(apply Or.inl;simp;done)|(apply Or.inr;simp;first|done|omega)))
 ·have d:decide ((n:Int)<(m:Int))=false:=by simp;omega
  have k:((n:Int)==(m:Int))=false:=by simp;omega
  clear h;generalize(n:Int)=n at*;generalize(m:Int)=m at*;go_enter func229,ntmps229;go_wp2;go_ret;refine⟨rfl,?_⟩;(repeat' (first|(with_reducible first|exact Zg _ _|assumption|refine Zh ?_ _|refine Zi ?_ _|refine Zj ?_ |refine Zk ?_ _ ?_ |(apply Or.inl;rfl))|(apply Or.inl;simp;done)|(apply Or.inr;simp;first|done|omega)))
end
end Go.Proofs.YtnnhmpehkbihnaaGreat
