/- A part of the proof: no condition. -/
import Derived.Test.YtigcnnkagkbflaaGreatYq02
namespace Go.Proofs.YtigcnnkagkbflaaGreat
set_option linter.unusedVariables false
set_option maxRecDepth 100000
set_option maxHeartbeats 4000000
open Go.RowKit
open Go.Proofs.Tryz
def Xr(c:Int):Nat:=(min (max c 0) 65536).toNat*256
structure Ju where
 run:Xh
 got:Nat
 aL:Bool
 elig:Nat
 due:Nat
def Ju.new(c:Jy):Ju:=⟨.new c,0,false,0,0⟩
def Ju.wake(d:Ju)(now:Nat)(c:Int):Ju:=
 if d.aL then d else
  let r:=d.run.start now d.got
  ⟨r,d.got,true,r.elig d.got,r.reach (min (d.got+Xr c) Xw)⟩
def Ju.serve(d:Ju)(rule:Nat)(k c:Int):Ju:=
 if !d.aL then d else
  let g:=if rule=1 then min (d.got+Xr k) Xw else d.got
  ⟨d.run,g,decide (1<=c),if rule=1 then d.run.elig g else d.elig,d.run.reach (min (g+Xr c) Xw)⟩
def Ju.from_(d:Ju):Nat:=if d.aL then d.elig else Qq
def Ju.dueAt(d:Ju):Nat:=if d.aL then d.due else Qq
abbrev Kg:=Option Xh
def Kg.wake(l:Kg)(now c:Nat):Kg:=l.map λr=>r.start now c
def Kg.fit(l:Kg)(c:Nat):Nat:=match l with
 |none=>0
 |some r=>r.reach c
structure Jh where
 id:Int
 total:Nat
 v:Nat
 run:Xh
 aL:Bool
structure Jc where
 all:List Jh
 mark:Nat
def Jc.at(f:Jc)(id:Int):Option Jh:=f.all.find? λm=>decide (m.id=id)
def Jc.set(f:Jc)(m:Jh):Jc:=⟨f.all.map λx=>if x.id=m.id then m else x,f.mark⟩
def Jc.made(f:Jc)(m:Jh)(v:Nat):Jc:=⟨(f.set {m with v:=v}).all,max f.mark v⟩
def Jc.add(f:Jc)(id:Int)(c:Jy):Jc:=match f.at id with
 |some _=>f
 |none=>⟨f.all++[⟨id,0,0,.new c,false⟩],f.mark⟩
def Jc.drop(f:Jc)(id:Int):Jc:=⟨f.all.filter λm=>!decide (m.id=id),f.mark⟩
def Jc.least(f:Jc):Nat:=(f.all.filter (·.aL)).foldl (λn m=>min n m.v) Qq
def Jc.most(f:Jc):Nat:=(f.all.filter (·.aL)).foldl (λn m=>max n m.v) 0
def Jc.start(f:Jc)(m:Jh):Nat:=if f.most<f.least then max m.v f.mark else max m.v (f.least+(f.most-f.least)/2)
def Jc.wake(f:Jc)(id:Int):Jc:=match f.at id with
 |none=>f
 |some m=>if m.aL then f else
  let v:=f.start m
  f.made {m with run:=m.run.start v m.total,aL:=true} v
def Jc.sleep(f:Jc)(id:Int):Jc:=match f.at id with
 |none=>f
 |some m=>f.set {m with aL:=false}
def Jc.gain(f:Jc)(id:Int)(g:Nat):Jc:=match f.at id with
 |none=>f
 |some m=>
  let m:={m with total:=m.total+min g (Xw-m.total)}
  if m.aL then f.made m (m.run.reach m.total)else f.set m
def Jc.v(f:Jc)(id:Int):Nat:=((f.at id).map (·.v)).getD 0
def Jc.up(f:Jc)(id:Int):Bool:=((f.at id).map (·.aL)).getD false
def Xa(id:Int)(l:List Xu):List Xu:=l.filter λe=>!decide (e.2.1=id)
def Vf(id:Int)(key value:Nat)(l:List Xu):List Xu:=Un (key,id,value) (Xa id l)
def On(id:Int)(l:List Xu):Option Xu:=l.find? λe=>decide (e.2.1=id)
def Jt(k:Nat)(l:List Xu):Option (Nat×Int):=low (l.filter λe=>decide (e.1<=k))
def Xf(v:Nat)(l:List Xu):Option Xu:=l.find? λe=>decide (e.2.2<=v)
def Ol(l:List Xu):Prop:=(l.map (·.2.1)).Nodup
theorem Qgj{id:Int}{l:List Xu}{e:Xu}(h:Ol l)(B:e∈l)(I:e.2.1=id):Xa id l=del e.1 id l:=by
 unfold Xa del;refine List.filter_congr λf E=>?_;by_cases c:f.2.1=id
 .have:f=e:=by
   have J:=h;unfold Ol at J;clear h;induction l with
   |nil=>cases E
   |cons a l R=>
    obtain⟨z,K⟩:=List.nodup_cons.1 J;rcases Zu.1 E with u|k
    .rcases Zu.1 B with q|d;·rw[u,q]
     .exact(z (Z3.2 ⟨e,d,by rw[I,<-c,u]⟩)).elim
    .rcases Zu.1 B with q|d;·exact(z (Z3.2 ⟨f,k,by rw[c,<-I,q]⟩)).elim
     .exact R d k K
  subst this;simp[c]
 .simp[c]
theorem M7{id:Int}{l:List Xu}(h:∀e∈l,e.2.1≠id):Xa id l=l:=by refine List.filter_eq_self.2 λe c=>?_;simp only[Bool.not_eq_true',decide_eq_false_iff_not];exact h e c
theorem Ol.drop{id:Int}{l:List Xu}(h:Ol l):Ol (Xa id l):=List.Pairwise.sublist (List.filter_sublist.map _) h
theorem En(e:Xu):∀l:List Xu,(Un e l).Perm (e::l)
 |[]=>.refl _
 |f::l=>by
  rw[Un];split;·exact .refl _
  .exact((En e l).cons f).trans (.swap e f l)
theorem Ol.put{id:Int}{key value:Nat}{l:List Xu}(h:Ol l):Ol (Vf id key value l):=by unfold Vf Ol;refine((En (key,id,value) (Xa id l)).map _).nodup_iff.2 ?_;refine List.nodup_cons.2 ⟨?_,h.drop⟩;rintro k;obtain⟨e,c,d⟩:=Z3.1 k;have:=(List.mem_filter.1 c).2;simp at this;exact this d
theorem Th{id:Int}{key c:Nat}{l:List Xu}(h:Xd l):Xd (Vf id key c l):=by refine Rt (h.sublist List.filter_sublist) λf d k=>?_;have:=(List.mem_filter.1 d).2;simp at this;exact this k.2
structure Qx where
 id:Int
 par:Int
 leaf:Bool
 aJ:Bool
 total:Nat
 limit:Kg
 mem:Jc
 tree:List Xu
 aM:Nat
abbrev Qe:=List Qx
def Qe.new:Qe:=[⟨0,0,false,false,0,none,⟨[],0⟩,[],0⟩]
def Qe.at(p:Qe)(id:Int):Option Qx:=p.find? λc=>decide (c.id=id)
def Qe.set(p:Qe)(c:Qx):Qe:=p.map λx=>if x.id=c.id then c else x
def Qe.fam(p:Qe)(id:Int)(f:Jc->Jc):Qe:=match p.at id with
 |none=>p
 |some c=>match p.at c.par with
  |none=>p
  |some q=>p.set {q with mem:=f q.mem}
def Qe.aL(p:Qe)(id:Int):Bool:=match p.at id with
 |none=>false
 |some c=>decide (0<id)&&(((p.at c.par).map λq=>q.mem.up id).getD false)
def Qe.v(p:Qe)(id:Int):Nat:=match p.at id with
 |none=>0
 |some c=>if id<1 then 0 else((p.at c.par).map λq=>q.mem.v id).getD 0
def Qx.fit(c:Qx):Nat:=
 let own:=c.limit.fit c.total
 if c.leaf then own else match low c.tree with
  |none=>Qq
  |some s=>max own s.1
def Qe.note(p:Qe)(id:Int):Qe:=match p.at id with
 |none=>p
 |some c=>match p.at c.par with
  |none=>p
  |some q=>p.set {q with tree:=if p.aL id then Vf id (p.v id) c.fit q.tree else Xa id q.tree}
def Qe.path(p:Qe):Nat->Int->List Int
 |0,_=>[]
 |n+1,id=>if id<1 then[]else match p.at id with
  |none=>[]
  |some c=>id::p.path n c.par
def Qe.up1(now:Nat)(p:Qe)(id:Int):Qe:=match p.at id with
 |none=>p
 |some c=>if p.aL id||!c.aJ then p else(p.fam id λf=>f.wake id).set {c with limit:=c.limit.wake now c.total}
def Qe.wake(p:Qe)(id:Int)(now:Nat):Qe:=match p.at id with
 |none=>p
 |some c=>if id<1||!c.leaf||!c.aJ then p else
  let l:=p.path 9 id
  l.foldl Qe.note (l.foldl (Qe.up1 now) p)
def Qe.aV(g:Nat)(p:Qe)(id:Int):Qe:=match p.at id with
 |none=>p
 |some c=>(p.set {c with total:=c.total+min g (Xw-c.total)}).fam id λf=>f.gain id g
def Qe.aW(d:Bool)(p:Qe)(id:Int):Qe:=match p.at id with
 |none=>p
 |some c=>Qe.note (if d&&(c.leaf||decide (c.tree.length=0))then p.fam id λf=>f.sleep id else p) id
def Qe.sent(p:Qe)(id:Int)(g:Nat)(d:Bool):Qe:=match p.at id with
 |none=>p
 |some c=>if id<1||!c.leaf then p else
  let l:=p.path 9 id;let p:=l.foldl (Qe.aV g) p
  l.foldl (Qe.aW (!d&&p.aL id)) p
def Qe.next(p:Qe)(now:Nat):Nat->Int->Option Int
 |0,_=>none
 |n+1,id=>match p.at id with
  |none=>none
  |some c=>if c.leaf then some id else match Xf now c.tree with
   |none=>none
   |some e=>p.next now n e.2.1
def Qe.tick(p:Qe):Nat:=match p.at 0 with
 |none=>Qq
 |some c=>match low c.tree with
  |none=>Qq
  |some s=>s.1
def Qe.fitAt(p:Qe)(id:Int):Nat:=if p.aL id then((p.at id).map (·.fit)).getD Qq else Qq
end Go.Proofs.YtigcnnkagkbflaaGreat
