/- A part of the proof: no condition. -/
import Derived.Test.YtnnhmpehkbihnaaGreatPk33
namespace Go.Proofs.YtnnhmpehkbihnaaGreat
set_option linter.unusedVariables false
set_option maxRecDepth 100000
set_option maxHeartbeats 4000000
open Go.RowKit
open Go.Proofs.Tryz
def RT(p:Qe):Prop:=∀c∈p,Xd c.tree
section
variable{p:Qe}
theorem Ie{id:Int}{l:List Xu}(h:Xd l):Xd (Xa id l):=h.sublist List.filter_sublist
theorem RT.at(h:RT p){i:Int}{c:Qx}(hc:p.at i=some c):Xd c.tree:=h c (Qe.aE hc).1
theorem RT.set(h:RT p){x:Qx}(d:Xd x.tree):RT (p.set x):=fun c hc=>by
 rcases mem_set hc with rfl|⟨hc,_⟩;·exact d
 ·exact h c hc
theorem RT.fam(h:RT p)(i:Int)(f:Jc→Jc):RT (p.fam i f):=by
 unfold Qe.fam;split;·exact h
 ·split;·exact h
  ·rename_i q c;exact h.set (show Xd q.tree from h.at c)
theorem RT.note(h:RT p)(i:Int):RT (p.note i):=by
 unfold Qe.note;split;·exact h
 ·split;·exact h
  ·rename_i q c;refine h.set ?_;dsimp only;split;·exact Th (show Xd q.tree from h.at c)
   ·exact Ie (show Xd q.tree from h.at c)
theorem RT.up1(h:RT p)(now:Nat)(i:Int):RT (p.up1 now i):=by
 unfold Qe.up1;split;·exact h
 ·rename_i c hc;split;·exact h
  ·exact(h.fam i _).set (show Xd c.tree from h.at hc)
theorem RT.gain1(h:RT p)(g:Nat)(i:Int):RT (p.gain1 g i):=by
 unfold Qe.gain1;split;·exact h
 ·rename_i c hc;exact(h.set (x:={c with total:=c.total+min g (Xw-c.total)}) (show Xd c.tree from h.at hc)).fam i _
theorem RT.rest1(h:RT p)(sl:Bool)(i:Int):RT (p.rest1 sl i):=by
 unfold Qe.rest1;split;·exact h
 ·split;·exact(h.fam i _).note i
  ·exact h.note i
theorem RT.fold{c:Qe→Int→Qe}(hs:∀p i,RT p→RT (c p i)):∀(l:List Int)(p:Qe),RT p→RT (l.foldl c p)
 |[],_,h=>h
 |i::l,p,h=>RT.fold hs l _ (hs p i h)
theorem RT.wake(h:RT p)(i:Int)(now:Nat):RT (p.wake i now):=by
 unfold Qe.wake;split;·exact h
 ·split;·exact h
  ·exact RT.fold (fun p i h=>h.note i) _ _ (RT.fold (fun p i h=>h.up1 now i) _ _ h)
theorem RT.sent(h:RT p)(i:Int)(g:Nat)(more:Bool):RT (p.sent i g more):=by
 unfold Qe.sent;split;·exact h
 ·split;·exact h
  ·exact RT.fold (fun p i h=>h.rest1 _ i) _ _ (RT.fold (fun p i h=>h.gain1 g i) _ _ h)
theorem RT.put(h:RT p)(s:Yk):RT (p.put s):=by
 unfold Qe.put;split;·exact h
 ·rename_i q d;split;·exact h
  ·refine RT.set (fun c hc=>?_) (show Xd q.tree from h.at d);rcases Zl.1 hc with hc|hc;·exact h c hc
   ·obtain rfl:=List.mem_singleton.1 hc;exact List.Pairwise.nil
theorem RT.drop(h:RT p)(i:Int):RT (p.drop i):=by
 unfold Qe.drop;split;·exact h
 ·split;·exact h
  ·split;·exact h
   ·rename_i q d;exact fun c hc=>(h.set (x:={q with mem:=q.mem.drop i,aM:=q.aM-1}) (show Xd q.tree from h.at d)) c (List.mem_filter.1 hc).1
theorem RT.aK(h:RT p)(s:Yk):RT (p.aK s):=by
 unfold Qe.aK;split;·exact h
 ·split;·exact h
  ·intro c hc;obtain⟨x,d,rfl⟩:=Z3.1 hc;have:=(h.fam s.id fun f=>if s.aJ then(f.drop s.id).add s.id s.share else f.drop s.id) x d;split;·exact this
   ·exact this
theorem RT.new:RT Qe.new:=fun c hc=>by obtain rfl:=List.mem_singleton.1 hc;exact List.Pairwise.nil
end
structure SR(s:Qf):Prop where
 row:Xd s.row
 pick:RT s.pick
 due:∀l∈s.aI,∀d,l.debt=some d→d.elig≤Qq∧d.due≤Qq
theorem Qm5(r:Xh)(y:Nat):r.elig y≤Qq:=by
 unfold Xh.elig;split;·exact Pb _ _ _
 ·exact Pb _ _ _
theorem Az{c:Jy}{d:Ju}(h:Xl c=some d):d.elig≤Qq∧d.due≤Qq:=by
 unfold Xl at h;split at h;·cases h
 ·obtain rfl:=Zs h;exact⟨Nat.zero_le _,Nat.zero_le _⟩
theorem Qs3{d:Ju}(h:d.elig≤Qq∧d.due≤Qq)(now:Nat)(len:Int):(d.wake now len).elig≤Qq∧(d.wake now len).due≤Qq:=by
 unfold Ju.wake;split;·exact h
 ·exact⟨Qm5 _ _,reach_le _ _⟩
theorem Qp8{d:Ju}(h:d.elig≤Qq∧d.due≤Qq)(rule:Nat)(len c:Int):(d.serve rule len c).elig≤Qq∧(d.serve rule len c).due≤Qq:=by
 unfold Ju.serve;split;·exact h
 ·refine⟨?_,reach_le _ _⟩;dsimp only;split;·exact Qm5 _ _
  ·exact h.1
section
variable{s:Qf}
theorem SR.new(most:Int):SR (.new most):=⟨List.Pairwise.nil,RT.new,nofun⟩
theorem SR.add(h:SR s)(c:Yk):SR (s.add c):=by
 unfold Qf.add;split
 ·refine⟨h.row,h.pick.put c,fun l hl d k=>?_⟩;dsimp only at hl;split at hl
  ·rcases Zl.1 hl with hl|hl;·exact h.due l hl d k
   ·obtain rfl:=List.mem_singleton.1 hl;exact Az k
  ·exact h.due l hl d k
 ·exact h
theorem SR.change(h:SR s)(c:Yk):SR (s.change c):=by
 unfold Qf.change;split
 ·refine⟨h.row,h.pick.aK c,fun l hl d k=>?_⟩;obtain⟨x,q,rfl⟩:=Z3.1 hl;split at k;·exact Az k
  ·exact h.due x q d k
 ·exact h
theorem SR.drop(h:SR s)(i:Int):SR (s.drop i):=by
 unfold Qf.drop;split;·exact⟨h.row,h.pick.drop i,fun l hl=>h.due l (List.mem_filter.1 hl).1⟩
 ·exact h
theorem Qiu{row:List Xu}(h:Xd row)(i:Int)(d:Ju):Xd (Hj row i d):=by
 unfold Hj;split;·exact Th h
 ·exact Ie h
theorem SR.setLeaf(h:SR s){l:Qw}(k:∀d,l.debt=some d→d.elig≤Qq∧d.due≤Qq):SR (s.setLeaf l):=by
 refine⟨h.row,h.pick,fun y u d c=>?_⟩;obtain⟨x,q,rfl⟩:=Z3.1 u;split at c;·exact k d c
 ·exact h.due x q d c
theorem SR.owe(h:SR s)(l:Qw)(f:Ju→Ju)(hf:∀d,l.debt=some d→(f d).elig≤Qq∧(f d).due≤Qq):SR (s.owe l f):=by
 unfold Qf.owe;split;·rename_i hn;exact h.setLeaf fun d c=>by rw[hn]at c;cases c
 ·rename_i d c;have:=h.setLeaf (l:={l with debt:=some (f d)}) fun k e=>by obtain rfl:=Zs e;exact hf d c
  exact⟨Qiu h.row _ _,h.pick,this.due⟩
theorem I8{i:Int}{l:Qw}(hl:s.leaf i=some l):l∈s.aI:=List.mem_of_find?_eq_some hl
theorem SR.push(h:SR s)(p:Jr)(now:Nat):SR (s.push p now):=by
 unfold Qf.push;split
 ·split;·exact h
  ·rename_i l hl;have c:=h.due l (I8 hl);dsimp only;split;·exact h.setLeaf c
   ·have:=h.owe {l with q:=l.q++[p]} (fun d=>d.wake now p.len) fun d e=>Qs3 (c d e) _ _;exact⟨this.row,this.pick.wake p.cls now,this.due⟩
 ·exact h
theorem SR.take(h:SR s)(i:Int)(rule:Nat):SR (s.take i rule):=by
 unfold Qf.take;split;·exact h
 ·rename_i l hl;have c:=h.due l (I8 hl);have:=h.owe {l with q:=l.q.tail} (fun d=>d.serve rule (l.q.headD Jr.zero).len (l.q.tail.headD Jr.zero).len) fun d e=>Qp8 (c d e) _ _ _;exact⟨this.row,this.pick.sent i _ _,this.due⟩
end
structure Xp(N:Nat)(s:Qf):Prop extends Vl N s where
 sr:SR s
section
variable{N M:Nat}{s:Qf}
theorem Xp.more(h:Xp N s)(c:N≤M):Xp M s:=⟨h.toVl.more c,h.sr⟩
theorem Xp.new{most:Int}(h1:1≤most)(c:most<65536):Xp N (Qf.new most):=⟨Vl.new h1 c,SR.new most⟩
theorem Xp.add(h:Xp N s){c:Yk}(h0:s.aO c=0):Xp N (s.add c):=⟨h.toVl.add h0,h.sr.add c⟩
theorem Xp.change(h:Xp N s){c:Yk}(h0:s.aG c=0):Xp N (s.change c):=⟨h.toVl.change h0,h.sr.change c⟩
theorem Xp.drop(h:Xp N s){i:Int}(h0:s.aP i=0):Xp N (s.drop i):=⟨h.toVl.drop h0,h.sr.drop i⟩
theorem Xp.push(h:Xp N s){p:Jr}(now:Nat)(h0:s.aQ p=0):Xp (N+16) (s.push p now):=⟨h.toVl.push now h0,h.sr.push p now⟩
theorem Xp.take(h:Xp N s){id:Int}(rule:Nat){l:Qw}(hl:s.leaf id=some l)(c:l.q≠[]):Xp (N+16) (s.take id rule):=⟨h.toVl.take rule hl c,h.sr.take id rule⟩
theorem Xp.next(h:Xp N s)(now:Nat):Xp (N+16) (s.next now).2:=by
 unfold Qf.next;cases d:s.who now with
 |none=>exact h.more (by omega)
 |some x=> obtain⟨id,rule⟩:=x;obtain⟨l,hl,c,_⟩:=h.who d;exact h.take rule hl c
end
end Go.Proofs.YtnnhmpehkbihnaaGreat
