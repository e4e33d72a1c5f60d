/- A part of the proof: no condition. -/
import Derived.Test.YtnnhmpehkbihnaaGreatPk08
namespace Go.Proofs.YtnnhmpehkbihnaaGreat
set_option linter.unusedVariables false
set_option maxRecDepth 100000
set_option maxHeartbeats 4000000
open Go.RowKit
open Go.Proofs.Tryz
structure Mx(w:World)(F:Fp)(T:Nat)(t:Tr)(l:List Xu):Prop where
 top:Qh w T #[Dd,Vv,t.aH,.int .i64 l.length] 254
 sub:Kc w T t
 fine:∃m,Yp t m
 blk:t.red=false
 flat:t.flat=l
 ris:Xd l
 fp:∀a∈T::t.aC,F a
 bd:Bd F w
def Vz(w:World)(F:Fp)(T:Nat)(l:List Xu):Prop:=∃t,Mx w F T t l
theorem Mx.aB{w w'}{F S:Fp}{T:Nat}{t:Tr}{l:List Xu}(h:Mx w F T t l)(hc:Qc S w w')(c:Jl F S):Mx w' F T t l:=
 ⟨hc.blk h.top (c _ (h.fp T (by simp))),h.sub.aB hc (fun a ha=>c _ (h.fp a ha)),h.fine,h.blk,h.flat,h.ris,h.fp,h.bd.later hc⟩
theorem Vz.obj:Hf Vz where
 bd:=fun⟨t,h⟩=>h.bd
 own:=fun⟨t,h⟩=>h.fp _ (by simp)
 aB:=fun⟨t,h⟩hc d=>⟨t,h.aB hc d⟩
 more:=fun⟨t,h⟩hs c=>⟨t,h.top,h.sub,h.fine,h.blk,h.flat,h.ris,fun a ha=>hs _ (h.fp a ha),c⟩
theorem Qdo{k:Int}{v:Value}{L:List (Int×Value)}(h:look k L=some v):(k,v)∈L:=by
 unfold look at h;cases c:Oe k L 0 with
 |none=>rw[c]at h;cases h
 |some q=> obtain⟨n,u⟩:=q;rw[c]at h;obtain rfl:=Zs h;obtain⟨j,_,_,d⟩:=U6 c;exact List.mem_of_getElem? d
theorem Qo5{k:Int}{L L':List (Int×Value)}(d:L.Perm L')(hn:(L.map (·.1)).Nodup):look k L=look k L':=by
 have c:(L'.map (·.1)).Nodup:=(d.map _).nodup_iff.1 hn;cases h:look k L' with
 |some v=>exact Eh hn (d.mem_iff.2 (Qdo h))
 |none=>
  cases q:look k L with
  |none=>rfl
  |some v=>rw[Eh c (d.mem_iff.1 (Qdo q))]at h;cases h
def atV(l:List Xu):List (Int×Value):=l.map fun e=>(e.2.1,Yo e.1 e.2.1)
theorem Qgh(l:List Xu):(atV l).map (·.1)=l.map (·.2.1):=by simp[atV]
theorem Pv{id:Int}{l:List Xu}{e:Xu}(h:On id l=some e):e∈l∧e.2.1=id:=⟨List.mem_of_find?_eq_some h,by simpa using List.find?_some h⟩
theorem Pu{id:Int}{l:List Xu}(h:On id l=none):∀e∈l,e.2.1≠id:=by simpa[On]using h
theorem Qht{id:Int}{l:List Xu}{L:List (Int×Value)}(c:L.Perm (atV l))(q:Ol l):look id L=(On id l).map fun e=>Yo e.1 id:=by
 have hn:(L.map (·.1)).Nodup:=(c.map _).nodup_iff.2 (by rw[Qgh];exact q);rw[Qo5 c hn];have k:((atV l).map (·.1)).Nodup:=by rw[Qgh];exact q
 cases h:On id l with
 |some e=> obtain⟨d,rfl⟩:=Pv h;exact Eh k (Z3.2 ⟨e,d,rfl⟩)
 |none=>
  rw[Sp];·rfl
  ·intro p c;obtain⟨e,d,rfl⟩:=Z3.1 c;exact Pu h e d
theorem Qq1{id:Int}{l:List Xu}{L:List (Int×Value)}(c:L.Perm (atV l)):(Vu id L).Perm (atV (Xa id l)):=by refine(c.filter _).trans ?_;simp only[atV,Xa,List.filter_map];exact .refl _
theorem Qta{id:Int}{n v:Nat}{l:List Xu}{L:List (Int×Value)}(d:L.Perm (atV l))(c:∀e∈l,e.2.1≠id):(Oi id (Yo n id) L).Perm (atV (Un (n,id,v) l)):=by
 rw[Gw (fun p q=>by
  obtain⟨e,k,rfl⟩:=Z3.1 (d.mem_iff.1 q);exact c e k)]
 refine((d.append_right _).trans ?_).trans ((En (n,id,v) l).map _).symm;exact List.perm_append_comm
end Go.Proofs.YtnnhmpehkbihnaaGreat
