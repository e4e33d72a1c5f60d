/- A part of the proof: no condition. -/
import Derived.Test.YtigcnnkagkbflaaGreatUo01
namespace Go.Proofs.YtigcnnkagkbflaaGreat
set_option linter.unusedVariables false
set_option maxRecDepth 100000
set_option maxHeartbeats 4000000
open Go.RowKit
open Go.Proofs.Tryz
structure O1{X Y:Type}(ty:TypeId)(cells:X->Nat->Array Value)(pr:X->Y)(Is:World->Fp->Nat->Y->Prop)(w:World)(F:Fp)(b:Nat)(x:X):Prop where
 ex:∃p G,Qh w b (cells x p) ty/\Is w G p (pr x)/\∀k,G k->F k/\k≠b
 bd:Bd F w
 own:F b
section
variable{X Y:Type}{ty:TypeId}{cells:X->Nat->Array Value}{pr:X->Y}{Is:World->Fp->Nat->Y->Prop}{w w1 w2:World}{F:Fp}{b:Nat}{x:X}
theorem O1.obj(I:Hf Is):Hf (O1 ty cells pr Is) where
 bd:=λh=>h.bd
 own:=λh=>h.own
 aB:=λh z B=>by obtain⟨p,G,q,u,c⟩:=h.ex;exact⟨⟨p,G,z.blk q (B _ h.own),I.aB u z (B.subL λk d=>(c k d).1),c⟩,h.bd.later z,h.own⟩
 more:=λh E J=>by obtain⟨p,G,q,u,c⟩:=h.ex;exact⟨⟨p,G,q,u,λk d=>⟨E k (c k d).1,(c k d).2⟩⟩,J,E _ h.own⟩
theorem O1.made{p:Nat}{G:Fp}{x':X}(h:O1 ty cells pr Is w F b x)(u:∀k,G k->F k/\k≠b)(z:Hf Is)
  (E:Qc G w w1)(I:Is w1 (Qn G w w1) p (pr x'))(q:Qc (λk=>k=b) w1 w2)(B:Qh w2 b (cells x' p) ty):O1 ty cells pr Is w2 (Qn F w w2) b x'/\Qc F w w2:=by
 have Xg:=h.bd b h.own;have c:Qc F w w2:=(E.sub λk d=>(u k d).1).aA (q.sub λk d=>d▸h.own);refine⟨⟨⟨p,Qn G w w1,B,z.aB I q ?_,?_⟩,h.bd.ext c,.inl h.own⟩,c⟩
 .rintro k d rfl;rcases d with d|d;·exact(u _ d).2 rfl
  .omega
 .intro k d;rcases d with d|d;·exact⟨.inl (u k d).1,(u k d).2⟩
  .exact⟨.inr ⟨d.1,Nat.lt_of_lt_of_le d.2 q.size⟩,by omega⟩
theorem O1.cell{p:Nat}{G:Fp}{x':X}(h:O1 ty cells pr Is w F b x)(z:Is w G p (pr x'))(u:∀k,G k->F k/\k≠b)(B:Hf Is)
  (q:Qc (λk=>k=b) w w2) (E:Qh w2 b (cells x' p) ty):O1 ty cells pr Is w2 (Qn F w w2) b x'/\Qc F w w2:=by
 have c:Qc F w w2:=q.sub λk d=>d▸h.own;exact⟨⟨⟨p,G,E,B.aB z q (λk d e=>(u k d).2 e),λk d=>⟨.inl (u k d).1,(u k d).2⟩⟩,h.bd.ext c,.inl h.own⟩,c⟩
theorem O1.new{p:Nat}{G:Fp}(q:Is w2 G p (pr x))(u:∀k,G k->w.heap.size<=k)(z:Hf Is)(d:Qh w2 b (cells x p) ty)(E:w.heap.size<=b)(B:¬G b):O1 ty cells pr Is w2 (Qn Qb w w2) b x:=
 ⟨⟨p,G,d,q,λk c=>⟨.inr ⟨u k c,z.bd q k c⟩,λe=>B (e▸c)⟩⟩,λk c=>c.elim (λh=>h.elim) (λh=>h.2),.inr ⟨E,d.lt⟩⟩
theorem Hf.same{Z:Type}{c:World->Fp->Nat->Z->Prop}(d:Hf c){z:Z}(h:c w F b z)(q:Qc Qb w w1):c w1 (Qn F w w1) b z/\Qc F w w1:=
 ⟨d.more (d.aB h q (Jl.none F)) (λk u=>.inl u) ((d.bd h).ext (q.none (F:=F))),q.none⟩
theorem Hf.two{Z:Type}{c:World->Fp->Nat->Z->Prop}(q:Hf c){z:Z}(h:c w2 (Qn (Qn F w w1) w1 w2) b z)(u:Bd F w)(d:Qc F w w1)(k:Qc (Qn F w w1) w1 w2):c w2 (Qn F w w2) b z/\Qc F w w2:=
 ⟨q.more h (Qn.trans d.size k.size) (u.ext (d.ext k)),d.ext k⟩
end
end Go.Proofs.YtigcnnkagkbflaaGreat
