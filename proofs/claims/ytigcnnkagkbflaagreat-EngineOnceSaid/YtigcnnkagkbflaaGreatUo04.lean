/- A part of the proof: no condition. -/
import Derived.Test.YtigcnnkagkbflaaGreatUo01
import Derived.WalkSpells
import Derived.WalkLawsBesides
import Derived.Outline
import Derived.Laws.StructEq
namespace Go.Proofs.YtigcnnkagkbflaaGreat
set_option linter.unusedVariables false
set_option maxRecDepth 100000
set_option maxHeartbeats 4000000
open Go.RowKit
open Go.Proofs.Tryz
structure Jr where
 id:Int
 cls:Int
 len:Int
 at_:Int
def Jr.cells(p:Jr):List Value:=[ZU p.id,ZI p.cls,ZI p.len,ZU p.at_]
theorem Jr.aF(p:Jr):p.cells.length=4:=rfl
def Jr.zero:Jr:=⟨0,0,0,0⟩
theorem pktT:Qce prog Jr.cells 4 58 31 32 Jr.zero where
 ht:=underlying58
 hi:=Ee (by kernel_rfl)
 pos:=by decide
 hc:=Jr.aF
 one:=by intro x u c;simp only[Jr.cells,Zu,List.not_mem_nil,or_false]at c;rcases c with rfl|rfl|rfl|rfl<;>rfl
def Jn:List Jr->Int
 |[]=>0
 |p::l=>p.len+Jn l
theorem Tk(a b:List Jr):Jn (a++b)=Jn a+Jn b:=by
 induction a with
 |nil=>simp[Jn]
 |cons p a c=>simp only[List.cons_append,Jn,c];omega
def Ll(p:Jr):Prop:=1<=p.len/\p.len<=65535
theorem Hd:∀(l:List Jr),(∀p∈l,Ll p)->0<=Jn l
 |[],_=>by simp[Jn]
 |p::l,h=>by have:=Hd l (λq c=>h q (by simp[c]));have:=(h p (by simp)).1;simp only[Jn];omega
def Ow(L:List Jr)(f:Nat)(l:List Jr):Prop:=∀i,i<l.length->L[(f+i)%L.length]? =l[i]?
structure Jz(w:World)(b r:Nat)(pk bt:Nat)(l:List Jr):Prop where
 ne:b≠r
 pk1:1<=pk
 pk2:pk<=4096
 bt1:1<=bt
 bt2:bt<=16777216
 many:l.length<=pk
 held:Jn l<=bt
 good:∀p∈l,Ll p
 ring:∃(L:List Jr)(f:Nat),Qh w b #[ZI pk,ZI bt,.slice (some ⟨r,0,none⟩) L.length L.length,ZI f,ZI l.length,ZI (Jn l)] 155/\
  RowBlk Jr.cells w r L 31/\f<L.length/\l.length<=L.length/\L.length<=8192/\Ow L f l
theorem Jz.aB{w w1}{b r k c:Nat}{l:List Jr}{S:Nat->Prop}(h:Jz w b r k c l)(d:Qc S w w1)(R:¬S b)(U:¬S r):Jz w1 b r k c l:=by obtain⟨q,u,z,B,E,I,J,K,L,f,q1,q2,V⟩:=h;exact⟨q,u,z,B,E,I,J,K,L,f,d.blk q1 R,d.blk q2 U,V⟩
theorem Jz.lt{w}{b r d c:Nat}{l:List Jr}(h:Jz w b r d c l):b<w.heap.size/\r<w.heap.size:=by obtain⟨_,_,_,_,_,_,_,_,L,f,k,q,_⟩:=h;exact⟨k.lt,q.lt⟩
theorem Qpq(b:Nat)(n:Int)(w:World)(c:w.cell? ⟨b,0,none⟩=some (ZI n)):
  ZW 87 #[ZP b] w (.bool (n==0)) λw'=>w=w':=by
 apply WH func87;exact WE
theorem Hy(b:Nat)(n:Int)(w:World)(c:w.cell? ⟨b,0,none⟩=some (ZI n))(q:1<=n):
  ZW 87 #[ZP b] w (.bool false) λw'=>w=w':=
 (Qpq b n w c).mono λe w'⟨d,k⟩=>⟨by rw[d];congr 2;simp;omega,k⟩
theorem Ml(b:Nat)(f n:Int)(a:Option Addr)(c cap:Nat)(w:World)(z:w.cell? ⟨b,2,none⟩=some (.slice a c cap))(B:w.cell? ⟨b,3,none⟩=some (ZI f))
  (E:0<=f) (d:f<=10000) (J:0<=n) (u:n<=10000) (I:0<c) (q:c<=10000):
  ZW 148 #[ZP b,ZI n] w (ZI ((f+n)%c)) λw'=>∃k,w'=w.drewN k:=by
 apply WH func148;go_wp2;go_quiet (fail);go_wp2;go_ret;exact⟨rfl,_,rfl⟩
theorem Qin{w}{b r k q:Nat}{l:List Jr}(h:Jz w b r k q l):
  ZW 48 #[ZP b] w (ZI l.length) λw'=>w=w':=by
 obtain⟨_,z,B,_,_,_,_,_,L,f,c,_⟩:=h;have d:=c.cell 0;have u:=c.cell 4;simp at d u;have N:=O (Hy b k w d (by omega));clear c;apply WH func48;go_wp2_with fail;apply Zy N;rintro w1 rfl;exact WE
theorem Qls{w}{b r k q:Nat}{l:List Jr}(h:Jz w b r k q l):
  ZW 49 #[ZP b] w (ZI (Jn l)) λw'=>w=w':=by
 obtain⟨_,z,B,_,_,_,_,_,L,f,c,_⟩:=h;have d:=c.cell 0;have u:=c.cell 5;simp at d u;have N:=O (Hy b k w d (by omega));clear c;apply WH func49;go_wp2_with fail;apply Zy N;rintro w1 rfl;exact WE
abbrev ZL(p:Jr):Array Value:=#[ZU p.id,ZI p.cls,ZI p.len,ZU p.at_]
end Go.Proofs.YtigcnnkagkbflaaGreat
