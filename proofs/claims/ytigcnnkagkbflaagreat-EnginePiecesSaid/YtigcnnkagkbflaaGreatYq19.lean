/- A part of the proof: no condition. -/
import Derived.Test.YtigcnnkagkbflaaGreatYq16
import Derived.Lib.SliceRun
import Derived.Lib.AppendZerosOnto
import Derived.Lib.Overlaps
import Derived.Test.YtigcnnkagkbflaaGreatYq17
import Derived.Test.YtigcnnkagkbflaaGreatYq18
namespace Go.Proofs.YtigcnnkagkbflaaGreat
set_option linter.unusedVariables false
set_option maxRecDepth 100000
set_option maxHeartbeats 4000000
open Go.RowKit
open Go.Proofs.Tryz
attribute [local go_sem] Qp
attribute [local irreducible] Kl J9 Xo
inductive Ev(T:Int->Bool)(l:List Int):Int->Prop
 |none:(∀(k:Nat)(y:Int),l[k]? =some y->T y=false)->Ev T l (-1)
 |some (i:Nat) (y:Int):l[i]? =some y->T y=true->(∀(k:Nat)(z:Int),k<i->l[k]? =some z->T z=false)->Ev T l (i:Int)
theorem Qkq{w}{v:Value}{l:List Int}(h:Q6 w v l)(hl:l.length<1099511627776)(g:FuncId)(q:Array Value)(eg:∀d w,(callFunc g d).run prog w=.ok (.enter g d) w)(T:Int->Bool)
  (hT:∀y,Cl g (#[ZI y]++q) w λe w'=>e=.returned (.bool (T y))/\w=w'):
  Cl 231 #[v,.func (.func g) #[] q] w λe w'=>∃i,e=.returned (ZI i)/\w=w'/\Ev T l i:=by
 have HT:=O hT;obtain⟨n,U⟩:=Zx (l.length);have K:=O U;obtain⟨a,cap,hv,c,ab⟩:∃a cap,v=.slice a n cap/\(∀(k:Nat)(y:Int),l[k]? =some y->∃g,a=some ⟨g,0,none⟩/\w.cell? ⟨g,k,none⟩=some (ZI y))/\n<=cap:=by
  rcases h.cells with⟨rfl,aa⟩|⟨g,cap,rfl,hc,E⟩;·subst aa;exact⟨none,0,by rw[U];rfl,λk y e=>(by cases e),by rw[U];exact Zv _⟩
  .exact⟨_,cap,by rw[U],λk y e=>⟨g,rfl,E k y e⟩,by omega⟩
 subst hv;have J:=O c;have ag:n<1099511627776:=by omega
 clear h U c hl hT;go_enter func231,ntmps231;go_wp2_with fail;go_loopw [8] (λix wr=>∃i:Nat,ix=ZI i/\wr=w/\i<=n/\∀(k:Nat)(z:Int),k<i->l[k]? =some z->T z=false) (λix _=>n-(intOf ix).toNat);case atStart=>exact⟨0,rfl,rfl,Nat.zero_le _,λk z E=>absurd E (by omega)⟩
 case round=>
  obtain⟨i,rfl,rfl,af,u⟩:=hrel;have HB:=O u;clear u;by_cases ae:i<n
  .have hd:decide ((i:Int)<(n:Int))=true:=by simp;omega
   have R:i<l.length:=by have:=K.o;omega
   obtain⟨y,hy⟩:∃y,l[i]? =some y:=⟨_,List.getElem?_eq_getElem R⟩;obtain⟨g,rfl,ac⟩:=J.o i y hy;have HY:=O hy;have V:=O (HT.o y);clear hy R;cases I:T y with
   |true=> rw[I]at V;have B:=O I;clear I;go_wp2_with fail;refine Zy V ?_;rintro w1 rfl;go_wp2;go_ret;exact⟨_,rfl,rfl,.some i y HY.o B.o HB.o⟩
   |false=>
    rw[I]at V;have B:=O I;have ew:IntKind.i64.wrap ((i:Int)+1)=(i:Int)+1:=by rw[IntWalk.i64_in _ (by omega)]
    clear I;go_wp2_with fail;refine Zy V ?_;rintro w1 rfl;go_wp2;go_roundw;case measure=>simp only[intOf];omega
    case rel=>exact⟨i+1,by rw[<-Int.natCast_one,<-Int.natCast_add],trivial,by omega,λk z E hz=>by
     rcases Nat.lt_or_ge k i with h1|h1;·exact HB.o k z h1 hz
     .have:k=i:=by omega
      subst this;rw[HY.o]at hz;rw[<-Zs hz];exact B.o⟩
  .have hd:decide ((i:Int)<(n:Int))=false:=by simp;omega
   have Z:Hi (Ev T l (-1)):=O (.none λk y E=>HB.o k y (by have:=K.o;have:=(Z1.1 E).1;omega) E);go_wp2;go_ret;exact⟨_,rfl,rfl,Z.o⟩
def flT(T:Int->Bool)(l:List Int)(i:Nat):List Int:=(l.take i).filter λy=>!T y
theorem Wm(T:Int->Bool){l:List Int}{i:Nat}{y:Int}(d:l[i]? =some y):flT T l (i+1)=flT T l i++if T y then[]else[y]:=by unfold flT;rw[List.take_add_one,d,List.filter_append];cases c:T y<;>simp[c]
structure Vo(w0:World)(g cap:Nat)(l:List Int)(T:Int->Bool)(i j:Nat)(wr:World):Prop where
 chg:Qc (λk=>k=g) w0 wr
 ex:∃cur,Qh wr g cur 3/\cur.size=cap/\(∀(k:Nat)(y:Int),(flT T l i)[k]? =some y->cur[k]? =some (ZI y))/\(∀(k:Nat)(y:Int),i<=k->l[k]? =some y->cur[k]? =some (ZI y))
 len:(flT T l i).length=j
 lt:j<i
section
variable{w0 wr:World}{g cap i j:Nat}{l:List Int}{T:Int->Bool}
theorem Vo.skip(h:Vo w0 g cap l T i j wr){y:Int}(E:l[i]? =some y)(B:T y=true):Vo w0 g cap l T (i+1) j wr:=by
 obtain⟨c,d,q,u,z⟩:=h.ex;have e:flT T l (i+1)=flT T l i:=by rw[Wm T E,B];simp
 exact⟨h.chg,⟨c,d,q,by rw[e];exact u,λk y I=>z k y (by omega)⟩,by rw[e];exact h.len,by have:=h.lt;omega⟩
theorem Vo.put(h:Vo w0 g cap l T i j wr)(Z:l.length<=cap){y:Int}(u:l[i]? =some y)(R:T y=false):Vo w0 g cap l T (i+1) (j+1) (wr.setCell ⟨g,j,none⟩ (ZI y)):=by
 obtain⟨q,B,E,I,J⟩:=h.ex;have e:flT T l (i+1)=flT T l i++[y]:=by rw[Wm T u,R];simp
 have Xg:=h.lt;have U:i<l.length:=(Z1.1 u).1;refine⟨h.chg.setCell _ (.inl rfl),⟨q.setIfInBounds j (ZI y),B.set j _,by simp[E],λk z c=>?_,λk z c V=>?_⟩,by rw[e];simp[h.len],by omega⟩
 .rw[e]at c;rw[Array.getElem?_setIfInBounds];by_cases d:j=k;·subst d;rw[List.getElem?_append_right (by rw[h.len];exact Zv _),h.len]at c;simp at c;rw[if_pos rfl,if_pos (by omega),c]
  .rw[if_neg d];have:k<(flT T l i).length:=by have K:=(Z1.1 c).1;simp[h.len]at K;rw[h.len];omega
   rw[List.getElem?_append_left this]at c;exact I k z c
 .rw[Array.getElem?_setIfInBounds_ne (by omega)];exact J k z (by omega) V
theorem Vo.cell(h:Vo w0 g cap l T i j wr){y:Int}(q:l[i]? =some y):wr.cell? ⟨g,i,none⟩=some (ZI y):=by obtain⟨c,d,u,z,k⟩:=h.ex;rw[d.cell];exact k i y (Zv _) q
theorem Vo.old(h:Vo w0 g cap l T i j wr)(E:j<cap):(∃u,wr.cell? ⟨g,j,none⟩=some u)/\wr.frozen? ⟨g,j,none⟩=false:=by
 obtain⟨c,k,q,z,B⟩:=h.ex;have d:j<c.size:=by omega
 exact⟨⟨c[j],by rw[k.cell,Array.getElem?_eq_getElem d]⟩,k.frozen j⟩
theorem N0{t:TypeId}:∀(vs:List Value)(o:Nat)(w)(cs:Array Value),Qh w g cs t->∃c,Qh (w.setCells g o vs) g c t/\c.size=cs.size/\(∀k,k<o->c[k]? =cs[k]?)/\Qc (λk=>k=g) w (w.setCells g o vs)
 |[],o,w,cs,h=>⟨cs,h,rfl,λ_ _=>rfl,Zg _ _⟩
 |v::vs,o,w,cs,h=>by
  obtain⟨c,d,q,u,z⟩:=N0 vs (o+1) (w.setCell ⟨g,o,none⟩ v) _ (h.set o v);refine⟨c,d,by rw[q];simp,λk E=>?_,?_⟩;·rw[u k (by omega),Array.getElem?_setIfInBounds_ne (by omega)]
  .have B:Qc (λk=>k=g) w (w.setCell ⟨g,o,none⟩ v):=(Zg _ _).setCell _ (.inl rfl);exact B.aA z
theorem Vo.fin(h:Vo w0 g cap l T l.length j wr)(hc:l.length<=cap)(K:cap<=maxLen)(vs:List Value):Q6 (wr.setCells g j vs) (.slice (some ⟨g,0,none⟩) j cap) (l.filter λy=>!T y)/\Qc (λk=>k=g) w0 (wr.setCells g j vs):=by
 obtain⟨u,E,I,z,h4⟩:=h.ex;obtain⟨q,U,V,Z,k4⟩:=N0 vs j wr u E;have e:flT T l l.length=l.filter λy=>!T y:=by unfold flT;rw[List.take_length]
 have c:=h.len;have Xg:=h.lt;rw[e]at c z;have B:∀L:List Int,Jm W7 L=L.map λx=>Value.int .i64 x:=λL=>by
  induction L with
  |nil=>rfl
  |cons a L R=>exact congrArg (Value.int .i64 a:: ·) R
 refine⟨⟨by rw[B];simp,.inr ⟨g,cap,q,by rw[c],Nat.zero_le _,U,by rw[c];omega,K,by rw[V,I];simp,?_⟩⟩,h.chg.aA k4⟩;rw[B,c];apply List.ext_getElem?;intro k;rw[List.getElem?_take,List.getElem?_map];by_cases J:k<j
 .rw[if_pos (by omega)];have d:k<(l.filter λy=>!T y).length:=by omega
  rw[List.getElem?_eq_getElem d];have:=z k _ (List.getElem?_eq_getElem d);rw[<-Z k J]at this;simpa using this
 .rw[if_neg (by omega),List.getElem?_eq_none (by omega)];rfl
end
theorem Vo.start{w}{g cap i:Nat}{l:List Int}{T:Int->Bool}{c:Array Value}(K:Qh w g c 3)(Z:c.size=cap)(E:∀(k:Nat)(y:Int),l[k]? =some y->c[k]? =some (ZI y)){y:Int}(I:l[i]? =some y)(R:T y=true)(U:∀(k:Nat)(z:Int),k<i->l[k]? =some z->T z=false):Vo w g cap l T (i+1) i w:=by
 have J:flT T l i=l.take i:=by
  unfold flT;refine List.filter_eq_self.2 λz B=>?_;obtain⟨k,d,rfl⟩:=List.getElem_of_mem B;have q:k<i:=by simp at d;omega
  have u:k<l.length:=by simp at d;omega
  rw[List.getElem_take];rw[U k _ q (List.getElem?_eq_getElem u)];rfl
 have e:flT T l (i+1)=l.take i:=by rw[Wm T I,R,J];simp
 have V:i<l.length:=(Z1.1 I).1;refine⟨Zg _ _,⟨c,K,Z,λk z d=>?_,λk z _ B=>E k z B⟩,by rw[e];simp;omega,by omega⟩;rw[e,List.getElem?_take]at d;split at d;·exact E k z d
 .cases d
theorem Qjq(w):(zeroValue 3).run prog w=.ok (ZI 0) w:=by go_simp
theorem Vo.oldA{w0 wr}{g cap i j k:Nat}{l:List Int}{T:Int->Bool}(h:Vo w0 g cap l T i j wr)(B:k<cap):∃u,wr.cell? ⟨g,k,none⟩=some u:=by
 obtain⟨c,q,z,_⟩:=h.ex;have d:k<c.size:=by omega
 exact⟨c[k],by rw[q.cell,Array.getElem?_eq_getElem d]⟩
theorem Vo.frozenA{w0 wr}{g cap i j:Nat}{l:List Int}{T:Int->Bool}(h:Vo w0 g cap l T i j wr)(k:Nat):wr.frozen? ⟨g,k,none⟩=false:=by obtain⟨c,d,_⟩:=h.ex;exact d.frozen k
theorem Vo.fin0{w0 wr}{g cap j n:Nat}{l:List Int}{T:Int->Bool}(h:Vo w0 g cap l T n j wr)(q:n=l.length)(c:n<=cap)(d:cap<=maxLen)(vs:List Value):Q6 (wr.setCells g j vs) (.slice (some ⟨g,0,none⟩) j cap) (l.filter λy=>!T y)/\Qc (λk=>k=g) w0 (wr.setCells g j vs):=by subst q;exact h.fin c d vs
theorem Qex{w}{g cap:Nat}{l:List Int}{R:Array Value}(hB:Qh w g R 3)(hs:R.size=cap)(hc:∀(k:Nat)(y:Int),l[k]? =some y->R[k]? =some (ZI y))(I:l.length<=cap)(hm:cap<=maxLen)(hI:Q6 w (.slice (some ⟨g,0,none⟩) l.length cap) l)(hl:l.length<1099511627776)
  (gf:FuncId) (c:Array Value) (eg:∀E w,(callFunc gf E).run prog w=.ok (.enter gf E) w) (T:Int->Bool)
  (hT:∀w',Qc (λk=>k=g) w w'->∀y,Cl gf (#[ZI y]++c) w' λe ag=>e=.returned (.bool (T y))/\w'=ag):
  Cl 183 #[.slice (some ⟨g,0,none⟩) l.length cap,.func (.func gf) #[] c] w λe w'=>∃n,e=.returned (.slice (some ⟨g,0,none⟩) n cap)/\Q6 w' (.slice (some ⟨g,0,none⟩) n cap) (l.filter λy=>!T y)/\Qc (λk=>k=g) w w':=by
 have HT:=O hT;have aa:=O (Qkq hI hl gf c eg T (hT w (Zg _ _)));have K:=O (λ(i:Nat)(y:Int)(hy:l[i]? =some y)(h1:T y=true)(h2:∀(k:Nat)(z:Int),k<i->l[k]? =some z->T z=false)=>Vo.start hB hs hc hy h1 h2);have HI:=O hI;obtain⟨n,hn⟩:=Zx (l.length);have q:=O hn;have HM:=O hm;rw[<-hn]at hl I aa HI|-;clear hT hI hB hs hc hn hm;apply WH func183;go_wp2_with fail;apply Zo aa;rintro e w1⟨ix,rfl,rfl,hf⟩;cases hf with
 |none ae=>
  have d:Hi (l.filter (λy=>!T y)=l):=O (List.filter_eq_self.2 λz V=>by
   obtain⟨k,hk,rfl⟩:=List.getElem_of_mem V;rw[ae k _ (List.getElem?_eq_getElem hk)];rfl)
  clear ae;go_wp2;go_ret;exact⟨n,rfl,by rw[d.o];exact HI.o,Zg _ _⟩
 |some i y hy h1 h2=>
  have am:i<n:=by have:=q.o;have:=(Z1.1 hy).1;omega
  have ST:=O (K.o i y hy h1 h2);have e1:((i:Int)== -1)=false:=by simp
  have e2:decide ((i:Int)= -1)=false:=by simp
  have ew:IntKind.i64.wrap ((i:Int)+1)=(i:Int)+1:=by rw[IntWalk.i64_in _ (by omega)]
  clear hy h1 h2;go_wp2_with fail;go_loopw [5,6] (λtj ti wr=>∃j i:Nat,tj=ZI j/\ti=ZI i/\i<=n/\j<i/\Vo w g cap l T i j wr) (λ_ ti _=>n-(intOf ti).toNat);case atStart=>exact⟨i,i+1,rfl,by rw[<-Int.natCast_one,<-Int.natCast_add],by omega,by omega,ST.o⟩
  case round=>
   obtain⟨j,k,rfl,rfl,ap,af,hD⟩:=hrel;have B:=O hD;clear hD;by_cases hk:k<n
   .have hd:decide ((k:Int)<(n:Int))=true:=by simp;omega
    have U:k<l.length:=by have:=q.o;omega
    obtain⟨z,V⟩:∃z,l[k]? =some z:=⟨_,List.getElem?_eq_getElem U⟩;have ak:=B.o.cell V;have HC:=O (HT.o wr B.o.chg z);have aj:IntKind.i64.wrap ((k:Int)+1)=(k:Int)+1:=by rw[IntWalk.i64_in _ (by omega)]
    have ai:IntKind.i64.wrap ((j:Int)+1)=(j:Int)+1:=by rw[IntWalk.i64_in _ (by omega)]
    cases Z:T z with
    |true=>
     have J:=O (B.o.skip V Z);rw[Z]at HC;clear V U Z;go_wp2_with fail;apply Zy HC;rintro w1 rfl;go_wp2;go_roundw;case measure=>simp only[intOf];omega
     case rel=>exact⟨j,k+1,rfl,by rw[<-Int.natCast_one,<-Int.natCast_add],by omega,by omega,J.o⟩
    |false=>
     have J:=O (B.o.put (by have:=q.o;omega) V Z);obtain⟨⟨u,hu⟩,al⟩:=B.o.old (by omega);have ao:decide ((j:Int)<(n:Int))=true:=by simp;omega
     rw[Z]at HC;clear V U Z;go_wp2_with fail;apply Zy HC;rintro w1 rfl;go_wp2;go_roundw;case measure=>simp only[intOf];omega
     case rel=>exact⟨j+1,k+1,by rw[<-Int.natCast_one,<-Int.natCast_add],by rw[<-Int.natCast_one,<-Int.natCast_add],by omega,by omega,J.o⟩
   .have hd:decide ((k:Int)<(n:Int))=false:=by simp;omega
    have ac:k=n:=by omega
    subst ac;have an:j<k:=af;have ab:=Lib.run_clear_slice (P:=prog) wr 100 3 0 (ZI 0) underlying100 Qjq rfl rfl g j (k-j) (cap-j) (by omega)
     (λx hx=>by obtain⟨u,hu⟩:=B.o.oldA (show j+x<cap by omega);rw[hu];rfl) (λx hx=>B.o.frozenA (j+x))
    have d:=O (B.o.fin0 q.o I HM.o (List.replicate (k-j) (ZI 0)));generalize wr.setCells g j (List.replicate (k-j) (ZI 0))=W at ab d;have ah:decide ((j:Int)<=(cap:Int))=true:=by simp;omega
    go_wp2_with fail;go_ret;exact⟨j,rfl,d.o⟩
theorem Qn9(g:Nat)(id y:Int)(w:World)(h:w.cell? ⟨g,0,none⟩=some (ZI id)):
  Cl 184 (#[ZI y]++#[ptr g]) w λe w'=>e=.returned (.bool (decide (y=id)))/\w=w':=by
 show Cl 184 #[ZI y,ptr g] w _;unfold ptr;apply WH func184;go_wp2;go_ret;exact⟨congrArg (λb=>Ending.returned (Value.bool b)) (by by_cases e:y=id<;>simp[e]),rfl⟩
section
variable{w w':World}{F:Fp}{m:Nat}{vs:List (Int×Value)}{h:Qm}
theorem Y7.del(u:Y7 w F m vs h)(i:Int)(J:h.aM i=[])(K:Xq w' m (Vu i vs))(E:Qc (λj=>j=m) w w'):Y7 w' F m (Vu i vs) h:=by
 have c:∀p,p∈Vu i vs->p∈vs:=λp d=>(List.mem_filter.1 d).1;refine⟨K,u.bd.later E,u.at_,λp d=>(u.has p (c p d)).aB E (λk z e=>(u.own p (c p d) k z).2 e),λp d=>u.own p (c p d),λp d q R=>u.dis p (c p d) q (c q R),λk z=>?_⟩;by_cases e:k=i;·rw[e];exact J
 .refine u.miss k λp d=>?_;by_cases B:p.1=i;·intro I;exact e (I.symm.trans B)
  .exact z p (List.mem_filter.2 ⟨d,by simpa using B⟩)
theorem Y7.same{h':Qm}(c:Y7 w F m vs h)(e:∀i,h'.aM i=h.aM i):Y7 w F m vs h':=
 ⟨c.map,c.bd,c.at_,λp k=>by rw[e];exact c.has p k,c.own,c.dis,λi d=>by rw[e];exact c.miss i d⟩
end
theorem Hu{k:Int}{v:Value}{q:Int×Value}:∀{l:List (Int×Value)},(l.map (·.1)).Nodup->q∈Oi k v l->q=(k,v)\/(q∈l/\q.1≠k)
 |[],_,c=>.inl (by simpa[Oi]using c)
 |p::l,hn,c=>by
  simp only[List.map_cons,List.nodup_cons]at hn;rw[Oi]at c;by_cases d:k=p.1
  .rw[if_pos d]at c;rcases Zu.1 c with rfl|c;·exact .inl rfl
   .refine .inr ⟨by simp[c],λe=>hn.1 ?_⟩;rw[<-d,<-e];exact Z3.2 ⟨q,c,rfl⟩
  .rw[if_neg d]at c;rcases Zu.1 c with rfl|c;·exact .inr ⟨by simp,λe=>d e.symm⟩
   .rcases Hu hn.2 c with h|h;·exact .inl h
    .exact .inr ⟨by simp[h.1],h.2⟩
theorem Qbr(k:Int)(v:Value):∀(l:List (Int×Value)),(k,v)∈Oi k v l
 |[]=>by simp[Oi]
 |p::l=>by
  rw[Oi];split;·simp
  .simp[Qbr k v l]
theorem Qbs{k:Int}{v:Value}{q:Int×Value}:∀{l:List (Int×Value)},q∈l->q.1≠k->q∈Oi k v l
 |p::l,c,hk=>by
  rw[Oi];rcases Zu.1 c with rfl|c;·rw[if_neg (λe=>hk e.symm)];simp
  .split;·simp[c]
   .simp[Qbs c hk]
section
variable{w w':World}{F S:Fp}{m:Nat}{vs:List (Int×Value)}{h h':Qm}
theorem Y7.put(d:Y7 w F m vs h){i:Int}{v':Value}(hu:∀k,k≠i->h'.aM k=h.aM k)(hI:Q6 w' v' (h'.aM i))(z:∀k,v'.ownBlock=some k->(∃v,(i,v)∈vs/\v.ownBlock=some k)\/(w.heap.size<=k/\k<w'.heap.size))
  (hm:Xq w' m (Oi i v' vs)) (hc:Qc S w w') (hS:∀k,S k->k=m\/∃v,(i,v)∈vs/\v.ownBlock=some k):Y7 w' (Qn F w w') m (Oi i v' vs) h'/\Qc F w w':=by
 have hn:=d.map.nodup;have ab:=d.bd m d.at_;have E:∀p∈vs,p.1≠i->∀k,p.2.ownBlock=some k->F k/\k≠m/\k<w.heap.size/\∀v,(i,v)∈vs->v.ownBlock≠some k:=λp c u k B=>
  ⟨(d.own p c k B).1,(d.own p c k B).2,d.bd k (d.own p c k B).1,λv z e=>u (d.dis p c (i,v) z k B e)⟩
 refine⟨⟨hm,d.bd.ext hc,.inl d.at_,λp c=>?_,λp c k B=>?_,λp c q R k J K=>?_,λk B=>?_⟩,hc.sub λk B=>?_⟩
 .rcases Hu hn c with rfl|⟨c,u⟩;·exact hI
  .rw[hu _ u];refine(d.has p c).aB hc λk B hs=>?_;obtain⟨_,I,_,V⟩:=E p c u k B;rcases hS k hs with e|⟨v,z,e⟩;·exact I e
   .exact V v z e
 .rcases Hu hn c with rfl|⟨c,u⟩
  .rcases z k B with⟨v,z,e⟩|⟨U,I⟩;·exact⟨.inl (d.own _ z k e).1,(d.own _ z k e).2⟩
   .exact⟨.inr ⟨U,I⟩,by omega⟩
  .obtain⟨U,I,_⟩:=E p c u k B;exact⟨.inl U,I⟩
 .rcases Hu hn c with rfl|⟨c,u⟩
  .rcases Hu hn R with rfl|⟨R,aa⟩;·rfl
   .obtain⟨_,_,h3,V⟩:=E q R aa k K;rcases z k J with⟨v,z,e⟩|⟨U,I⟩;·exact(V v z e).elim
    .omega
  .obtain⟨_,_,h3,V⟩:=E p c u k J;rcases Hu hn R with rfl|⟨R,aa⟩
   .rcases z k K with⟨v,z,e⟩|⟨U,I⟩;·exact(V v z e).elim
    .omega
   .exact d.dis p c q R k J K
 .have Z:k≠i:=λe=>B _ (Qbr i v' vs) e.symm;rw[hu k Z];refine d.miss k λp c e=>?_;exact B p (Qbs c (by rw[e];exact Z)) e
 .rcases hS k B with rfl|⟨v,z,e⟩;·exact d.at_
  .exact(d.own _ z k e).1
end
theorem Qm.aE{h:Qm}{i:Int}{c:Vm}(d:h.at i=some c):c∈h/\c.sp.id=i:=by unfold Qm.at at d;exact⟨List.mem_of_find?_eq_some d,by simpa using List.find?_some d⟩
theorem Qm.drop_eq{h:Qm}{i:Int}{c:Vm}(d:h.at i=some c)(k:h.aM i=[]):h.drop i=h.filter λx=>!decide (x.sp.id=i):=by
 have e:h.aP i=0:=by unfold Qm.aP;rw[d];simp[k]
 unfold Qm.drop;rw[if_pos e]
theorem Qj7(l:List Vm)(i:Int):Vu i (Us l)=Us (l.filter λx=>!decide (x.sp.id=i)):=by unfold Vu Us;rw[List.filter_map];congr 1
theorem Ij{h:Qm}{i k:Int}{c:Vm}(V:(h.map Vm.id).Nodup)(R:h.at i=some c)(U:k≠c.sp.par):Qm.aM (h.filter λx=>!decide (x.sp.id=i)) k=h.aM k:=by
 rw[Ph];refine List.filter_eq_self.2 λy hy=>?_;obtain⟨x,Z,rfl,d⟩:=Sx hy;obtain⟨E,z⟩:=Qm.aE R;by_cases e:x.sp.id=i
 .have I:x=c:=by
   have:∀(l:List Vm),(l.map Vm.id).Nodup->x∈l->c∈l->x=c:=by
    intro l;induction l with
    |nil=>intro _ h;cases h
    |cons a l ih=>
     intro B K J;simp only[List.map_cons,List.nodup_cons]at B;rcases Zu.1 K with u|u
     .rcases Zu.1 J with q|q;·rw[u,q]
      .exact absurd (Z3.2 ⟨c,q,show c.sp.id=a.sp.id by rw[<-u,z,e]⟩) B.1
     .rcases Zu.1 J with q|q;·exact absurd (Z3.2 ⟨x,u,show x.sp.id=a.sp.id by rw[<-q,z,e]⟩) B.1
      .exact ih B.2 u q
   exact this h V Z E
  rw[I]at d;exact absurd d.symm U
 .simp[e]
section
variable{w w':World}{F:Fp}{b:Nat}{h:Qm}
theorem Q9.opn(hh:Q9 w F b h):∃ma mu l vs G,l.Perm h/\(l.map Vm.id).Nodup/\Qh w b #[.map (some ma),.map (some mu)] 114/\Xq w ma (Us l)/\Y7 w G mu vs h/\F b/\F ma/\(∀k,G k->F k)/\¬G b/\¬G ma/\b≠ma/\Bd F w/\
  ∀w' V u h',V.Perm h'->Xq w' ma (Us V)->Y7 w' (Qn G w w') mu u h'->Qc (λk=>k=ma\/G k) w w'->Q9 w' (Qn F w w') b h'/\Qc F w w':=by
 obtain⟨ma,mu,l,vs,hp,U,G0,R0,B,⟨ab,G1,R1,E,⟨ac,z,R2,g2,_,_,s4,_⟩,d1,s2,s3⟩,d0,s0,s1⟩:=hh;have nb:b≠ma:=λe=>d0 b B.2.1 (e▸s2 _ E.2.1);have f2:∀k,z k->F k:=λk c=>s1 _ (s3 _ (s4 _ c));have nG:¬z b:=λc=>d0 b B.2.1 (s3 _ (s4 _ c));have nA:¬z ma:=λc=>d1 ma E.2.1 (s4 _ c);have fb:=s0 _ B.2.1;have R:=s1 _ (s2 _ E.2.1);refine⟨ma,mu,l,vs,z,hp,by have:=E.1.nodup;rwa[Ma]at this,B.1,E.1,g2,fb,R,f2,nG,nA,nb,U,λw' V u h' aa d q J=>?_⟩;have K:Qc F w w':=J.sub λk c=>c.elim (λe=>e▸R) (f2 k);have ae:=U _ fb;have af:=U _ R;have Z:Bd (Qn F w w') w':=U.ext K;have I:Qh w' b #[.map (some ma),.map (some mu)] 114:=J.blk B.1 (λc=>c.elim nb nG);refine⟨⟨ma,mu,V,u,aa,?_⟩,K⟩;refine Q7 (G:=λk=>k=b) (H:=λk=>k=ma\/Qn z w w' k) ⟨I,rfl,λk e=>e▸I.lt⟩ ?_ ?_ (λk e=>.inl (e▸fb)) ?_ Z
 .refine Q7 (G:=λk=>k=ma) (H:=Qn z w w') ⟨d,rfl,λk e=>e▸d.lt⟩ (Y6 q q.bd) ?_ (λk e=>.inl e) (λk c=>.inr c) ?_
  .rintro k rfl c;rcases c with c|c;·exact nA c
   .omega
  .rintro k(e|c);·exact e▸d.lt
   .exact q.bd k c
 .rintro k rfl(e|c|c);·exact nb e
  .exact nG c
  .omega
 .rintro k(e|c);·exact .inl (e▸R)
  .exact Qn.mono f2 k c
end
section
variable{w:World}{v:Value}{l:List Int}
theorem Wo(l:List Int):Jm W7 l=l.map λx=>Value.int .i64 x:=by
 induction l with
 |nil=>rfl
 |cons x l c=> rw[V8,c];rfl
theorem Q6.opn(h:Q6 w v l)(I:l≠[]):∃g cap c,v=.slice (some ⟨g,0,none⟩) l.length cap/\Qh w g c 3/\c.size=cap/\(∀(k:Nat)(y:Int),l[k]? =some y->c[k]? =some (ZI y))/\l.length<=cap/\cap<=maxLen:=by
 obtain⟨R,z|⟨g,cap,c,rfl,U,B,J,q,K,d⟩⟩:=h;·exact absurd (List.eq_nil_of_length_eq_zero z.2) I
 .refine⟨g,cap,c,rfl,B,by omega,λk y u=>?_,J,q⟩;have E:k<l.length:=(Z1.1 u).1;have e:(c.toList.take (l.length*1))[k]? =(l.map λx=>Value.int .i64 x)[k]? :=by rw[d,Wo]
  rw[List.getElem?_take_of_lt (by omega),List.getElem?_map,u]at e;simpa using e
end
section
variable{s:Yk}
theorem Cq(h:s.mayE=0):1<=s.id/\s.id<=65535/\0<=s.par/\s.par<=65535/\s.id≠s.par:=by grind [Yk.mayE,Vm.id,Yk.named,inB]
theorem Md(h:s.mayE=0):s.real.May/\s.share.May/\s.aN.May:=by grind [Yk.mayE,Yk.curvesB]
theorem Qam(h:s.mayE=0)(c:s.leaf=true):1<=s.pk/\s.pk<=4096/\1<=s.bt/\s.bt<=16777216:=by grind [Yk.mayE,Qf.leaf,Yk.shapedB,inB]
end
section
variable{h:Qm}
theorem Wu{i:Int}(d:h.at i=none):∀c∈h,c.sp.id≠i:=by simpa[Qm.at]using d
theorem Da(u:Ex h){c:Vm}(k:c∈h):h.at c.sp.id=some c:=by have q:(h.map Vm.id).Nodup:=List.pairwise_map.2 (u.imp λ{a b}d(e:a.sp.id=b.sp.id)=>by omega);exact Ls (key:=Vm.id) q k rfl
theorem Qtm(c:Vm)(z:h.at c.sp.id=none)(k:Int):Qm.at (Mb c h) k=if k=c.sp.id then some c else h.at k:=by
 have q:=Wu z;clear z;unfold Qm.at;induction h with
 |nil=>
  rw[Mb,List.find?_cons];by_cases e:k=c.sp.id;·simp[e]
  .have:¬c.sp.id=k:=λd=>e d.symm;simp[e,this]
 |cons x l u=>
  have u:=u λy E=>q y (Zr _ E);have B:=q x List.mem_cons_self;rw[Mb];split
  .rw[List.find?_cons];by_cases e:k=c.sp.id;·simp[e]
   .have:¬c.sp.id=k:=λd=>e d.symm;simp only[this,decide_false];rw[if_neg e]
  .rw[List.find?_cons,List.find?_cons];by_cases e:x.sp.id=k;·have:¬k=c.sp.id:=λd=>B (by rw[e,d]);simp only[e,decide_true];rw[if_neg this]
   .simp only[e,decide_false];exact u
theorem Qtn(f:Vm->Vm)(u:∀c,(f c).sp.id=c.sp.id)(i k:Int):Qm.at (h.map λx=>if x.sp.id=i then f x else x) k=if k=i then(h.at i).map f else h.at k:=by
 unfold Qm.at;induction h with
 |nil=>simp
 |cons x l z=>
  rw[List.map_cons,List.find?_cons,List.find?_cons,List.find?_cons];by_cases d:x.sp.id=i
  .rw[if_pos d];by_cases e:k=i;·simp[u,d,e]
   .have B:¬(f x).sp.id=k:=λq=>e (by rw[<-q,u,d]);have E:¬x.sp.id=k:=λq=>e (by rw[<-q,d]);simp only[B,E,decide_false];rw[z,if_neg e,if_neg e]
  .rw[if_neg d];by_cases e:x.sp.id=k;·have:¬k=i:=λq=>d (by rw[e,q]);simp only[e,decide_true];rw[if_neg this]
   .simp only[e,d,decide_false];exact z
theorem Qkj(i k:Int):Qm.at (h.filter λx=>!decide (x.sp.id=i)) k=if k=i then none else h.at k:=by grind [Qm.at,Vm.id,Jy.at,Tr.at,Xh.at]
structure J8(h:Qm):Prop where
 sorted:Ex h
 may:∀c∈h,c.sp.mayE=0
 par:∀c∈h,(c.sp.par=0/\c.d=1)\/∃q,h.at c.sp.par=some q/\q.sp.leaf=false/\c.d=q.d+1
 dep:∀c∈h,1<=c.d/\c.d<=8
 many:h.length<=64
def Xk(h:Qm)(i:Int):Nat:=match h.at i with
 |none=>0
 |some c=>c.d
theorem V7{i:Int}{c:Vm}(d:h.at i=some c):Xk h i=c.d:=by unfold Xk;rw[d]
theorem Kr{i:Int}(c:h.at i=none):Xk h i=0:=by unfold Xk;rw[c]
theorem J8.nil:J8 []:=⟨List.Pairwise.nil,nofun,nofun,nofun,Nat.zero_le _⟩
theorem J8.pos(u:J8 h){i:Int}{c:Vm}(q:h.at i=some c):1<=i/\i<=65535/\0<=c.sp.par/\i≠c.sp.par/\c.sp.id=i/\c∈h:=by obtain⟨k,d⟩:=Qm.aE q;have:=Cq (u.may c k);rw[d]at this;exact⟨this.1,this.2.1,this.2.2.1,this.2.2.2.2,d,k⟩
theorem J8.zero(k:J8 h){i:Int}(q:i<1):h.at i=none:=by
 cases d:h.at i with
 |none=>rfl
 |some c=>have:=(k.pos d).1;omega
theorem J8.nodup(d:J8 h):(h.map Vm.id).Nodup:=List.pairwise_map.2 (d.sorted.imp λ{a b}c(e:a.sp.id=b.sp.id)=>by omega)
theorem Qgy(k:J8 h){c:Int}(d:h.depth c≠0):(c=0/\h.depth c=1)\/∃q,h.at c=some q/\q.sp.leaf=false/\h.depth c=q.d+1/\q.d<8:=by grind [Qm.depth,Jy.at,Tr.at,Xh.at,Qf.leaf]
theorem Ub{s:Yk}(c:h.aO s=0):s.mayE=0/\h.length<64/\h.at s.id=none/\h.depth s.par≠0:=by
 unfold Qm.aO at c;split at c;·cases c
 .rename_i q;split at c;·cases c
  .rename_i u;split at c;·cases c
   .rename_i d;split at c;·cases c
    .rename_i k;exact⟨by omega,by omega,by simpa using d,k⟩
theorem Bv{s:Yk}(c:h.aO s=0):h.add s=Mb ⟨s,h.depth s.par⟩ h:=by unfold Qm.add;rw[if_pos c]
theorem Qjv{s:Yk}(c:h.aO s=0)(k:Int):(h.add s).at k=if k=s.id then some ⟨s,h.depth s.par⟩else h.at k:=by rw[Bv c];exact Qtm ⟨s,h.depth s.par⟩ (Ub c).2.2.1 k
theorem J8.add(E:J8 h){s:Yk}(I:h.aO s=0):J8 (h.add s):=by
 obtain⟨R,h2,U,Z⟩:=Ub I;have z:=Qjv I;have V:=Qgy E Z;have J:=Wu U;have K:s.par≠s.id:=λe=>(Cq R).2.2.2.2 e.symm;rw[Bv I]at z|-;have u:∀x,x∈Mb ⟨s,h.depth s.par⟩ h->x∈h\/x=⟨s,h.depth s.par⟩:=λx hx=>by have:=(Ef ⟨s,h.depth s.par⟩ h).mem_iff.1 hx;simpa using this
 refine⟨Wz _ E.sorted J,λc d=>?_,λc d=>?_,λc d=>?_,?_⟩
 .rcases u c d with d|rfl;·exact E.may c d
  .exact R
 .rcases u c d with d|rfl
  .refine(E.par c d).imp id λ⟨q,B,k⟩=>⟨q,?_,k⟩;rw[z,if_neg ?_];·exact B
   .intro e;rw[e,U]at B;cases B
  .refine V.imp (λh=>h) λ⟨q,B,k1,k2,_⟩=>⟨q,?_,k1,k2⟩;show Qm.at _ s.par=_;rw[z,if_neg K];exact B
 .rcases u c d with d|rfl;·exact E.dep c d
  .rcases V with⟨_,e⟩|⟨q,B,_,e,h8⟩;·show 1<=h.depth s.par/\h.depth s.par<=8;omega
   .show 1<=h.depth s.par/\h.depth s.par<=8;omega
 .have:=(Ef ⟨s,h.depth s.par⟩ h).length_eq;simp only[List.length_append,Zm,List.length_nil]at this;omega
theorem Gb{s:Yk}(d:h.aG s=0):∃c,h.at s.id=some c/\(c.sp.aK s).mayE=0:=by
 unfold Qm.aG at d;cases k:h.at s.id with
 |none=>rw[k]at d;cases d
 |some c=>
  rw[k]at d;dsimp only at d;split at d;·cases d
  .rename_i e;exact⟨c,rfl,by omega⟩
theorem Si{s:Yk}(c:h.aG s=0)(k:Int):(h.change s).at k=if k=s.id then(h.at s.id).map (λx=>⟨x.sp.aK s,x.d⟩)else h.at k:=by unfold Qm.change;rw[if_pos c];exact Qtn (λx=>⟨x.sp.aK s,x.d⟩) (λ_=>rfl) s.id k
theorem J8.change(z:J8 h){s:Yk}(I:h.aG s=0):J8 (h.change s):=by
 obtain⟨c0,K,hm⟩:=Gb I;have k:=Si I;unfold Qm.change at k|-;rw[if_pos I]at k|-;have d:∀x,x∈(h.map λx=>if x.sp.id=s.id then(⟨x.sp.aK s,x.d⟩:Vm)else x)->∃y∈h,x.d=y.d/\x.sp.par=y.sp.par/\x.sp.leaf=y.sp.leaf/\x.sp.mayE=0:=λx hx=>by
  obtain⟨y,u,rfl⟩:=Z3.1 hx;refine⟨y,u,?_⟩;by_cases e:y.sp.id=s.id
  .rw[if_pos e];have:y=c0:=by have U:=Da z.sorted u;rw[e,K]at U;exact(Zs U).symm
   rw[this];exact⟨rfl,rfl,rfl,hm⟩
  .rw[if_neg e];exact⟨rfl,rfl,rfl,z.may y u⟩
 refine⟨?_,λc B=>(d c B).choose_spec.2.2.2.2,λc B=>?_,λc B=>?_,by rw[List.length_map];exact z.many⟩
 .refine List.pairwise_map.2 (z.sorted.imp λ{a b}J=>?_);have e:∀x:Vm,(if x.sp.id=s.id then(⟨x.sp.aK s,x.d⟩:Vm)else x).sp.id=x.sp.id:=λx=>by split<;>rfl
  rw[e,e];exact J
 .obtain⟨y,u,E,e2,e3,_⟩:=d c B;rw[E,e2];refine(z.par y u).imp id λ⟨q,R,V,Z⟩=>?_;rw[k];split;·rename_i e;rw[e]at R;rw[R];exact⟨_,rfl,V,Z⟩
  .exact⟨q,R,V,Z⟩
 .obtain⟨y,u,E,_⟩:=d c B;rw[E];exact z.dep y u
theorem Tz{i:Int}(d:h.aP i=0):∃c,h.at i=some c/\h.aM i=[]:=by
 unfold Qm.aP at d;cases k:h.at i with
 |none=>rw[k]at d;cases d
 |some c=>
  rw[k]at d;dsimp only at d;split at d;·cases d
  .rename_i e;exact⟨c,rfl,by simpa using e⟩
theorem Qby{i:Int}(k:h.aM i=[]):∀c∈h,c.sp.par≠i:=λc d e=>by have:c.sp.id∈h.aM i:=Z3.2 ⟨c,List.mem_filter.2 ⟨d,by simpa using e⟩,rfl⟩;rw[k]at this;cases this
theorem We{i:Int}(c:h.aP i=0)(k:Int):(h.drop i).at k=if k=i then none else h.at k:=by unfold Qm.drop;rw[if_pos c];exact Qkj i k
theorem J8.drop(B:J8 h){i:Int}(E:h.aP i=0):J8 (h.drop i):=by obtain⟨V,J,R⟩:=Tz E;have u:=We E;have I:=Qby R;unfold Qm.drop at u|-;rw[if_pos E]at u|-;have d:∀x,x∈(h.filter λx=>!decide (x.sp.id=i))->x∈h:=λx U=>(List.mem_filter.1 U).1;refine⟨B.sorted.filter _,λc z=>B.may c (d c z),λc z=>?_,λc z=>B.dep c (d c z),Zp (List.length_filter_le _ _) B.many⟩;refine(B.par c (d c z)).imp id λ⟨q,K,k⟩=>⟨q,?_,k⟩;rw[u,if_neg (I c (d c z))];exact K
theorem Qhj(z:J8 h):∀{n:Nat}{i j:Int}{c:Vm},Xk h i<n->j∈h.path n i->h.at j=some c->c.sp.par≠0->c.sp.par∈h.path n i
 |0,i,j,c,hd,_,_,_=>by omega
 |n+1,i,j,c,hd,d,hc,hp=>by
  rw[Qm.path]at d|-;cases u:h.at i with
  |none=>rw[u]at d;cases d
  |some x=>
   rw[u]at d;dsimp only at d|-;rw[V7 u]at hd;obtain⟨E,R⟩:=Qm.aE u;have key:x.sp.par≠0->∃q,h.at x.sp.par=some q/\x.d=q.d+1/\1<=q.d:=λB=>by
    rcases z.par x E with J|⟨q,k,_,K⟩;·exact absurd J.1 B
    .exact⟨q,k,K,(z.dep q (Qm.aE k).1).1⟩
   rcases Zu.1 d with rfl|d;·rw[u]at hc;obtain rfl:=Zs hc;obtain⟨q,k,e,I⟩:=key hp;refine Zr _ ?_;obtain⟨m,rfl⟩:∃m,n=m+1:=⟨n-1,by omega⟩;rw[Qm.path,k];exact List.mem_cons_self
   .by_cases B:x.sp.par=0
    .have U:=z.zero (i:=x.sp.par) (by omega);cases n with
     |zero=>rw[Qm.path]at d;cases d
     |succ m=>rw[Qm.path,U]at d;cases d
    .obtain⟨q,k,e,I⟩:=key B;refine Zr _ (Qhj z ?_ d hc hp);rw[V7 k];omega
theorem Y8{id x:Int}:x∈h.aI id↔∃c∈h,c.sp.id=x/\c.sp.leaf=true/\(id=0\/id∈h.path 9 x):=by grind [Qm.aI,Vm.id,Qf.leaf,Qe.path,Qm.path,Qm.below]
theorem Ut(c:J8 h)(id:Int):(h.aI id).Pairwise (· < ·):=by unfold Qm.aI;exact List.pairwise_map.2 (c.sorted.filter _)
end
section
variable{h:Qm}
theorem Oq(z:J8 h){i:Int}{c:Vm}(d:h.at i=some c):(c.sp.par=0/\Xk h i=1)\/∃q,h.at c.sp.par=some q/\q.sp.leaf=false/\Xk h i=Xk h c.sp.par+1:=by rw[V7 d];refine(z.par c (Qm.aE d).1).imp id λ⟨q,k,u,e⟩=>⟨q,k,u,?_⟩;rw[V7 k];exact e
theorem Qhi(u:J8 h):∀{n:Nat}{i j:Int},j∈h.path n i->Xk h j<=Xk h i/\∃c,h.at j=some c
 |0,i,j,d=>by rw[Qm.path]at d;cases d
 |n+1,i,j,d=>by
  rw[Qm.path]at d;cases k:h.at i with
  |none=>rw[k]at d;cases d
  |some c=>
   rw[k]at d;dsimp only at d;rcases Zu.1 d with rfl|d;·exact⟨Zv _,c,k⟩
   .obtain⟨B,z⟩:=Qhi u d;refine⟨?_,z⟩;rcases Oq u k with⟨e,_⟩|⟨q,_,_,e⟩;·have:Xk h c.sp.par=0:=Kr (u.zero (by omega));omega
    .omega
theorem Fx(d:J8 h):∀(n:Nat)(i:Int),(h.path n i).Pairwise λa b=>Xk h b<Xk h a
 |0,i=>by rw[Qm.path];exact List.Pairwise.nil
 |n+1,i=>by
  rw[Qm.path];cases k:h.at i with
  |none=>exact List.Pairwise.nil
  |some c=>
   dsimp only;refine List.pairwise_cons.2 ⟨λj u=>?_,Fx d n _⟩;have B:=(Qhi d u).1;rcases Oq d k with⟨e,z⟩|⟨q,_,_,e⟩;·have:Xk h c.sp.par=0:=Kr (d.zero (by omega));omega
   .omega
theorem Qkk(J:J8 h){n:Nat}{i a b:Int}(ha:a∈h.path n i)(q:b∈h.path n i)(e:Xk h a=Xk h b):a=b:=by
 have B:=Fx J n i;generalize h.path n i=l at ha q B;induction l with
 |nil=>cases ha
 |cons x l I=>
  obtain⟨z,E⟩:=List.pairwise_cons.1 B;rcases Zu.1 ha with u|d
  .rcases Zu.1 q with k|c;·exact u.trans k.symm
   .have:=z b c;rw[<-u]at this;omega
  .rcases Zu.1 q with k|c;·have:=z a d;rw[<-k]at this;omega
   .exact I d c E
theorem P7:∀{n:Nat}{i k:Int},k∈h.path n i->k≠i->∃a c,a∈h.path n i/\h.at a=some c/\c.sp.par=k
 |0,i,k,q,_=>by rw[Qm.path]at q;cases q
 |n+1,i,k,q,hne=>by
  rw[Qm.path]at q|-;cases u:h.at i with
  |none=>rw[u]at q;cases q
  |some c=>
   rw[u]at q;dsimp only at q|-;rcases Zu.1 q with rfl|q;·exact absurd rfl hne
   .by_cases e:k=c.sp.par;·exact⟨i,c,List.mem_cons_self,u,e.symm⟩
    .obtain⟨a,d,z,B,E⟩:=P7 q e;exact⟨a,d,Zr _ z,B,E⟩
theorem Qdc(k:J8 h):∀{n:Nat}{i:Int}{c:Vm},h.at i=some c->Xk h i<=n->∃a d,a∈h.path n i/\h.at a=some d/\d.sp.par=0
 |0,i,c,hc,hd=>by have:=(k.dep c (Qm.aE hc).1).1;rw[V7 hc]at hd;omega
 |n+1,i,c,hc,hd=>by
  rw[Qm.path,hc];dsimp only;rcases Oq k hc with⟨e,_⟩|⟨q,E,_,e⟩;·exact⟨i,c,List.mem_cons_self,hc,e⟩
  .obtain⟨a,d,u,z,B⟩:=Qdc k (n:=n) E (by omega);exact⟨a,d,Zr _ u,z,B⟩
theorem Nl(k:J8 h){i:Int}{c:Vm}(d:h.at i=some c):Xk h i<=8:=by rw[V7 d];exact(k.dep c (Qm.aE d).1).2
theorem Dv{i y:Int}:y∈h.aM i↔∃c∈h,c.sp.id=y/\c.sp.par=i:=by grind [Yk.aM,Qm.aM,Vm.id]
theorem Np(z:J8 h){id:Int}(U:∀c,h.at id=some c->c.sp.leaf=false){x:Int}:x∈h.aI id↔∃a∈h.aM id,x∈h.aI a:=by
 rw[Y8];constructor
 .rintro⟨c,B,rfl,q,u⟩;have k:=Da z.sorted B;have key:∃a d,a∈h.path 9 c.sp.id/\h.at a=some d/\d.sp.par=id:=by
   rcases u with rfl|u;·exact Qdc z k (by have:=Nl z k;omega)
   .refine P7 u ?_;rintro rfl;have:=U c k;rw[q]at this;cases this
  obtain⟨a,d,ha,E,I⟩:=key;obtain⟨K,J⟩:=Qm.aE E;exact⟨a,Dv.2 ⟨d,K,J,I⟩,Y8.2 ⟨c,B,rfl,q,.inr ha⟩⟩
 .rintro⟨a,ha,V⟩;obtain⟨d,E,rfl,I⟩:=Dv.1 ha;obtain⟨c,B,rfl,q,u⟩:=Y8.1 V;have k:=Da z.sorted B;refine⟨c,B,rfl,q,?_⟩;by_cases R:id=0;·exact .inl R
  .right;rcases u with u|u;·have:=(Cq (z.may d E)).1;omega
   .have:=Qhj z (Nat.lt_succ_of_le (Nl z k)) u (Da z.sorted E) (by rw[I];exact R);rwa[I]at this
theorem No(k:J8 h){id a b x:Int}(ha:a∈h.aM id)(hb:b∈h.aM id)(K:x∈h.aI a)(R:x∈h.aI b):a=b:=by
 obtain⟨d,V,rfl,hp⟩:=Dv.1 ha;obtain⟨d',z,rfl,J⟩:=Dv.1 hb;obtain⟨c,hc,rfl,ab,E⟩:=Y8.1 K;obtain⟨c',aa,e,_,I⟩:=Y8.1 R;have i1:=(Cq (k.may d V)).1;have i2:=(Cq (k.may d' z)).1;have E:=E.resolve_left (by omega);have I:=I.resolve_left (by omega);refine Qkk k E I ?_;have k1:=Oq k (Da k.sorted V);have U:=Oq k (Da k.sorted z);rw[hp]at k1;rw[J]at U;rcases k1 with⟨e1,e2⟩|⟨q,Z,_,e2⟩
 .rcases U with⟨_,B⟩|⟨q',u,_,B⟩;·omega
  .rw[e1,k.zero (by decide)]at u;cases u
 .rcases U with⟨e3,B⟩|⟨q',u,_,B⟩;·rw[e3,k.zero (by decide)]at Z;cases Z
  .omega
theorem Pe:∀{a b:List Int},a.Pairwise (· < ·)->b.Pairwise (· < ·)->(∀x,x∈a↔x∈b)->a=b
 |[],[],_,_,_=>rfl
 |[],y::b,_,_,h=>by have:=(h y).2 List.mem_cons_self;cases this
 |x::a,[],_,_,h=>by have:=(h x).1 List.mem_cons_self;cases this
 |x::a,y::b,ha,hb,h=>by
  obtain⟨d,q⟩:=List.pairwise_cons.1 ha;obtain⟨k,u⟩:=List.pairwise_cons.1 hb;have e:x=y:=by
   rcases Zu.1 ((h x).1 List.mem_cons_self)with e|B;·exact e
   .rcases Zu.1 ((h y).2 List.mem_cons_self)with e|E;·exact e.symm
    .have:=k x B;have:=d y E;omega
  subst e;congr 1;refine Pe q u λz=>⟨λc=>?_,λc=>?_⟩
  .rcases Zu.1 ((h z).1 (Zr _ c))with rfl|h';·have:=d z c;omega
   .exact h'
  .rcases Zu.1 ((h z).2 (Zr _ c))with rfl|h';·have:=k z c;omega
   .exact h'
theorem Qhp(k:J8 h){id:Int}(K:∀c,h.at id=some c->c.sp.leaf=false):((h.aM id).flatMap h.aI).mergeSort (λx y=>decide (x<=y))=h.aI id:=by
 have B:((h.aM id).flatMap h.aI).Pairwise (· ≠ ·):=by
  refine List.pairwise_flatMap.2 ⟨λa _=>(Ut k a).imp λ{x y}aa e=>by omega,?_⟩;have V:=Gk k.sorted id;have:∀l:List Int,l.Pairwise (· < ·)->(∀a∈l,a∈h.aM id)->l.Pairwise λa b=>∀x∈h.aI a,∀y∈h.aI b,x≠y:=by
   intro l;induction l with
   |nil=>intro _ _;exact List.Pairwise.nil
   |cons a l ih=> intro U z;obtain⟨p1,p2⟩:=List.pairwise_cons.1 U;refine List.pairwise_cons.2 ⟨λb J x Z y hy e=>?_,ih p2 λa ha=>z a (Zr _ ha)⟩;subst e;have:=No k (z a List.mem_cons_self) (z b (Zr _ J)) Z hy;have:=p1 b J;omega
  exact this _ V λa ha=>ha
 have d:=List.mergeSort_perm ((h.aM id).flatMap h.aI) (λx y=>decide (x<=y));have u:=List.pairwise_mergeSort (le:=λx y:Int=>decide (x<=y)) (λa b c I q=>by simp only[decide_eq_true_eq]at*;omega) (λa b=>by simp only[Bool.or_eq_true,decide_eq_true_eq];omega) ((h.aM id).flatMap h.aI);have E:=(d.pairwise_iff (R:=(· ≠ ·)) (λh e=>h e.symm)).2 B;refine Pe ?_ (Ut k id) λx=>?_
 .refine(u.and E).imp λ{a b}⟨I,q⟩=>?_;have:a<=b:=by simpa using I
  have q:a≠b:=q;omega
 .rw[d.mem_iff,List.mem_flatMap,Np k K]
theorem Rf(I:J8 h){id:Int}{c:Vm}(E:h.at id=some c)(J:c.sp.leaf=true):h.aI id=[id]:=by
 have K:=I.pos E;refine Pe (Ut I id) (by simp) λx=>?_;rw[Y8];constructor
 .rintro⟨d,hd,rfl,U,B⟩;have B:=B.resolve_left (by omega);by_cases e:id=d.sp.id;·simp[e]
  .obtain⟨a,q,ha,V,k⟩:=P7 B e;rcases Oq I V with⟨e1,_⟩|⟨z,R,u,_⟩;·omega
   .rw[k,E]at R;obtain rfl:=Zs R;rw[J]at u;cases u
 .intro Z;obtain rfl:x=id:=by simpa using Z
  refine⟨c,K.2.2.2.2.2,K.2.2.2.2.1,J,.inr ?_⟩;rw[Qm.path,E];exact List.mem_cons_self
end
section
variable{w:World}{g:Nat}
theorem Vc{t:TypeId}:∀(vs:List Value)(o:Nat)(w)(cs:Array Value),Qh w g cs t->o+vs.length<=cs.size->
  ∃c,Qh (w.setCells g o vs) g c t/\c.size=cs.size/\(∀k,c[k]? =if o<=k/\k<o+vs.length then vs[k-o]? else cs[k]?)/\Qc (λk=>k=g) w (w.setCells g o vs)
 |[],o,w,cs,h,_=>⟨cs,h,rfl,λk=>by rw[if_neg (by simp)],Zg _ _⟩
 |v::vs,o,w,cs,h,hb=>by
  simp only[Zm]at hb;obtain⟨c,u,z,B,E⟩:=Vc vs (o+1) (w.setCell ⟨g,o,none⟩ v) _ (h.set o v) (by simp;omega);refine⟨c,u,by rw[z];simp,λk=>?_,?_⟩
  .rw[B k];by_cases e:k=o
   .subst e;rw[if_neg (by omega),if_pos (by simp),Nat.sub_self];have:k<cs.size:=by omega
    simp[this]
   .by_cases d:o+1<=k/\k<o+1+vs.length;·rw[if_pos d,if_pos (by simp only[Zm];omega),show k-o=(k-(o+1))+1 by omega,Zd]
    .rw[if_neg d,if_neg (by simp only[Zm];omega),Array.getElem?_setIfInBounds_ne (λq=>e q.symm)]
  .have I:Qc (λk=>k=g) w (w.setCell ⟨g,o,none⟩ v):=(Zg _ _).setCell _ (.inl rfl);exact I.aA E
theorem Q6.mk{cap:Nat}{l:List Int}{c:Array Value}(q:Qh w g c 3)(E:c.size=cap)(B:l.length<=cap)(z:cap<=maxLen)(u:∀(k:Nat)(y:Int),l[k]? =some y->c[k]? =some (ZI y)):Q6 w (.slice (some ⟨g,0,none⟩) l.length cap) l:=by
 refine⟨by rw[Wo];simp,.inr ⟨g,cap,c,rfl,Nat.zero_le _,q,B,z,by omega,?_⟩⟩;rw[Wo];apply List.ext_getElem?;intro k;rw[List.getElem?_take,List.getElem?_map];by_cases d:k<l.length;·rw[if_pos (by omega),List.getElem?_eq_getElem d];have:=u k _ (List.getElem?_eq_getElem d);simpa using this
 .rw[if_neg (by omega),List.getElem?_eq_none (by omega)];rfl
theorem Qm9(l:List Int)(x:Int){i:Nat}(u:i<=l.length)(k:Nat):(l.take i++x::l.drop i)[k]? =if k<i then l[k]? else if k=i then some x else l[k-1]? :=by
 have q:(l.take i).length=i:=by rw[List.length_take];omega
 by_cases c:k<i;·rw[if_pos c,List.getElem?_append_left (by omega),List.getElem?_take,if_pos c]
 .rw[if_neg c,List.getElem?_append_right (by omega),q];by_cases d:k=i;·rw[if_pos d,d,Nat.sub_self];rfl
  .rw[if_neg d,show k-i=(k-i-1)+1 by omega,Zd,List.getElem?_drop,show i+(k-i-1)=k-1 by omega]
theorem Qou{cap i:Nat}{l:List Int}{c:Array Value}(x:Int)(hi:i<l.length)(U:Qh w g c 3)(hs:c.size=cap)(hn:l.length+1<=cap)(Z:cap<=maxLen)(V:∀(k:Nat)(y:Int),l[k]? =some y->c[k]? =some (ZI y)):
  Q6 ((w.setCells g (i+1) ((l.drop i).map λy=>ZI y)).setCells g i [ZI x]) (.slice (some ⟨g,0,none⟩) (l.length+1) cap) (l.take i++x::l.drop i)/\Qc (λk=>k=g) w ((w.setCells g (i+1) ((l.drop i).map λy=>ZI y)).setCells g i [ZI x]):=by
 obtain⟨J,E,s1,B,K⟩:=Vc ((l.drop i).map λy=>Value.int .i64 y) (i+1) w c U (by simp;omega);obtain⟨c2,I,s2,k2,R⟩:=Vc [Value.int .i64 x] i _ J E (by simp;omega);have q:(l.take i++x::l.drop i).length=l.length+1:=by simp;omega
 have:=Q6.mk (l:=l.take i++x::l.drop i) I (cap:=cap) (by omega) (by omega) Z (λk y d=>by
  rw[Qm9 l x (by omega)]at d;rw[k2];simp only[Zm,List.length_nil,List.length_map,List.length_drop]at B|-;by_cases u:k=i;·rw[if_neg (by omega),if_pos u]at d;obtain rfl:=Zs d;rw[if_pos (by omega),u,Nat.sub_self];rfl
  .rw[if_neg (by omega),B];by_cases z:k<i;·rw[if_pos z]at d;rw[if_neg (by omega)];exact V k y d
   .rw[if_neg z,if_neg u]at d;have:=(Z1.1 d).1;rw[if_pos (by omega),List.getElem?_map,List.getElem?_drop,show i+(k-(i+1))=k-1 by omega,d];rfl)
 rw[q]at this;exact⟨this,K.aA R⟩
theorem Qtr{cap i r:Nat}{l:List Int}{c:Array Value}(x:Int)(hi:i<l.length)(U:Qh w r c 3)(hs:c.size=cap)(hn:l.length+1<=cap)(Z:cap<=maxLen)(V:∀(k:Nat)(y:Int),k<i->l[k]? =some y->c[k]? =some (ZI y)):
  Q6 ((w.setCells r i [ZI x]).setCells r (i+1) ((l.drop i).map λy=>ZI y)) (.slice (some ⟨r,0,none⟩) (l.length+1) cap) (l.take i++x::l.drop i)/\Qc (λk=>k=r) w ((w.setCells r i [ZI x]).setCells r (i+1) ((l.drop i).map λy=>ZI y)):=by
 obtain⟨J,E,s1,B,K⟩:=Vc [Value.int .i64 x] i w c U (by simp;omega);obtain⟨c2,I,s2,k2,R⟩:=Vc ((l.drop i).map λy=>Value.int .i64 y) (i+1) _ J E (by simp;omega);have q:(l.take i++x::l.drop i).length=l.length+1:=by simp;omega
 have:=Q6.mk (l:=l.take i++x::l.drop i) I (cap:=cap) (by omega) (by omega) Z (λk y d=>by
  rw[Qm9 l x (by omega)]at d;rw[k2];simp only[Zm,List.length_nil,List.length_map,List.length_drop]at B|-;by_cases z:k<i;·rw[if_pos z]at d;rw[if_neg (by omega),B,if_neg (by omega)];exact V k y z d
  .rw[if_neg z]at d;by_cases u:k=i;·rw[if_pos u]at d;obtain rfl:=Zs d;rw[if_neg (by omega),B,if_pos (by omega),u,Nat.sub_self];rfl
   .rw[if_neg u]at d;have:=(Z1.1 d).1;rw[if_pos (by omega),List.getElem?_map,List.getElem?_drop,show i+(k-(i+1))=k-1 by omega,d];rfl)
 rw[q]at this;exact⟨this,K.aA R⟩
end
section
variable{w:World}{g:Nat}
theorem Qt6{cap:Nat}{d:List Int}{q:Array Value}{t:TypeId}(E:Qh w g q t)(K:q.size=cap)(R:d.length<=cap)(n:Nat)(B:Array Obj):
  ∃c,Qh (Sort.grow (Sort.putRow (Value.int .i64) (Sort.ahead w n) g 0 d.toArray) B) g c t/\c.size=cap/\(∀(k:Nat)(y:Int),d[k]? =some y->c[k]? =some (ZI y))/\Qc (λk=>k=g) w (Sort.grow (Sort.putRow (Value.int .i64) (Sort.ahead w n) g 0 d.toArray) B):=by
 have Xg:=E.lt;have J:∀k,k<w.heap.size->(Sort.grow (Sort.putRow (Value.int .i64) (Sort.ahead w n) g 0 d.toArray) B).heap[k]? =if g=k then(w.heap[k]?).map (Sort.onCells (Sort.putCells (Value.int .i64) 0 d.toArray))else w.heap[k]? :=λk u=>by show(w.heap.modify g _++B)[k]? =_;rw[Array.getElem?_append_left (by simpa using u),Array.getElem?_modify]
 refine⟨Sort.putCells (Value.int .i64) 0 d.toArray q,?_,?_,λk y u=>?_,rfl,rfl,rfl,?_,λk u I=>?_⟩;·unfold Qh at E|-;rw[J g Xg,if_pos rfl,E];rfl
 .unfold Sort.putCells;simpa using K
 .have z:k<d.length:=(Z1.1 u).1;unfold Sort.putCells;rw[Array.getElem?_mapIdx,Array.getElem?_eq_getElem (by omega)];simp only[Zn];rw[if_pos ⟨by omega,by simpa using z⟩];simp only[Nat.sub_zero];have:d.toArray[k]! =y:=by rw[getElem!_pos _ k (by simpa using z)];have:=(Z1.1 u).2;simpa using this
  rw[this]
 .show w.heap.size<=(w.heap.modify g _++B).size;simp
 .rw[J k u,if_neg (λe=>I e.symm)]
theorem N7{v:Value}{l:List Int}(u:Q6 w v l)(hl:l.length<4611686018427387904):
  ZW 86 #[v] w (.tuple #[]) λw'=>Q6 w' v (l.mergeSort λx y=>decide (x<=y))/\Qc (λk=>v.ownBlock=some k) w w':=by
 by_cases E:l=[]
 .subst E;obtain⟨a,cap,rfl,_⟩:=u.row intT.hc;apply Zz (Tryz.slices_Sort_int_none a cap w);rintro w' rfl;refine⟨rfl,?_,Zg _ _⟩;have:([]:List Int).mergeSort (λx y=>decide (x<=y))=[]:=by simp
  rw[this];exact u
 .obtain⟨g,cap,V,rfl,q,hs,hc,hn,hm⟩:=u.opn E;have Z:Sort.Holds (Value.int .i64) w g 0 l.toArray:=λj I=>by
   have z:j<l.length:=by simpa using I
   refine⟨?_,q.frozen _⟩;rw[Nat.zero_add,q.cell,hc j _ (List.getElem?_eq_getElem z)];congr 2;rw[getElem!_pos _ j I];simp
  apply Zz (Tryz.slices_Sort_int g 0 cap l w Z q.lt hl);rintro w'⟨n,os,rfl⟩;have c:(l.mergeSort λx y=>decide (x<=y)).length=l.length:=List.length_mergeSort _;obtain⟨B,J,K,R,U⟩:=Qt6 (d:=l.mergeSort λx y=>decide (x<=y)) q hs (by omega) n os;refine⟨rfl,?_,U.mono λk e=>.inl (by rw[e];rfl)⟩;have:=Q6.mk J K (by omega) hm R;rw[c]at this;exact this
end
section
variable{h:Qm}
theorem Db(h:Qm)(i:Int):(h.aI i).length<=h.length:=by unfold Qm.aI;rw[List.length_map];exact List.length_filter_le _ _
theorem Qm7(h:Qm)(l:List Int):(l.flatMap h.aI).length<=l.length*h.length:=by
 induction l with
 |nil=>simp
 |cons x l c=> rw[List.flatMap_cons,List.length_append,Zm,Nat.add_mul];have:=Db h x;omega
theorem Ec(h:Qm){i:Int}{c:Vm}(d:h.at i=some c):h.get i=c:=by unfold Qm.get;rw[d];rfl
theorem Ot(ok:J8 h):∀(n:Nat){w}{F:Fp}{b:Nat}(hh:Q9 w F b h)(id:Int),9<=Xk h id+n->
  Cl 47 #[ptr b,ZI id] w λe w'=>∃v,e=.returned v/\Q6 w' v (h.aI id)/\(∀k,v.ownBlock=some k->w.heap.size<=k)/\Qc Qb w w'
 |0,w,F,b,hh,id,hd=>by
  exfalso;cases z:h.at id with
  |none=>rw[Kr z]at hd;omega
  |some c=>have:=Nl ok z;omega
 |n+1,w,F,b,hh,id,hd=>by
  have IH:=O (λ(w)(F:Fp)(b:Nat)(hh:Q9 w F b h)(id:Int)(hd:9<=Xk h id+n)=>Ot ok n hh id hd);have ab:=O (λw'(c:Qc Qb w w')=>Q9.obj.aB hh c (Jl.none F));have HG:=O (Ob hh id);have J:=ok.many;have V:Hi (∀i,(h.aM i).length<=64):=O (λi=>by
   have:(h.aM i).length<=h.length:=by unfold Qm.aM;rw[List.length_map];exact List.length_filter_le _ _
   omega)
  have ST:Hi (∀w1,Qc Qb w w1->∃d,Qc Qb w d/\w1.heap.size<d.heap.size/\d.cell? ⟨w1.heap.size,2,none⟩=some (.bool (h.get id).sp.leaf)/\
    (storeCells ⟨w1.heap.size,0,none⟩ (Es (h.get id).sp).toList 0).run prog (w1.alloc (.cells Z5 29))=.ok () d):=O (by
   intro w1 c1;obtain⟨d,s2,al,C2⟩:=Q0 (P:=prog) (vs:=Es (h.get id).sp) (Qh.new w1 Z5 29) rfl (Hl _);have s1:=c1.size;refine⟨d,c1.aA (((Zg Qb w1).alloc _).trans C2 λk e=>.inr (by omega)),al.lt,?_,?_⟩;·rw[al.cell];rfl
   .exact s2)
  by_cases E:∃c,h.at id=some c/\c.sp.leaf=true
  .obtain⟨c,z,Z⟩:=E;have a1:(h.get id).sp.leaf=true:=by rw[Ec h z];exact Z
   have K:(h.at id).isSome=true:=by rw[z];rfl
   have LV:=O (Rf ok z Z);have U:Hi (∀d,Qc Qb w d->Q6 (d.alloc (.cells #[ZI id] 3)) (.slice (some ⟨d.heap.size,0,none⟩) 1 1) (h.aI id)/\(∀k,(Value.slice (some ⟨d.heap.size,0,none⟩) 1 1).ownBlock=some k->w.heap.size<=k)/\Qc Qb w (d.alloc (.cells #[ZI id] 3))):=O (by
    intro d c2;rw[LV.o];refine⟨Q6.mk (l:=[id]) (Qh.new d #[ZI id] 3) rfl (Zv _) (by decide) (λk y hk=>?_),λk hk=>?_,c2.alloc _⟩
    .cases k with
     |zero=>obtain rfl:=Zs hk;rfl
     |succ k=>cases hk
    .have e:d.heap.size=k:=Zs hk;have:=c2.size;omega)
   rw[K]at HG;clear z Z hd K hh;apply WH func47;go_wp2_with fail;apply Zy HG;intro w1 c1;obtain⟨d,C2,Xg,B,bb⟩:=ST.o w1 c1;rw[a1]at B;have FF:=O (U.o d C2);clear c1 C2 Xg;go_wp2_with fail;go_ret;exact⟨_,rfl,FF.o⟩
  .have hl:∀c,h.at id=some c->c.sp.leaf=false:=λc z=>by
    cases e:c.sp.leaf with
    |false=>rfl
    |true=>exact absurd ⟨c,z,e⟩ E
   have LS:=O (Qhp ok hl);have u:((h.at id).isSome&&(h.get id).sp.leaf)=false:=by
    cases z:h.at id with
    |none=>rfl
    |some c=>rw[Ec h z,hl c z];rfl
   have CH:Hi (∀x∈h.aM id,9<=Xk h x+n):=O (λx hx=>by
    obtain⟨c,z,rfl,hp⟩:=Dv.1 hx;rcases Oq ok (Da ok.sorted z)with⟨e1,e2⟩|⟨q,hq,_,e2⟩;·have:Xk h id=0:=Kr (ok.zero (by omega));omega
    .rw[hp]at e2;omega)
   have HU:=O (λw'(c:Qc Qb w w')=>P8 (ab.o w' c) id (by have:=V.o id;omega));have I:=O J;generalize a8:(h.at id).isSome=ai at HG u;clear hd E hl hh J a8;apply WH func47;go_wp2_with fail;apply Zy HG;intro w1 c1;obtain⟨d,C2,Xg,B,bb⟩:=ST.o w1 c1;have aj:=O C2;generalize a7:(h.get id).sp.leaf=lf at B u;clear c1 C2 Xg;have a9:ai=false\/(ai=true/\lf=false):=by
    cases ai with
    |false=>exact .inl rfl
    |true=>exact .inr ⟨rfl,by simpa using u⟩
   clear u a7;rcases a9 with rfl|⟨rfl,rfl⟩;all_goals
    go_wp2_with fail;refine(HU.o d aj.o).mono ?_;rintro e w3⟨uv,rfl,hI,ap,c3⟩;obtain⟨a,cap,rfl,an,_,_⟩:=hI.row intT.hc;have HI:=O hI;have C3:=O (aj.o.aA c3);obtain⟨n0,ah⟩:=Zx ((h.aM id).length);have ag:=O ah;rw[<-ah]at an|-;clear hI ap c3 ah;go_wp2_with fail;go_loopw [7,9,27] (λtv _ ti wr=>∃(k:Nat),ti=ZI k/\k<=n0/\Q6 wr tv (((h.aM id).take k).flatMap h.aI)/\(∀j,tv.ownBlock=some j->w3.heap.size<=j)/\Qc Qb w3 wr) (λ_ _ ti _=>n0-(intOf ti).toNat);case atStart=>exact⟨0,rfl,Nat.zero_le _,Q6.nil _,nofun,Zg _ _⟩
    case round=>
     obtain⟨k,rfl,hk,hA,hO,z⟩:=hrel;have HA:=O hA;have HO:=O hO;have HC:=O z;clear hA hO z;by_cases bh:k<n0
     .have hd:decide ((k:Int)<(n0:Int))=true:=by simp;omega
      have aa:k<(h.aM id).length:=by have:=ag.o;omega
      have ao:h.aM id≠[]:=λe=>by rw[e]at aa;simp at aa
      obtain⟨g,be,bf,ba,hB,bc,ac,_,_⟩:=HI.o.opn ao;injection ba with h1 h2 h3;subst h1;obtain⟨x,hx⟩:∃x,(h.aM id)[k]? =some x:=⟨_,List.getElem?_eq_getElem aa⟩;have Z:wr.cell? ⟨g,k,none⟩=some (ZI x):=by rw[(HC.o.blk hB (λh=>h)).cell];exact ac k x hx
      have aw:x∈h.aM id:=List.mem_of_getElem? hx;have HL:=O (IH.o wr F b (ab.o wr (C3.o.aA HC.o)) x (CH.o x aw));have bg:IntKind.i64.wrap ((k:Int)+1)=(k:Int)+1:=by have h4:=V.o id;have h5:=ag.o;rw[IntWalk.i64_in _ (by omega)]
      have TK:=O (show(h.aM id).take (k+1)=(h.aM id).take k++[x] by rw[List.take_add_one,hx];rfl);have LN:Hi ((((h.aM id).take k).flatMap h.aI).length+(h.aI x).length<=4096+64):=O (by
       have h1:=Qm7 h ((h.aM id).take k);have h2:=Db h x;have h3:=I.o;have h4:=V.o id;have h5:((h.aM id).take k).length<=64:=by rw[List.length_take];omega
       have h6:((h.aM id).take k).length*h.length<=64*64:=Nat.mul_le_mul h5 h3;omega)
      clear aa ao hB bc ac hx aw h2 h3;go_wp2_with fail;apply Zo HL;rintro e w4⟨vx,rfl,av,bd,c4⟩;obtain⟨ax,cx,rfl,_,ak,aq⟩:=av.row intT.hc;have az:=O aq;have C4:=O c4;have ay:=O ak;clear av bd c4 aq ak;go_wp2_with (at_builtin;refine Jj intT rfl (.tmp 31) (.tmp 34) rfl _ (((h.aM id).take k).flatMap h.aI) rfl (Q6.aB HA.o C4.o (λ_ _ h=>h)) _ _ (h.aI x) rfl ?a2 ?a3 ?a4 ?a5 ?a6);case a2=>exact ay.o
      case a3=>exact az.o
      case a4=>have:=LN.o;simp only[maxLen];omega
      case a5=>have:=LN.o;omega
      case a6=>
       intro v' w5 af am au;have C5:Hi (Qc Qb w3 w5):=O ((HC.o.aA C4.o).trans am (λj R=>.inr (HO.o j R)));have O5:Hi (∀j,v'.ownBlock=some j->w3.heap.size<=j):=O (λj R=>by
        rcases au with e|e;·rw[e]at R;exact HO.o j R
        .rw[e]at R;have e2:w4.heap.size=j:=Zs R;have:=HC.o.size;have:=C4.o.size;omega)
       have a0:=O af;clear af am au;go_wp2;go_roundw;case measure=>simp only[intOf];omega
       case rel=> refine⟨k+1,by rw[<-Int.natCast_one,<-Int.natCast_add],by omega,?_,O5.o,C5.o⟩;have:=a0.o;rw[TK.o,List.flatMap_append];simpa using this
     .have hd:decide ((k:Int)<(n0:Int))=false:=by simp;omega
      have ae:k=(h.aM id).length:=by have:=ag.o;omega
      have HS:=O (N7 HA.o (by
       have h1:=Qm7 h ((h.aM id).take k);have h3:=I.o;have h4:=V.o id;have h5:((h.aM id).take k).length<=64:=by rw[List.length_take];omega
       have h6:((h.aM id).take k).length*h.length<=64*64:=Nat.mul_le_mul h5 h3;omega))
      have TK:=O (show(h.aM id).take k=h.aM id by rw[ae,List.take_length]);clear ae;go_wp2_with fail;apply ZQ HS;intro w4 U;go_wp2;go_ret;refine⟨_,rfl,?_,?_,?_⟩;·have:=U.o.1;rw[TK.o,LS.o]at this;exact this
      .intro j R;have:=HO.o j R;have:=C3.o.size;omega
      .exact C3.o.aA (HC.o.trans U.o.2 λj R=>.inr (HO.o j R))
end
theorem Qk0{w}{b:Nat}{L:List (Int×Value)}(h:Xq w b L):ZW 88 #[.map (some b)] w (.map (some w.heap.size)) λw'=>Xq w' w.heap.size L/\Qc Qb w w':=by obtain⟨q,d,u,c⟩:=h;have k:=O c;have z:=λw=>run_eql_map_nil_sl (P:=prog) w 111 _ _ (some b) underlying111;clear c;apply WH func88;go_wp2;rw[run_callFunc_extern func144 (by kernel_rfl) (by kernel_rfl) (by kernel_rfl) (e:=Extern.MapsClone.clone) (by kernel_rfl),run_maps_clone_sl w 111 u];simp only[Result.andThen];rw[Oper.upon_value];go_wp2;rw[run_typeAssert_map_sl _ 111 _ _ _ _ underlying111];simp only[Result.andThen];rw[Oper.upon_value];go_wp2;go_ret;exact⟨rfl,⟨q,d,(MapKept.heap_alloc w _).1,k.o⟩,(Zg _ _).alloc _⟩
theorem Qhy{w}{b:Nat}{L:List (Int×Value)}(h:Xq w b L):ZW 89 #[.map (some b)] w (.map (some w.heap.size)) λw'=>Xq w' w.heap.size L/\Qc Qb w w':=by obtain⟨q,d,u,c⟩:=h;have k:=O c;have z:=λw=>run_eql_map_nil_sl (P:=prog) w 112 _ _ (some b) underlying112;clear c;apply WH func89;go_wp2;rw[run_callFunc_extern func144 (by kernel_rfl) (by kernel_rfl) (by kernel_rfl) (e:=Extern.MapsClone.clone) (by kernel_rfl),run_maps_clone_sl w 112 u];simp only[Result.andThen];rw[Oper.upon_value];go_wp2;rw[run_typeAssert_map_sl _ 112 _ _ _ _ underlying112];simp only[Result.andThen];rw[Oper.upon_value];go_wp2;go_ret;exact⟨rfl,⟨q,d,(MapKept.heap_alloc w _).1,k.o⟩,(Zg _ _).alloc _⟩
structure Ai(w:World)(h:Qm)(l:List Vm)(b' ma mu r:Nat)(wr:World)(vsr left:List (Int×Value)):Prop where
 it:Kj wr mu r vsr left
 chg:Qc Qb w wr
 blk:Qh wr b' #[.map (some ma),.map (some mu)] 114
 mall:Xq wr ma (Us l)
 has:∀p∈vsr,Q6 wr p.2 (h.aM p.1)
 own:∀p∈vsr,∀k,p.2.ownBlock=some k->(p∈left/\k<w.heap.size)\/(w.heap.size<=k/\k<wr.heap.size/\k≠b'/\k≠ma/\k≠mu/\k≠r)
 dis:∀p∈vsr,∀q∈vsr,∀k,p.2.ownBlock=some k->q.2.ownBlock=some k->p.1=q.1
 miss:∀i,(∀p∈vsr,p.1≠i)->h.aM i=[]
 ne:b'≠ma/\b'≠mu/\ma≠mu/\r≠b'/\r≠ma/\r≠mu
 lo:w.heap.size<=b'/\w.heap.size<=ma/\w.heap.size<=mu/\w.heap.size<=r
section
variable{w wr w2 w3:World}{h:Qm}{l:List Vm}{b' ma mu r:Nat}{vsr left:List (Int×Value)}
theorem Ai.fin(C:Ai w h l b' ma mu r wr vsr [])(q:l.Perm h):Q9 wr (Qn Qb w wr) b' h/\Qc Qb w wr:=by
 have z:=C.it.map;obtain⟨I,J,K,Z,n5,n6⟩:=C.ne;obtain⟨E,R,U,V⟩:=C.lo;have d:∀p∈vsr,∀k,p.2.ownBlock=some k->w.heap.size<=k/\k<wr.heap.size/\k≠b'/\k≠ma/\k≠mu/\k≠r:=λp q k c=>(C.own p q k c).resolve_left λe=>by cases e.1
 refine⟨⟨ma,mu,l,vsr,q,?_⟩,C.chg⟩;have B:Bd (Qn Qb w wr) wr:=λk c=>c.elim (λh=>h.elim) (λh=>h.2);have u:Y7 wr (λk=>k=mu\/∃p∈vsr,p.2.ownBlock=some k) mu vsr h:=⟨z,λk c=>c.elim (λe=>e▸z.lt) (λ⟨p,q,c⟩=>(d p q k c).2.1),.inl rfl,C.has,λp q k c=>⟨.inr ⟨p,q,c⟩,(d p q k c).2.2.2.2.1⟩,C.dis,C.miss⟩;refine Q7 (G:=λk=>k=b') (H:=λk=>k=ma\/k=mu\/∃p∈vsr,p.2.ownBlock=some k) ⟨C.blk,rfl,λk e=>e▸C.blk.lt⟩ ?_ ?_ ?_ ?_ B
 .refine Q7 (G:=λk=>k=ma) (H:=λk=>k=mu\/∃p∈vsr,p.2.ownBlock=some k) ⟨C.mall,rfl,λk e=>e▸C.mall.lt⟩ (Y6 u u.bd) ?_ (λk e=>.inl e) (λk c=>.inr c) ?_
  .rintro k rfl(e|⟨p,q,c⟩);·exact K e
   .exact(d p q _ c).2.2.2.1 rfl
  .exact λk c=>c.elim (λe=>e▸C.mall.lt) (u.bd k)
 .rintro k rfl(e|e|⟨p,q,c⟩);·exact I e
  .exact J e
  .exact(d p q _ c).2.2.1 rfl
 .rintro k rfl;exact .inr ⟨E,C.blk.lt⟩
 .rintro k(e|e|⟨p,q,c⟩);·exact .inr ⟨by omega,e▸C.mall.lt⟩
  .exact .inr ⟨by omega,e▸z.lt⟩
  .exact .inr ⟨(d p q k c).1,(d p q k c).2.1⟩
theorem Ai.step(C:Ai w h l b' ma mu r wr vsr left){p:Int×Value}(hp:p∈left)(ab:Kj w2 mu r vsr (Vu p.1 left))(c2:Qc (λj=>j=r) wr w2)(c3:Qc Qb w2 w3){K:Value}(hv:Q6 w3 K (h.aM p.1))(hn:∀k,K.ownBlock=some k->w2.heap.size<=k):
  ∃w4,(Instr.mapUpdate 112 (.map (some mu)) (ZI p.1) K).run prog w3=.ok () w4/\Ai w h l b' ma mu r w4 (Oi p.1 K vsr) (Vu p.1 left):=by
 obtain⟨n1,n2,n3,n4,n5,n6⟩:=C.ne;obtain⟨l1,l2,l3,l4⟩:=C.lo;have ac:p∈vsr:=C.it.sub.subset hp;have B:=C.it.map.nodup;have ai:r<wr.heap.size:=by obtain⟨es,aa,ae,_,_,_,_,_,h6,_⟩:=C.it;exact(Z2.1 h6).1
 obtain⟨w4,V,R,c4⟩:=Qbi (P:=prog) (ab.aB c3 (λh=>h) (λh=>h)) underlying112 underlying3 p.1 K ⟨p,ac,rfl⟩ (λq d=>by have:=(List.mem_filter.1 d).2;simpa using this);have s2:=c2.size;have s3:=c3.size;have s4:=c4.size;have ag:=C.blk.lt;have af:=C.mall.lt;have ah:=C.it.map.lt;have E:Qc (λj=>j=r\/j=mu) wr w4:=((c2.mono λk c=>.inl (.inl c)).trans c3 λk c=>c.elim).trans c4 λk c=>.inl (.inr c);refine⟨w4,V,R,C.chg.trans E λk c=>.inr (c.elim (λe=>by omega) (λe=>by omega)),E.blk C.blk (λe=>e.elim (λe=>n4 e.symm) (λe=>n2 e)),C.mall.aB E (λe=>e.elim (λe=>n5 e.symm) (λe=>n3 e)),λq d=>?_,λq d k c=>?_,λq d q' u k c I=>?_,λi hi=>?_,C.ne,C.lo⟩
 .rcases Hu B d with rfl|⟨d,J⟩;·refine hv.aB c4 λk c e=>?_;have:=hn k c;omega
  .refine(C.has q d).aB E λk c e=>?_;rcases C.own q d k c with⟨_,z⟩|⟨_,_,_,_,h5,h6⟩;·rcases e with e|e<;>omega
   .exact e.elim h6 h5
 .rcases Hu B d with rfl|⟨d,J⟩;·have z:=hn k c;have h2:=hv.lt k c;exact .inr ⟨by omega,by omega,by omega,by omega,by omega,by omega⟩
  .rcases C.own q d k c with⟨h0,z⟩|⟨z,h2,h3⟩;·exact .inl ⟨List.mem_filter.2 ⟨h0,by simpa using J⟩,z⟩
   .exact .inr ⟨z,by omega,h3⟩
 .have Z:∀q∈vsr,∀k,q.2.ownBlock=some k->k<wr.heap.size:=λq d k c=>by
   rcases C.own q d k c with⟨_,z⟩|⟨_,h2,_⟩;·have:=C.chg.size;omega
   .exact h2
  rcases Hu B d with rfl|⟨d,J⟩
  .rcases Hu B u with rfl|⟨u,U⟩;·rfl
   .have z:=hn k c;have:=Z q' u k I;omega
  .rcases Hu B u with rfl|⟨u,U⟩;·have z:=hn k I;have:=Z q d k c;omega
   .exact C.dis q d q' u k c I
 .refine C.miss i λq d e=>?_;by_cases z:q.1=p.1;·exact hi _ (Qbr p.1 K vsr) (z.symm.trans e)
  .exact hi q (Qbs d z) e
end
theorem Ww{w}{F:Fp}{b:Nat}{h:Qm}(hh:Q9 w F b h)(hl:h.length<1099511627776):
  Cl 50 #[ptr b] w λe w'=>∃b',e=.returned (ptr b')/\Q9 w' (Qn Qb w w') b' h/\Qc Qb w w':=by
 obtain⟨ma,mu,l,vs,G,q,hn,aa,ac,E,fb,fm,fG,au,av,aw,ae,_⟩:=hh.opn;have HL:∀i,(h.aM i).length<1099511627776:=λi=>by
  have:(h.aM i).length<=h.length:=by unfold Qm.aM;rw[List.length_map];exact List.length_filter_le _ _
  omega
 have ai:=O (λw'(c:Qc Qb w w')=>Qk0 (ac.aB c (λh=>h)));have aj:=O (λw'(c:Qc Qb w w')=>Qhy (E.map.aB c (λh=>h)));have HB:=O aa;have K:Hi (∀w0 w1 w2 w3,Qc Qb w w0->Qc Qb w0 w1->Qc Qb w1 w2->Xq w1 w0.heap.size (Us l)->Xq w2 w1.heap.size vs->w3=w2.alloc (.cells #[.map (some w0.heap.size),.map (some w1.heap.size)] 114)->
   ∃o,(Instr.range 112 (.map (some w1.heap.size))).run prog w3=.ok (.pointer (some ⟨w3.heap.size,0,none⟩)) (w3.alloc o)/\Qh w3 w2.heap.size #[.map (some w0.heap.size),.map (some w1.heap.size)] 114/\Ai w h l w2.heap.size w0.heap.size w1.heap.size w3.heap.size (w3.alloc o) vs vs):=O (by
  rintro w0 w1 w2 w3 c0 c1 U u z rfl;have c3:Qc Qb w2 (w2.alloc (.cells #[.map (some w0.heap.size),.map (some w1.heap.size)] 114)):=(Zg _ _).alloc _;have d:Qh (w2.alloc (.cells #[.map (some w0.heap.size),.map (some w1.heap.size)] 114)) w2.heap.size #[.map (some w0.heap.size),.map (some w1.heap.size)] 114:=Qh.new _ _ _;obtain⟨w3,ar⟩:=Zx (w2.alloc (.cells #[.map (some w0.heap.size),.map (some w1.heap.size)] 114));rw[<-ar]at c3 d|-;obtain⟨o,R,ap⟩:=Er (P:=prog) (z.aB c3 (λh=>h)) underlying112;have c4:Qc Qb w3 (w3.alloc o):=(Zg _ _).alloc _;have cA:Qc Qb w (w3.alloc o):=(((c0.aA c1).aA U).aA c3).aA c4;have s0:=c0.size;have z1:=u.lt;have z2:=z.lt;have z3:=d.lt;have s1:=c1.size;have s2:=U.size;have hU:=E.aB cA (Jl.none G);exact⟨o,R,d,ap,cA,c4.blk d (λh=>h),(u.aB U (λh=>h)).aB (c3.aA c4) (λh=>h),hU.has,λp q k hk=>.inl ⟨q,ae k (fG k (E.own p q k hk).1)⟩,hU.dis,hU.miss,⟨by omega,by omega,by omega,by omega,by omega,by omega⟩,⟨by omega,by omega,by omega,by omega⟩⟩)
 have HP:=O q;have am:=O HL;clear hh q hn ac E fb fm fG au av aw ae hl HL;have a0:=Q4 (HB.o.drew);clear aa;apply WH func50;go_wp2_with fail;apply YC [0,1,2,3,105,106,107,108,204,309,10,311,312] Qb w;iterate 4 (refine Xe (h:=?_))
 iterate 3 (refine Qy (h:=?_);try simp only[Act.put,Za,Zc,Zb])
 iterate 1 (apply YK λ_ hv=>Q4 (hv.blk HB.o (λh=>h)))
 clear a0;refine Yb ?_;go_wp2_with fail;apply ZD (ai.o w.drew (Zg Qb w).drew);intro w1 T1;go_wp2_with fail;refine⟨((Zg Qb w).drew.aA T1.o.2),?_⟩;refine Km ?_;go_wp2_with fail;apply Zz (aj.o w1 ((Zg Qb w).drew.aA T1.o.2));rintro w2⟨z,U⟩;obtain⟨o,R,d,B⟩:=K.o w.drew w1 w2 _ (Zg Qb w).drew T1.o.2 U T1.o.1 z rfl;have ez:w.drew.heap.size=w.heap.size:=rfl;rw[ez]at R d B;rw[show(w2.alloc (.cells #[.map (some w.heap.size),.map (some w1.heap.size)] 114)).heap.size=w2.heap.size+1 by simp]at R B;clear ez;have ak:=O B;have e1:=(Q4 d).2;clear z U B d;go_wp2_with fail;apply YA 0;go_wp2_with fail;apply YI 0;go_wp2_with fail;go_loopw [4,5] (λ_ _ wr=>∃vsr left,Ai w h l w2.heap.size w.heap.size w1.heap.size (w2.heap.size+1) wr vsr left) (λ_ _ wr=>Dq wr (w2.heap.size+1));case atStart=>exact⟨_,_,ak.o⟩
 case round=>
  obtain⟨vsr,left,C⟩:=hrel;have e1:=Q4 C.blk;rcases Rx (P:=prog) C.it 0 with⟨h0,R⟩|⟨p,q,w4,R,J,I,ao⟩;·subst h0;have ah:=O (C.fin HP.o);clear C;go_wp2_with fail;go_ret;exact⟨_,rfl,ah.o⟩
  .have al:=O J;have C4:=O I;have CC:=O C;have B4:=O (I.blk C.blk (λe=>by have:=C.ne.2.2.2.1;omega));have ax:=O (C.it.sub.subset q);have an:=O q;have Z:Hi ((Vu p.1 left).length<left.length):=O (by
    unfold Vu;exact List.length_filter_lt_length_iff_exists.2 ⟨p,q,by simp⟩)
   have LW:=O C.it.left_eq;have HV:=O ((C.has p (C.it.sub.subset q)).aB I (λk hk e=>by
    rcases C.own p (C.it.sub.subset q) k hk with⟨_,h1⟩|⟨_,_,_,_,_,h6⟩;·have:=C.lo.2.2.2;omega
    .exact h6 e))
   clear C J I q;go_wp2_with fail;clear R ao e1;have z0:=Q4 (B4.o.drew);apply XC 32011111 Qb w4;iterate 3 (refine Qy (h:=?_);try simp only[Act.put,Za,Zc,Zb])
   iterate 1 (apply YK λ_ hv=>Q4 (hv.blk B4.o (λh=>h)))
   apply YA 0;clear z0;go_wp2_with fail;refine(Fy p.2 _ w4.drew (Q6.aB HV.o (Zg Qb w4).drew (λ_ _ h=>h)) (am.o p.1)).mono ?_;rintro e w5⟨v',rfl,ag,c5,af,_⟩;have C5:=O c5.aT;obtain⟨w6,aq,ab⟩:=CC.o.step an.o al.o C4.o c5.aT ag af;have V:=O ab;clear ag c5 af ab;go_wp2_with fail;refine⟨C5.o,?_⟩;apply YI 0;clear aq;go_wp2_with fail;go_roundw;case measure=> rw[V.o.it.left_eq,CC.o.it.left_eq];exact Z.o
   case rel=>exact⟨_,_,V.o⟩
section
variable{w:World}{F:Fp}{b:Nat}{h:Qm}
theorem Y7.later{w0 w1}{G:Fp}{m:Nat}{vs:List (Int×Value)}(d:Y7 w1 (Qn G w0 w1) m vs h){w:World}(u:w.heap.size<=w0.heap.size)(q:Bd (Qn G w w1) w1):Y7 w1 (Qn G w w1) m vs h:=
 (Y7.good m vs h).more d (λk c=>c.elim .inl λc=>.inr ⟨by omega,c.2⟩) q
theorem Qkl(hh:Q9 w F b h){id:Int}{c:Vm}(ha:h.at id=some c)(hu:h.aM id=[])(ai:(h.aM c.sp.par).length<1099511627776):
  ZW 121 #[ptr b,ZI id] w (ZI 0) λw'=>Q9 w' (Qn F w w') b (h.drop id)/\Qc F w w':=by
 have a3:=O (λw'(c:Qc Qb w w')=>Q9.obj.aB hh c (Jl.none F));obtain⟨W,hW⟩:=Zx (w.alloc (.cells #[ZI id] 3));have CW:Qc Qb w W:=by rw[hW];exact(Zg _ _).alloc _
 have hN:=O (Gz (a3.o W CW));have BX:=O (show Qh W w.heap.size #[ZI id] 3 by rw[hW];exact Qh.new _ _ _);obtain⟨ma,mu,l,vs,G,hp,hn,ao,ac,I,fb,fm,fG,ay,J,bg,a7,a4⟩:=hh.opn;obtain⟨ba,a9⟩:=Qm.aE ha;have au:h.aM c.sp.par≠[]:=λe=>by have:id∈h.aM c.sp.par:=Z3.2 ⟨c,List.mem_filter.2 ⟨ba,by simp⟩,a9⟩;rw[e]at this;cases this
 have b7:c.sp.par≠id:=λe=>au (by rw[e];exact hu);have b8:Hi (w.heap.size<W.heap.size):=O (BX.o.lt);have aj:Hi (∀w2,Qc Qb w w2->(∃a cap,(Instr.lookup 112 (.map (some mu)) (ZI id) false).run prog w2=.ok (.slice a 0 cap) w2)/\
   ∃w3,(Builtin.delete_ #[111,3] 0 #[.map (some ma),ZI id]).run prog w2.drew=.ok (.tuple #[]) w3/\Qc (λk=>k=ma) w2 w3/\
   ∃q,(Builtin.delete_ #[112,3] 0 #[.map (some mu),ZI id]).run prog w3.drew=.ok (.tuple #[]) q/\Qc (λk=>k=ma\/k=mu) w2 q/\
   ∃g cap,(g<w.heap.size/\g≠b/\g≠mu)/\(Instr.lookup 112 (.map (some mu)) (ZI c.sp.par) false).run prog q.drew=.ok (.slice (some ⟨g,0,none⟩) (h.aM c.sp.par).length cap) q.drew/\
   (∀gf z,(∀af w,(callFunc gf af).run prog w=.ok (.enter gf af) w)->(∀w',Qc (λk=>k=g) q.drew w'->∀y,Cl gf (#[ZI y]++z) w' λe b5=>e=.returned (.bool (decide (y=id)))/\w'=b5)->
    Cl 183 #[.slice (some ⟨g,0,none⟩) (h.aM c.sp.par).length cap,.func (.func gf) #[] z] q.drew λe w5=>∃n,e=.returned (.slice (some ⟨g,0,none⟩) n cap)/\Qc (λk=>k=g) q.drew w5/\
     ∃K,(Instr.mapUpdate 112 (.map (some mu)) (ZI c.sp.par) (.slice (some ⟨g,0,none⟩) n cap)).run prog w5=.ok () K/\Q9 K (Qn F w K) b (h.drop id)/\Qc F w K)):=O (by
  intro w2 aa;have aq:=I.aB aa (Jl.none G);have ar:=aq.at_;refine⟨?_,?_⟩;·obtain⟨v,hr,hI,_⟩:=aq.look id;rw[hu]at hI;obtain⟨a,cap,rfl,_⟩:=hI.row intT.hc;exact⟨a,cap,hr⟩
  .obtain⟨w3,r3,bu,c3⟩:=Di (P:=prog) ((ac.aB aa (λh=>h)).aB (Zg Qb w2).drew (λh=>h)) underlying111 underlying3 3 0 id;have ak:Qc (λk=>k=ma) w2 w3:=c3.aT;refine⟨w3,r3,ak,?_⟩;have a6:=aq.aB ak (λk d e=>J (e▸d));obtain⟨q,r4,bv,c4⟩:=Di (P:=prog) (a6.map.aB (Zg Qb w3).drew (λh=>h)) underlying112 underlying3 3 0 id;have am:Qc (λk=>k=mu) w3 q:=c4.aT;have b0:=a6.del id hu bv am;have al:Qc (λk=>k=ma\/k=mu) w2 q:=(ak.mono λk d=>.inl (.inl d)).trans am λk d=>.inl (.inr d);refine⟨q,r4,al,?_⟩;have B:=b0.aB (Zg Qb q).drew (Jl.none G);obtain⟨v,hr,hI,hv⟩:=B.look c.sp.par;obtain⟨g,cap,b9,rfl,br,b4,bb,a8,bf⟩:=hI.opn au;have ax:(c.sp.par,Value.slice (some ⟨g,0,none⟩) (h.aM c.sp.par).length cap)∈Vu id vs:=hv.resolve_left λe=>by cases e.1
   obtain⟨gG,gm⟩:=B.own _ ax g rfl;refine⟨g,cap,⟨a7 g (fG g gG),λe=>ay (e▸gG),gm⟩,hr,λgf z eg hT=>?_⟩;refine(Qex br b4 bb a8 bf hI ai gf z eg (λy=>decide (y=id)) hT).mono ?_;rintro e w5⟨n,rfl,bs,ab⟩;refine⟨n,rfl,ab,?_⟩;have bw:=B.map.aB ab (λe=>gm e.symm);obtain⟨K,r6,bz,an⟩:=X6 (P:=prog) bw underlying112 underlying3 c.sp.par (.slice (some ⟨g,0,none⟩) n cap);refine⟨K,r6,?_⟩;have hd:=Qm.drop_eq ha hu;have aw:(h.drop id).aM c.sp.par=(h.aM c.sp.par).filter λy=>!decide (y=id):=by rw[hd];exact Ph h id _
   have av:∀k,k≠c.sp.par->(h.drop id).aM k=h.aM k:=λk d=>by rw[hd];exact Ij ((hp.map _).nodup_iff.1 hn) ha d
   have bt:Q6 K (.slice (some ⟨g,0,none⟩) n cap) ((h.drop id).aM c.sp.par):=by rw[aw];refine bs.aB an λk d e=>?_;have:g=k:=Zs d;exact gm (this.trans e)
   have bp:Qc (λk=>k=mu\/k=g) q.drew K:=(ab.mono λk d=>.inl (.inr d)).trans an λk d=>.inl (.inl d);obtain⟨b1,bq⟩:=B.put av bt (λk d=>.inl ⟨_,ax,d⟩) bz bp (λk d=>d.elim .inl λe=>.inr ⟨_,ax,by rw[e];rfl⟩);have cA:Qc (λk=>k=ma\/G k) w K:=by refine(aa.none.aA (al.mono λk d=>.inl (d.elim .inl λe=>.inr (e▸ar)))).aA ?_;exact bq.aT.sub λk d=>.inr d
   have bo:Bd G w:=I.bd;refine a4 K (l.filter λx=>!decide (x.sp.id=id)) _ _ (by rw[hd];exact hp.filter _) ?_ ((b1.later (w:=w) (Zp aa.size al.size) ?_)) cA;·rw[<-Qj7];exact(((bu.aB am (λe=>J (e▸ar))).aB (Zg Qb q).drew (λh=>h)).aB ab (λe=>J (e▸gG))).aB an (λe=>J (e▸ar))
   .exact λk d=>d.elim (λd=>Nat.lt_of_lt_of_le (bo k d) cA.size) (λd=>d.2))
 have LK:=O (λ(w')(cc:Qc Qb w w')=>show(Instr.lookup 111 (.map (some ma)) (ZI id) true).run prog w'=.ok (.tuple #[.agg (P0 c),.bool true]) w' by
  have hL:=Dj (P:=prog) (ac.aB cc (λh=>h)) underlying111 underlying3 (Sf w') id;rw[Ed id l hn,<-Qm.at_perm hp hn,ha]at hL;exact hL)
 have Z:Hi (b≠ma/\b≠mu/\b<w.heap.size/\ma<w.heap.size/\mu<w.heap.size):=O (⟨bg,λe=>ay (e▸I.at_),ao.lt,ac.lt,I.map.lt⟩);have a2:=O ao;have V:=O CW;clear hh ao CW ac I hp hn ha hu a4 fb fm fG ay J bg a7 au ba a9 ai;apply WH func121;go_wp2_with fail;rw[<-hW];clear hW;apply Zz hN.o;rintro w1 rfl;go_wp2_with fail;apply XC 322111111111 Qb W;iterate 3 (refine Qy (h:=?_);try simp only[Act.put,Za,Zc,Zb])
 iterate 3 (apply YK λwv hv=>Zt (Q4 (hv.blk (V.o.blk a2.o (λh=>h)) (λh=>h))) (Zt (Jf (hv.blk BX.o (λh=>h))) (LK.o wv (V.o.aA hv))))
 apply YA 0;go_wp2_with fail;refine⟨((Zg Qb W).alloc _).drew,?_⟩;have ap:Qh (W.alloc (.cells Z6 109)).drew W.heap.size Z6 109:=(Qh.new _ _ _).drew;have C1:Qc Qb W (W.alloc (.cells Z6 109)).drew:=((Zg Qb W).alloc _).drew;generalize(W.alloc (.cells Z6 109)).drew=W1 at ap C1|-;obtain⟨W2,s2,a5,C2⟩:=Q0 (P:=prog) (vs:=P0 c) ap rfl (Sn c);have a1:Qc Qb W W2:=C1.trans C2 (λk e=>.inr (by omega));have E:=O a1;have bl:=O a5;clear ap C1 a5 C2 a1;refine Yb ?_;go_wp2_with fail;refine⟨E.o,?_⟩;apply YI 0;go_wp2_with fail;clear s2;have C2:=O (V.o.aA E.o);obtain⟨⟨u,b6,b2⟩,w3,r3,c3,q,r4,c4,g,cap,⟨bc,bd,be⟩,b3,DF⟩:=aj.o W2.drew C2.o.drew;have C3:=O c3.aT;have C4:=O c4.aT;have bm:=O DF;have HG:=O (Zt bc (Zt bd be));have NB:=Z.o;have ae:=O V.o.size;have R:=O (C2.o.blk a2.o (λh=>h));have U:=O (E.o.blk BX.o (λh=>h));have bh:=O (C3.o.blk R.o (λe=>Z.o.1 e));have bi:=O (C3.o.blk U.o (λe=>by have:=Z.o.2.2.2.1;omega));have az:=O (C4.o.blk R.o (λe=>e.elim (λe=>Z.o.1 e) (λe=>Z.o.2.1 e)));have bj:=O (C4.o.blk U.o (λe=>by have:=Z.o.2.2.2.1;have:=Z.o.2.2.2.2;rcases e with e|e<;>omega));have a0:=O (C4.o.blk bl.o (λe=>by have:=Z.o.2.2.2.1;have:=Z.o.2.2.2.2;have:=ae.o;rcases e with e|e<;>omega));clear c3 c4 DF bc bd be NB;have z0:=Q4 (R.o.drew);have y0:=Jf (U.o.drew);apply XB 200000000;apply YA 0;clear b2 z0 y0;go_wp2_with fail;refine Jo ?_;go_wp2_with fail;have z0:=Q4 (R.o.drew.drew);have y0:=Jf (U.o.drew.drew);apply XB 200000;apply YA 0;clear z0 y0;go_wp2_with fail;refine Jo ?_;clear r3;go_wp2_with fail;have z0:=Q4 (bh.o.drew);have y0:=Jf (bi.o.drew);apply XB 200000;apply YA 0;clear z0 y0;go_wp2_with fail;refine Jo ?_;clear r4;go_wp2_with fail;have z0:=Q4 (az.o.drew);have y1:=(Dm a0.o.drew).2.1;apply XC 320000000001111111 (λk=>k=g) q;iterate 3 (refine Qy (h:=?_);try simp only[Act.put,Za,Zc,Zb])
 iterate 1 (apply YK λ_ hv=>Q4 (hv.blk az.o (λe=>HG.o.2.1 e.symm)))
 iterate 2 (refine Qy (h:=?_);try simp only[Act.put,Za,Zc,Zb])
 iterate 1 (refine Qy (by kernel_rfl) (λwv hv=>by(have ca:=(Dm (hv.blk a0.o (λe=>by have:=HG.o.1;have:=ae.o;omega))).2.1);go_simp;try rfl) ?_;try simp only[Act.put,Za,Zc,Zb])
 apply YA 0;clear b3 z0 y1;go_wp2_with fail;refine(bm.o 184 #[ZP w.heap.size] (enters_of func184 (by kernel_rfl) rfl) (λw' cc y=>Qn9 w.heap.size id y w' (Jf (cc.blk bj.o.drew (λe=>by have:=HG.o.1;omega))))).mono ?_;rintro e w5⟨n,rfl,c5,K,r6,ah,ag⟩;have C5:=O c5.aT;have bk:=O (Zt ah ag);clear c5 ah ag;go_wp2_with fail;refine⟨C5.o,?_⟩;apply YI 0;clear r6;exact WD bk
end
theorem Qcw{w}{g:Nat}{cs:Array Value}{t:TypeId}(h:Qh w g cs t):w.shape? g=some (t,cs.size):=by unfold Qh at h;unfold World.shape?;rw[h]
theorem Qsp(w):(sizeOf 3).run prog w=.ok 1 w:=by go_simp
theorem Gg:(prog.info? 3).map (·.size)=some 1:=by kernel_rfl
theorem Wd(b:Nat):∀(vs:List Value)(o:Nat)(w:World),(w.setCells b o vs).drew=w.drew.setCells b o vs
 |[],_,_=>rfl
 |v::vs,o,w=>by show((w.setCell ⟨b,o,none⟩ v).setCells b (o+1) vs).drew=_;rw[Wd b vs];rfl
theorem Qkn{w}{v:Value}{l:List Int}(hI:Q6 w v l)(hl:l.length<1099511627776)(i:Nat)(hi:i<=l.length)(x:Int){vb:Nat}(hV:Qh w vb #[ZI x] 3)(ac:∀k,v.ownBlock=some k->k≠vb):
    Cl 166 #[v,ZI i,.slice (some ⟨vb,0,none⟩) 1 1] w λe w'=>∃R,e=.returned R/\Q6 w' R (l.take i++x::l.drop i)/\Qc (λk=>v.ownBlock=some k) w w'/\(R.ownBlock=v.ownBlock\/∃k,R.ownBlock=some k/\w.heap.size<=k):=by
  have ak:Hi (Kb W7 1 w (some ⟨vb,0,none⟩) [x]):=O (λj c=>by
    obtain rfl:j=0:=by simpa using c
    refine⟨vb,0,rfl,λk u hu=>?_⟩
    cases k with
    | zero => obtain rfl := Zs hu; exact Jf hV
    | succ k => cases hu)
  by_cases ap:i=l.length
  · subst ap
    have HI:=O hI
    obtain⟨a,cap,rfl,d,h0,_⟩:=hI.row intT.hc
    obtain⟨n,hn⟩:=Zx (l.length)
    have HN:=O hn
    have HE:=O (show l.take l.length++x::l.drop l.length=l++[x] by rw[List.take_length,List.drop_length])
    rw[<-hn]at d hl
    rw[HE.o]
    have HL:=O hl
    rw[<-hn]at HI|-
    have af:Hi (∀R w',Q6 w' R (l++[x])->Qc (λk=>(Value.slice a n cap).ownBlock=some k) w w'->(R.ownBlock=(Value.slice a n cap).ownBlock\/R.ownBlock=some w.heap.size)->
        (∃ aj, Ending.returned R = .returned aj /\ Q6 w' aj (l ++ [x]) /\ Qc (λk => (Value.slice a n cap).ownBlock = some k) w w' /\ (aj.ownBlock = (Value.slice a n cap).ownBlock \/ ∃ k, aj.ownBlock = some k /\ w.heap.size <= k))) := O (λR w' h1 h2 h3 => ⟨R, rfl, h1, h2, h3.imp id λh => ⟨_, h, Zv _⟩⟩)
    cases a with
    | none =>
      obtain rfl:=h0 rfl
      have br:n=0:=by omega
      clear hI ac hn h0 hl hi
      subst br
      clear d
      apply WH func166
      go_wp2_with (at_builtin;refine Jj intT rfl (.tmp 23) (.tmp 24) rfl _ l rfl HI.o _ _ [x] rfl ?a2 ?a3 ?a4 ?a5 ?a6)
      case a2=>exact nofun
      case a3=>exact ak.o
      case a4=>have:=HL.o;have:=HN.o;simp only[maxLen,Zm,List.length_nil];omega
      case a5=>have:=HL.o;have:=HN.o;simp only[Zm,List.length_nil];omega
      case a6=>
        intro R w' h1 h2 h3
        have FF:=O (af.o R w' h1 h2 h3)
        clear h1 h2 h3
        go_wp2
        go_ret
        exact FF.o
    | some ad =>
      clear hI ac hn h0 hl hi
      have b2:n<=cap:=d
      apply WH func166
      go_wp2_with (at_builtin;refine Jj intT rfl (.tmp 23) (.tmp 24) rfl _ l rfl HI.o _ _ [x] rfl ?a2 ?a3 ?a4 ?a5 ?a6)
      all_goals first
        | exact ak.o
        | (have := HL.o; have := HN.o; simp only [maxLen, Zm, List.length_nil]; omega)
        | (intro R w' h1 h2 h3
           have FF:=O (af.o R w' h1 h2 h3)
           clear h1 h2 h3
           go_wp2
           go_ret
           exact FF.o)
        | (intro h; cases h)
  · have Xg : i < l.length := by omega
    have ae:l≠[]:=λe=>by rw[e]at Xg;simp at Xg
    obtain⟨g,cap,au,rfl,hB,ar,I,d,ab⟩:=hI.opn ae
    have ai:g≠vb:=ac g rfl
    obtain⟨n,hn⟩:=Zx (l.length)
    have HN:=O hn
    have al:=hB.lt
    have an:=hV.lt
    have aa:((l.drop i).map λy=>Value.int .i64 y).length=n-i:=by rw[List.length_map,List.length_drop,hn]
    have ag:∀u∈(l.drop i).map λy=>Value.int .i64 y,u.oneCell'=true:=λu hu=>by
      obtain⟨y,_,rfl⟩:=Z3.1 hu
      rfl
    have q:∀W:World,(∀k,W.cell? ⟨g,k,none⟩=w.cell? ⟨g,k,none⟩)->∀j u,((l.drop i).map λy=>Value.int .i64 y)[j]? =some u->W.cell? ⟨g,i+j,none⟩=some u:=λW hW j u c=>by
      rw[hW,hB.cell]
      rw[List.getElem?_map,List.getElem?_drop]at c
      cases hy:l[i+j]? with
      | none => rw [hy] at c; cases c
      | some y =>
        rw[hy]at c
        obtain rfl:=Zs c
        exact I _ _ hy
    by_cases bu:n+1<=cap
    ·
      have af:=O (show∀W,W=w.drew->_ from λW hW=>Qou (w:=W) x Xg (hW▸hB.drew) ar (by omega) ab I)
      have bt:∀lb cb,(callFunc 225 #[.slice (some ⟨vb,0,none⟩) 1 1,.slice (some ⟨g,i+1,none⟩) lb cb]).run prog w=.ok (.value (.bool false)) w:=λlb cb=>by
        rw[run_callFunc_extern func225 (by kernel_rfl) (by kernel_rfl) (by kernel_rfl) (e:=Extern.SlicesOverlaps.overlaps #[100,100] #[4]) (by kernel_rfl),
          Lib.run_overlaps_apart w 100 4 3 underlying100 1 Qsp ⟨vb,0,none⟩ ⟨g,i+1,none⟩ 1 1 lb cb (λe=>ai e.symm) 3 3 1 au.size (Qcw hV) (Qcw hB) (by omega) (hV.frozen 0) (hV.frozen 1)]
        rfl
      have E:∀ty K sc,(Builtin.copy_ #[100,100] ty #[.slice (some ⟨g,i+1,none⟩) (n-i) K,.slice (some ⟨g,i,none⟩) (n+1-i) sc]).run prog w.drew=.ok (ZI ((n-i:Nat):Int)) (w.drew.setCells g (i+1) ((l.drop i).map λy=>ZI y)):=λty K sc=>by
        have h:=run_copy_cells (P:=prog) w.drew 100 100 ty 3 g (i+1) (n-i) K ⟨g,i,none⟩ (n+1-i) sc ((l.drop i).map λy=>Value.int .i64 y) underlying100 Gg (by rw[aa];simp only[Nat.min_def];split<;>omega)
          (λj u c => by rw [Addr.add_lit]; exact q w.drew (λ_ => rfl) j u c) (λj c => by rw [hB.drew.cell, Array.getElem?_eq_getElem (by omega)]; rfl) (λj c => hB.drew.frozen _) ag
        rw[aa]at h
        exact h
      obtain⟨W1,B⟩:=Zx (w.drew.setCells g (i+1) ((l.drop i).map λy=>ZI y))
      obtain⟨c1,b1,s1,_,C1⟩:=Vc ((l.drop i).map λy=>Value.int .i64 y) (i+1) w.drew au hB.drew (by omega)
      rw[<-B]at b1 C1
      have a1:=C1.blk (hV.drew) (λe=>ai e.symm)
      have V:∀ty K,(Builtin.copy_ #[100,100] ty #[.slice (some ⟨g,i,none⟩) (n+1-i) K,.slice (some ⟨vb,0,none⟩) 1 1]).run prog W1=.ok (ZI 1) (W1.setCells g i [ZI x]):=λty K=>
        run_copy_cells (P:=prog) W1 100 100 ty 3 g i (n+1-i) K ⟨vb,0,none⟩ 1 1 [Value.int .i64 x] underlying100 Gg (by simp only[Nat.min_def,Zm,List.length_nil];split<;>omega)
          (λj u c => by
            cases j with
            | zero => obtain rfl := Zs c; exact Jf a1
            | succ j => cases c)
          (λj c => by
            have:j=0:=by simpa using c
            subst this
            rw[b1.cell,Array.getElem?_eq_getElem (by omega)];rfl) (λj c=>b1.frozen _) (λu hu=>by
            obtain rfl:u=_:=by simpa using hu
            rfl)
      obtain⟨W2,Z⟩:=Zx (W1.setCells g i [ZI x])
      have FF:=O (af.o w.drew rfl)
      rw[<-B,<-Z]at FF
      rw[<-B]at E
      rw[<-Z]at V
      have e1:(((i:Int)==(n:Int)))=false:=by
        have:(i:Int)≠(n:Int):=by omega
        simpa using this
      have bg:decide ((i:Int)=(n:Int))=false:=by
        have:(i:Int)≠(n:Int):=by omega
        simpa using this
      have bi:IntKind.i64.wrap ((n:Int)+1)=(n:Int)+1:=by rw[IntWalk.i64_in _ (by omega)]
      have bh:IntKind.i64.wrap ((i:Int)+1)=(i:Int)+1:=by rw[IntWalk.i64_in _ (by omega)]
      have bf:decide ((cap:Int)<(n:Int)+1)=false:=by simp;omega
      rw[<-hn]
      have a9:i<n:=by omega
      have bs:n<1099511627776:=by omega
      have bk:(0:Int)<=(i:Int)+1:=by omega
      have bl:¬(cap=i+1):=by omega
      have bm:(i:Int)<=(n:Int)+1:=by omega
      have bo:¬(cap=i):=by omega
      have bv:((i:Int)+1).toNat=i+1:=by omega
      have bb:((n:Int)+1).toNat=n+1:=by omega
      have bp:(i:Int)+1<=(n:Int)+1:=by omega
      have bq:(n:Int)+1<=(cap:Int):=by omega
      clear hI hB ar I d ab hV ac hl hi ap Xg ae al an aa ag q B Z b1 s1 C1 a1 hn ai
      apply WH func166
      go_wp2_with (simp only[bt])
      refine ZB [0,1,2,3,4,5,6,7,208] ?_
      simp only[Z8,Zf,Ze,Zd]
      apply YA 0
      go_wp2_with fail
      refine Jo ?_
      clear E
      go_wp2
      go_ret
      have F2:=FF.o
      rw[<-HN.o]at F2
      exact⟨_,rfl,F2.1,F2.2.aT.mono (λk e=>.inl (by rw[e];rfl)),.inl rfl⟩
    ·
      obtain⟨i0,z0,a8,bc,ba,ao,a7⟩:=intT.hi
      obtain⟨r,hr⟩:=Zx (w.heap.size)
      obtain⟨G,hG⟩:=Zx (grownCap w (n+1) cap 3)
      have bj:n+1<=G:=by rw[hG];exact grownCap_ge _ _ _ _
      have ax:G<=maxLen:=by rw[hG];exact grownCap_le_maxLen _ _ _ _ (by simp only[maxLen];omega)
      obtain⟨z,U⟩:∃z:Array Value,z=((l.take i).map λy=>Value.int .i64 y).toArray++Builtin.zeroCells z0.cells (n+1-i)++Builtin.zeroCells z0.cells (G-(n+1)):=⟨_,rfl⟩
      have bd:z0.cells.size=1:=by rw[a7];rfl
      have be:∀k,(Builtin.zeroCells z0.cells k).size=k:=λk=>by simp[Builtin.zeroCells,bd]
      have az:z.size=G:=by
        rw[U]
        simp only[Array.size_append,be,List.size_toArray,List.length_map,List.length_take]
        omega
      have am:(Builtin.firstCells i0.size i (.slice (some ⟨g,0,none⟩) i cap)).run prog w.drew=.ok ((l.take i).map λy=>Value.int .i64 y).toArray w.drew:=by
        rw[ba]
        refine run_firstCells_some w.drew 1 i ⟨g,0,none⟩ i cap ((l.take i).map λy=>Value.int .i64 y) (by rw[List.length_map,List.length_take];omega) (λj u c=>?_)
        rw[Addr.add_lit,Nat.zero_add]
        rw[List.getElem?_map,List.getElem?_take]at c
        split at c
        · cases hy : l[j]? with
          | none => rw [hy] at c; cases c
          | some y =>
            rw[hy]at c
            obtain rfl:=Zs c
            rw[hB.drew.cell]
            exact I _ _ hy
        · cases c
      have aq:∀ty,(Builtin.append_ #[100,3] ty #[.slice (some ⟨g,0,none⟩) i cap,ZI ((n:Int)+1-(i:Int))]).run prog w=.ok (.slice (some ⟨r,0,none⟩) (n+1) G) (w.drew.alloc (.cells z 3)):=λty=>by
        have h:=Lib.run_append_grow_zeros (P:=prog) w 100 3 ty 3 i0 z0 .i64 .i64 underlying100 underlying3 a8 bc (some ⟨g,0,none⟩) i cap _ am (n+1-i) (by omega) (by omega) (by omega) (by omega) (by rw[ao];omega) (by rw[ao,show i+(n+1-i)=n+1 by omega];exact growslice_fits (by omega) (by omega))
        rw[show i+(n+1-i)=n+1 by omega,show((n+1-i:Nat):Int)=(n:Int)+1-(i:Int) by omega,<-hG,<-U,<-hr]at h
        exact h
      have ay:∀(k:Nat)(y:Int),k<i->l[k]? =some y->z[k]? =some (ZI y):=λk y hk hy=>by
        have b3:((l.take i).map λy=>Value.int .i64 y).toArray.size=i:=by simp;omega
        rw[U,Array.append_assoc,Array.getElem?_append_left (by omega)]
        simp only[Zf,List.getElem?_map,List.getElem?_take,if_pos hk,hy]
        rfl
      obtain⟨W0,ah⟩:=Zx (w.drew.alloc (.cells z 3))
      have B0:Qh W0 r z 3:=by rw[ah];exact Qh.new' _ _ hr
      have C0:Qc Qb w W0:=by rw[ah];exact(Zg Qb w).drew.alloc _
      rw[<-ah]at aq
      have a0:=C0.blk hV (λh=>h)
      have av:=C0.blk hB (λh=>h)
      have E:∀ty K,(Builtin.copy_ #[100,100] ty #[.slice (some ⟨r,i,none⟩) (n+1-i) K,.slice (some ⟨vb,0,none⟩) 1 1]).run prog W0=.ok (ZI 1) (W0.setCells r i [ZI x]):=λty K=>
        run_copy_cells (P:=prog) W0 100 100 ty 3 r i (n+1-i) K ⟨vb,0,none⟩ 1 1 [Value.int .i64 x] underlying100 Gg (by simp only[Nat.min_def,Zm,List.length_nil];split<;>omega)
          (λj u c => by
            cases j with
            | zero => obtain rfl := Zs c; exact Jf a0
            | succ j => cases c)
          (λj c => by
            have:j=0:=by simpa using c
            subst this
            rw[B0.cell,Array.getElem?_eq_getElem (by omega)];rfl) (λj c=>B0.frozen _) (λu hu=>by
            obtain rfl:u=_:=by simpa using hu
            rfl)
      obtain⟨W1,B⟩:=Zx (W0.setCells r i [ZI x])
      obtain⟨c1,b1,s1,_,C1⟩:=Vc [Value.int .i64 x] i W0 z B0 (by simp only[Zm,List.length_nil];omega)
      rw[<-B]at b1 C1 E
      have aw:=C1.blk av (λe=>by omega)
      have V:∀ty K sc,(Builtin.copy_ #[100,100] ty #[.slice (some ⟨r,i+1,none⟩) (n-i) K,.slice (some ⟨g,i,none⟩) (n-i) sc]).run prog W1.drew=.ok (ZI ((n-i:Nat):Int)) (W1.drew.setCells r (i+1) ((l.drop i).map λy=>ZI y)):=λty K sc=>by
        have h:=run_copy_cells (P:=prog) W1.drew 100 100 ty 3 r (i+1) (n-i) K ⟨g,i,none⟩ (n-i) sc ((l.drop i).map λy=>Value.int .i64 y) underlying100 Gg (by rw[aa];simp only[Nat.min_def];split<;>omega)
          (λj u c => by rw [Addr.add_lit]; exact q W1.drew (λk => by rw [aw.drew.cell, hB.cell]) j u c) (λj c => by rw [b1.drew.cell, Array.getElem?_eq_getElem (by omega)]; rfl) (λj c => b1.drew.frozen _) ag
        rw[aa]at h
        exact h
      have J:=Qtr (w:=W0.drew) (i:=i) x Xg B0.drew az (by omega) ax (λk y hk hy=>ay k y hk hy)
      rw[<-Wd r [Value.int .i64 x] i W0,<-B]at J
      obtain⟨W2,Z⟩:=Zx (W1.drew.setCells r (i+1) ((l.drop i).map λy=>ZI y))
      rw[<-Z]at V J
      have FF:=O (Zt J.1 (C0.trans J.2.aT λk e=>.inr (by omega):Qc Qb w W2))
      have HR:=O hr
      have e1:(((i:Int)==(n:Int)))=false:=by
        have:(i:Int)≠(n:Int):=by omega
        simpa using this
      have bg:decide ((i:Int)=(n:Int))=false:=by
        have:(i:Int)≠(n:Int):=by omega
        simpa using this
      have bi:IntKind.i64.wrap ((n:Int)+1)=(n:Int)+1:=by rw[IntWalk.i64_in _ (by omega)]
      have bh:IntKind.i64.wrap ((i:Int)+1)=(i:Int)+1:=by rw[IntWalk.i64_in _ (by omega)]
      have bz:IntKind.i64.wrap ((n:Int)+1-(i:Int))=(n:Int)+1-(i:Int):=by rw[IntWalk.i64_in _ (by omega)]
      have bf:decide ((cap:Int)<(n:Int)+1)=true:=by simp;omega
      rw[<-hn]
      have a9:i<n:=by omega
      have bs:n<1099511627776:=by omega
      have bk:(0:Int)<=(i:Int)+1:=by omega
      have bl:¬(G=i+1):=by omega
      have bm:(i:Int)<=(n:Int)+1:=by omega
      have bo:¬(G=i):=by omega
      have bw:¬(cap=i):=by omega
      have bv:((i:Int)+1).toNat=i+1:=by omega
      have bb:((n:Int)+1).toNat=n+1:=by omega
      have bp:(i:Int)+1<=(n:Int)+1:=by omega
      have bq:(i:Int)<=(cap:Int):=by omega
      have b0:(i:Int)<=(n:Int):=by omega
      clear hI hB ar I d ab hV ac hl hi ap Xg ae al an aa ag q ah B Z b1 s1 C1 hn ai a8 bc ba ao a7 hr hG bj ax U bd be az am ay B0 C0 a0 av aw J
      apply WH func166
      go_wp2_with (at_builtin;refine Lib.wpList_append_run _ rfl (.tmp 34) (.tmp 39) 100 3 rfl _ _ rfl rfl _ _ (aq _) ?_)
      clear aq
      go_wp2_with fail
      clear E
      refine ZB [0,1,2,3,4,5,6,7,208] ?_
      simp only[Z8,Zf,Ze,Zd]
      iterate 5 (refine Jq (h:=?_))
      iterate 2 (refine Jq (h:=?_))
      refine Jq (by kernel_rfl) (by go_simp;try rfl) ?_
      apply YA 0
      go_wp2_with fail
      refine Jo ?_
      clear V
      go_wp2
      go_ret
      have F2:=FF.o
      rw[<-HN.o]at F2
      exact⟨_,rfl,F2.1,F2.2.none,.inr ⟨_,rfl,Nat.le_of_eq HR.o.symm⟩⟩
section
variable{w:World}{F:Fp}{b:Nat}{h:Qm}
theorem Qgd{s:Yk}(c:h.aO s≠0):h.add s=h:=by unfold Qm.add;rw[if_neg c]
theorem Qny(hh:Q9 w F b h)(ok:J8 h){s:Yk}(h0:h.aO s=0):
  ∃ma mu,Qh w b #[.map (some ma),.map (some mu)] 114/\ma<w.heap.size/\mu<w.heap.size/\b≠ma/\b≠mu/\∀w3,Qc Qb w w3->
   ∃u,(Instr.mapUpdate 111 (.map (some ma)) (ZI s.id) (.agg (P0 ⟨s,h.depth s.par⟩))).run prog w3.drew=.ok () u/\Qc (λk=>k=ma) w3 u/\
   ∃v,(Instr.lookup 112 (.map (some mu)) (ZI s.par) false).run prog u.drew=.ok v u.drew/\Q6 u v (h.aM s.par)/\(∀k,v.ownBlock=some k->k<w.heap.size/\k≠b/\k≠ma/\k≠mu)/\
   ∀i w5 w6 v',Om s.id (h.aM s.par) i i->Qc Qb u w5->Qc (λk=>v.ownBlock=some k) w5 w6->Q6 w6 v' ((h.aM s.par).take i++s.id::(h.aM s.par).drop i)->(v'.ownBlock=v.ownBlock\/∃k,v'.ownBlock=some k/\w5.heap.size<=k)->
    ∃B,(Instr.mapUpdate 112 (.map (some mu)) (ZI s.par) v').run prog w6=.ok () B/\Q9 B (Qn F w B) b (h.add s)/\Qc F w B:=by
 obtain⟨ma,mu,l,vs,G,hp,hn,aq,ae,z,fb,fm,fG,al,V,a4,az,am⟩:=hh.opn;have ag:=z.at_;obtain⟨_,_,ab,_⟩:=Ub h0;have ah:=Wu ab;refine⟨ma,mu,aq,ae.lt,z.map.lt,a4,λe=>al (e▸ag),λw3 E=>?_⟩;obtain⟨u,r4,av,c4⟩:=X6 (P:=prog) ((ae.aB E (λh=>h)).aB (Zg Qb w3).drew (λh=>h)) underlying111 underlying3 s.id (.agg (P0 ⟨s,h.depth s.par⟩));have I:Qc (λk=>k=ma) w3 u:=c4.aT;refine⟨u,r4,I,?_⟩;have U:=(z.aB E (Jl.none G)).aB I (λk d e=>V (e▸d));obtain⟨v,hr,hI,hv⟩:=(U.aB (Zg Qb u).drew (Jl.none G)).look s.par;have ar:Q6 u v (h.aM s.par):=hI;have q:∀k,v.ownBlock=some k->(s.par,v)∈vs/\G k/\k≠mu:=λk d=>by
  rcases hv with⟨e,_⟩|hv;·rw[e]at d;cases d
  .exact⟨hv,z.own _ hv k d⟩
 refine⟨v,hr,ar,λk d=>?_,λi w5 w6 v' a3 J K ac aj=>?_⟩;·obtain⟨_,h1,h2⟩:=q k d;exact⟨az k (fG k h1),λe=>al (e▸h1),λe=>V (e▸h1),h2⟩
 .have aw:=(U.map.aB J (λh=>h)).aB K (λd=>(q mu d).2.2 rfl);obtain⟨B,r7,ax,R⟩:=X6 (P:=prog) aw underlying112 underlying3 s.par v';refine⟨B,r7,?_⟩;have a0:(λk=>Qm.aM (h.add s) k)=λk=>if s.par=k then Nm s.id (h.aM k)else h.aM k:=funext λk=>by rw[Bv h0];exact Fe ⟨s,h.depth s.par⟩ k ok.sorted
  have aa:∀k,(h.add s).aM k=if s.par=k then Nm s.id (h.aM k)else h.aM k:=λk=>congrFun a0 k;have a1:s.id∉h.aM s.par:=λhx=>by obtain⟨c,hc,e,_⟩:=Sx hx;exact ah c hc e
  have ai:(h.add s).aM s.par=(h.aM s.par).take i++s.id::(h.aM s.par).drop i:=by rw[aa,if_pos rfl,Qm8 a3 a1]
  have s5:=J.size;have s6:=K.size;have s7:=R.size;have ak:∀k,v'.ownBlock=some k->k<w6.heap.size:=ac.lt;have au:Q6 B v' ((h.add s).aM s.par):=by
   rw[ai];refine ac.aB R λk d e=>?_;rcases aj with Z|⟨k2,Z,h2⟩;·rw[Z]at d;exact(q k d).2.2 e
   .rw[Z]at d;have e3:k2=k:=Zs d;have:=U.map.lt;omega
  have ao:Qc (λk=>k=mu\/v.ownBlock=some k) u B:=((J.none.aA (K.mono λk d=>.inl (.inr d))).trans R λk d=>.inl (.inl d));obtain⟨ay,ap⟩:=U.put (i:=s.par) (v':=v') (λk d=>by rw[aa,if_neg (λe=>d e.symm)]) au (λk d=>by
   rcases aj with Z|⟨k2,Z,h2⟩;·rw[Z]at d;exact .inl ⟨v,(q k d).1,d⟩
   .rw[Z]at d;have e3:k2=k:=Zs d;have h3:=ak k (by rw[Z,e3]);exact .inr ⟨by omega,by omega⟩) ax ao (λk d=>d.imp id λd=>⟨v,(q k d).1,d⟩)
  have cA:Qc (λk=>k=ma\/G k) w B:=(E.none.aA (I.mono λk d=>.inl (.inl d))).aA (ap.sub λk d=>.inr d);have an:Bd G w:=z.bd;refine am B (l++[⟨s,h.depth s.par⟩]) _ _ ?_ ?_ (ay.later (w:=w) (Zp E.size I.size) ?_) cA;·rw[Bv h0];exact(hp.append_right _).trans (Ef _ h).symm
  .have af:=((av.aB J (λh=>h)).aB K (λd=>by obtain⟨_,h1,_⟩:=q ma d;exact V h1)).aB R (λe=>V (e▸ag));rw[Gw (λp a2=>by
    obtain⟨x,hx,rfl⟩:=Z3.1 a2;exact ah x (hp.mem_iff.1 hx))]at af
   have:Us (l++[⟨s,h.depth s.par⟩])=Us l++[(s.id,.agg (P0 ⟨s,h.depth s.par⟩))]:=by unfold Us;rw[List.map_append];rfl
   rw[this];exact af
  .exact λk d=>d.elim (λd=>Nat.lt_of_lt_of_le (an k d) cA.size) (λd=>d.2)
theorem Am(h:Qm)(s:Yk):h.aO s=if s.mayE≠0 then 130 else if 64<=h.length then 4 else if(h.at s.id).isSome then 80 else if h.depth s.par=0 then 160 else 0:=rfl
end
section
variable{w:World}{F:Fp}{b:Nat}{h:Qm}
theorem Qh.inj{w}{g:Nat}{cs cs':Array Value}{t t':TypeId}(h:Qh w g cs t)(h':Qh w g cs' t'):cs=cs':=by unfold Qh at h h';rw[h]at h';injection h' with h';injection h' with h'
theorem Qor(hh:Q9 w F b h)(ok:J8 h)(s:Yk):
  ZW 102 #[ptr b,Fb s] w (ZI (h.aO s)) λw'=>Q9 w' (Qn F w w') b (h.add s)/\Qc F w w':=by
 have aa:=O (λw'(c:Qc Qb w w')=>Q9.obj.aB hh c (Jl.none F));have NO:Hi (∀w',Qc Qb w w'->h.aO s≠0->Q9 w' (Qn F w w') b (h.add s)/\Qc F w w'):=O (λw' c h0=>by rw[Qgd h0];exact Q9.obj.same hh c);obtain⟨W,hW⟩:=Zx (w.alloc (.cells (Z4 s.leaf s) 29));have S0:Hi (Xx W w.heap.size s):=O (by rw[hW];exact Xx.new w s);have C0:Hi (Qc Qb w W):=O (by rw[hW];exact(Zg _ _).alloc _);have HN:=O (Gz (aa.o W C0.o));have I:=O (λw=>Qef s w);obtain⟨a0,a1,a2,a3,a4,a5,a6,a7,a8,a9,ak,al,am,an⟩:=(show Xx (w.alloc _) _ _ from hW▸S0.o).cells;by_cases hm:s.mayE=0
 .have hE:h.aO s=if 64<=h.length then 4 else if(h.at s.id).isSome then 80 else if h.depth s.par=0 then 160 else 0:=by rw[Am,if_neg (by omega)]
  have HD:=O (λw'(c:Qc Qb w w')=>Qhk (aa.o w' c) s.par);obtain⟨ma,mu,l,vs,G,hp,z,ao,ar,bo,fb,fm,fG,bt,bu,bv,bp,_⟩:=hh.opn;have Z:=O ao;have LK:=O (λ(w')(cc:Qc Qb w w')=>show(Instr.lookup 111 (.map (some ma)) (ZI s.id) true).run prog w'=.ok (.tuple #[.agg (P0 (h.get s.id)),.bool (h.at s.id).isSome]) w' by
   have hL:=Dj (P:=prog) (ar.aB cc (λh=>h)) underlying111 underlying3 (Sf w') s.id;rw[Ed s.id l z,<-Qm.at_perm hp z]at hL;rw[hL];unfold Qm.get;cases h.at s.id<;>rfl)
  have ay:=O (λ(w')(cc:Qc Qb w w')=>show(Builtin.len_ #[111] 3 #[.map (some ma)]).run prog w'=.ok (ZI h.length) w' by
   have hL:=Qua (P:=prog) (ar.aB cc (λh=>h)) underlying111 3;have e:(Us l).length=h.length:=by unfold Us;rw[List.length_map,hp.length_eq]
   rw[e]at hL;exact hL)
  have J:Hi (h.aO s=0->ma<w.heap.size/\mu<w.heap.size/\b≠ma/\b≠mu/\∀w3,Qc Qb w w3->
   ∃q,(Instr.mapUpdate 111 (.map (some ma)) (ZI s.id) (.agg (P0 ⟨s,h.depth s.par⟩))).run prog w3.drew=.ok () q/\Qc (λk=>k=ma) w3 q/\
   ∃v,(Instr.lookup 112 (.map (some mu)) (ZI s.par) false).run prog q.drew=.ok v q.drew/\Q6 q v (h.aM s.par)/\(∀k,v.ownBlock=some k->k<w.heap.size/\k≠b/\k≠ma/\k≠mu)/\
   ∀i w5 w6 v',Om s.id (h.aM s.par) i i->Qc Qb q w5->Qc (λk=>v.ownBlock=some k) w5 w6->Q6 w6 v' ((h.aM s.par).take i++s.id::(h.aM s.par).drop i)->(v'.ownBlock=v.ownBlock\/∃k,v'.ownBlock=some k/\w5.heap.size<=k)->
    ∃w7,(Instr.mapUpdate 112 (.map (some mu)) (ZI s.par) v').run prog w6=.ok () w7/\Q9 w7 (Qn F w w7) b (h.add s)/\Qc F w w7):=O (λh0=>by
   obtain⟨br,bs,bl,k1,k2,k3,k4,k5⟩:=Qny hh ok h0;have e:=ao.inj bl;injection e with e;injection e with R e2;injection R with R;injection e2 with e2 _;injection e2 with e2;have R:ma=br:=Zs R;have e2:mu=bs:=Zs e2;subst R;subst e2;exact⟨k1,k2,k3,k4,k5⟩)
  have aj:=O (Gk ok.sorted s.par);have ab:Hi ((h.aM s.par).length<=64):=O (by
   have:(h.aM s.par).length<=h.length:=by unfold Qm.aM;rw[List.length_map];exact List.length_filter_le _ _
   have:=ok.many;omega)
  have Eu:decide (s.mayE=0)=true:=by simpa using hm
  have bq:(s.mayE==0)=true:=by simpa using hm
  obtain⟨c,hc⟩:=Zx (h.get s.id);rw[<-hc]at LK;obtain⟨bw,bd⟩:=Zx ((h.at s.id).isSome);rw[<-bd]at LK hE;obtain⟨n,bc⟩:=Zx (h.length);rw[<-bc]at ay hE;obtain⟨d,au⟩:=Zx (h.depth s.par);rw[<-au]at HD J hE;have b2:Hi (d<=8):=O (by
   rw[au];unfold Qm.depth;split;·omega
   .split;·omega
    .split;·omega
     .rename_i hx;simp only[Bool.or_eq_true,decide_eq_true_eq,not_or]at hx;omega)
  have HE:=O hE;rw[hm]at I;unfold Fb ptr at*;clear hh ok hE hm ao ar bo hp z fb fm fG bt bu bv bp hc bd bc au Eu bq;apply WH func102;go_wp2_with fail;rw[<-hW]at a0 a1 a2 a3 a4 a5 a6 a7 a8 a9 ak al am an|-;clear hW;apply Zy HN;rintro w1 rfl;go_wp2_with fail;apply Zz (I.o _);intro w1 c1;have C1:=O (C0.o.aA c1);have S1:=O (S0.o.aB c1);have b3:Hi (w.heap.size<w1.heap.size):=O (Nat.lt_of_lt_of_le (Qh.lt S0.o) c1.size);clear c1 a0 a1 a2 a3 a4 a5 a6 a7 a8 a9 ak al am an;go_wp2_with fail;apply XC 3221111111111 Qb w1;iterate 3 (refine Qy (h:=?_);try simp only[Act.put,Za,Zc,Zb])
  iterate 1 (apply YK λ_ hv=>Q4 (hv.blk (C1.o.blk Z.o (λh=>h)) (λh=>h)))
  (refine Qy (h:=?_);try simp only[Act.put,Za,Zc,Zb]);iterate 2 (apply YK λU hv=>Zt ((show Xx U w.heap.size s from S1.o.aB hv).cells) (LK.o U (C1.o.aA hv)))
  apply YA 0;go_wp2_with fail;refine⟨((Zg Qb w1).alloc _).drew,?_⟩;have ap:Qh (w1.alloc (.cells Z6 109)).drew w1.heap.size Z6 109:=(Qh.new _ _ _).drew;have D1:Qc Qb w1 (w1.alloc (.cells Z6 109)).drew:=((Zg Qb w1).alloc _).drew;generalize(w1.alloc (.cells Z6 109)).drew=W1 at ap D1|-;obtain⟨W2,s2,bm,C2⟩:=Q0 (P:=prog) (vs:=P0 c) ap rfl (Sn c);have af:Qc Qb w1 W2:=D1.trans C2 (λk e=>.inr (by omega));have B:=O af;have av:=O (C1.o.aA af);clear ap D1 bm C2 af;refine Yb ?_;go_wp2_with fail;refine⟨B.o,?_⟩;apply YI 0;clear s2;have bz:=(show Xx W2 w.heap.size s from S1.o.aB B.o).cells.2.1;go_wp2_with fail;apply Zz (HD.o W2 av.o);intro w3 c3;have V:=O (av.o.aA c3);have S3:=O ((S1.o.aB B.o).aB c3);clear c3 bz;have b0:=Q4 (V.o.blk Z.o (λh=>h));have bb:=ay.o w3 V.o;by_cases z:64<=n
  .have bg:decide (64<=(n:Int))=true:=by simp;omega
   have E:=O (show h.aO s=4 by rw[HE.o,if_pos z]);have u:=O (NO.o w3 V.o (by rw[E.o];decide));clear z;go_wp2_with fail;go_ret;exact⟨by rw[E.o];rfl,u.o⟩
  .have bg:decide (64<=(n:Int))=false:=by simp;omega
   cases bw with
   |true=> have E:=O (show h.aO s=80 by rw[HE.o,if_neg z,if_pos rfl]);have u:=O (NO.o w3 V.o (by rw[E.o];decide));clear z;go_wp2_with fail;go_ret;exact⟨by rw[E.o];rfl,u.o⟩
   |false=>
    by_cases hd:d=0;·have E:=O (show h.aO s=160 by rw[HE.o,if_neg z,if_neg (by decide),if_pos hd]);have u:=O (NO.o w3 V.o (by rw[E.o];decide));subst hd;clear z;go_wp2_with fail;go_ret;exact⟨by rw[E.o];rfl,u.o⟩
    .have E:=O (show h.aO s=0 by rw[HE.o,if_neg z,if_neg (by decide),if_neg hd]);have b4:decide ((d:Int)=0)=false:=by simp;omega
     have b5:((d:Int)==0)=false:=by simp;omega
     obtain⟨k1,k2,k3,k4,k5⟩:=J.o E.o;obtain⟨q,r4,c4,v,r5,az,bf,k6⟩:=k5 w3 V.o;have K:=O (Zt k1 (Zt k2 (Zt k3 k4)));have C4:=O c4;have aw:=O az;have ai:=O bf;have K6:=O k6;have S4:=O (c4.blk S3.o (λe=>by
      have:=K.o.1;omega))
     have ag:=O (c4.blk (V.o.blk Z.o (λh=>h)) K.o.2.2.1);clear z k1 k2 k3 k4 k5 k6 c4 az bf;go_wp2_with fail;clear b0 bb;have e0:=Q4 ((V.o.blk Z.o (λh=>h)).drew);have g0:=(show Xx w3.drew w.heap.size s from S3.o.aB (Zg Qb w3).drew).cells;unfold P0 at r4;dsimp only at r4;apply XB 2000000000;apply YA 0;clear e0 g0;go_wp2_with fail;refine Jo ?_;clear r4;go_wp2_with fail;have e0:=Q4 ag.o.drew;have g1:=(show Xx q.drew w.heap.size s from Xx.aB S4.o (Zg Qb q).drew).cells;apply XB 20000000;apply YA 0;clear e0 g1;go_wp2_with fail;refine Jo ?_;clear r5;have g0:=(show Xx q.drew w.heap.size s from Xx.aB S4.o (Zg Qb q).drew).cells;go_wp2_with fail;refine(Qn7 (Q6.aB aw.o (Zg Qb q).drew (λ_ _ h=>h)) (aj.o.imp λh=>Int.le_of_lt h) (by have:=ab.o;omega) s.id).mono ?_;rintro e w5⟨i,fb,rfl,rfl,be⟩;have ax:=O be;clear be;go_wp2_with fail;clear g0;have NE:=O (λk hk=>(ai.o k hk).2.1);have g0:=(show Xx q.drew.drew w.heap.size s from Xx.aB S4.o (Zg Qb q).drew.drew).cells;have e0:=Q4 ag.o.drew.drew;apply XC 3220011111111 (λk=>v.ownBlock=some k) q;iterate 3 (refine Qy (h:=?_);try simp only[Act.put,Za,Zc,Zb])
     iterate 1 (apply YK λ_ hv=>Q4 (hv.blk ag.o (λh=>NE.o _ h rfl)))
     (refine Qy (h:=?_);try simp only[Act.put,Za,Zc,Zb]);iterate 1 (refine Qy (by kernel_rfl) (λU hv=>by(have z1:=(show Xx U w.heap.size s from hv.blk S4.o (λh=>by have:=(ai.o _ h).1;omega)).cells);go_simp;try rfl) ?_;try simp only[Act.put,Za,Zc,Zb])
     apply YA 0;clear e0 g0;go_wp2_with fail;refine⟨(Zg _ q).drew.drew.alloc _,?_⟩;have hV:Qh ((q.alloc (.cells #[ZI s.id] 3)).drew.drew) q.heap.size #[ZI s.id] 3:=(Qh.new _ _ _).drew.drew;have aq:Qc Qb q ((q.alloc (.cells #[ZI s.id] 3)).drew.drew):=((Zg _ q).alloc _).drew.drew;generalize(q.alloc (.cells #[ZI s.id] 3)).drew.drew=w5 at hV aq|-;have ah:=O aq;have HV:=O hV;clear hV aq;refine Yb ?_;go_wp2_with fail;refine(Qkn (Q6.aB aw.o ah.o (λ_ _ h=>h)) (by have:=ab.o;omega) i ax.o.len s.id HV.o (λk hk e=>by
      have h1:=(ai.o k hk).1;have h2:=V.o.size;have h3:=C4.o.size;omega)).mono ?_
     rintro e w6⟨v',rfl,ba,c6,ho⟩;obtain⟨w7,r7,ae,ac⟩:=K6.o i w5 w6 v' ax.o ah.o c6 ba ho;have u:=O (Zt ae ac);have C6:=O (ah.o.none.aA c6);clear ba c6 ho ae ac;go_wp2_with fail;refine⟨C6.o,?_⟩;apply YI 0;clear r7;go_wp2;go_ret;exact⟨by rw[E.o];rfl,u.o⟩
 .have hE:h.aO s=130:=by rw[Am,if_pos hm]
  have hd:decide (s.mayE=0)=false:=by simpa using hm
  have b6:(s.mayE==0)=false:=by simpa using hm
  rw[hE];rw[hE]at NO;unfold Fb ptr at*;clear hh ok hE hm;apply WH func102;go_wp2_with fail;rw[<-hW]at a0 a1 a2 a3 a4 a5 a6 a7 a8 a9 ak al am an|-;clear hW;apply Zy HN;rintro w1 rfl;go_wp2_with fail;apply Z9 (I.o _) (λw1 c1=>NO.o w1 (C0.o.aA c1) (by decide));intro w1 u;go_wp2_with fail;go_ret;exact⟨rfl,u.o⟩
end
theorem Qkd:prog.eqGuardType prog.depth 109=false:=by kernel_rfl
theorem Qsv:prog.stoodInHeld 109=false:=by kernel_rfl
theorem Qke:prog.eqGuardType prog.depth 29=false:=by kernel_rfl
theorem Qsw:prog.stoodInHeld 29=false:=by kernel_rfl
theorem Wi:prog.eqGuardType prog.depth 27=false:=by kernel_rfl
theorem Qja:prog.stoodInHeld 27=false:=by kernel_rfl
section
attribute [local go_sem] Qkd Qsv Qke Qsw Wi Qja
@[irreducible]def Qr5(c d k q u z B E I s1 s2 s3 J K R U V Z:Int):Bool:=!(c==s1&&(d==s2&&(k==s3&&(q==J&&(u==K&&(z==R&&(B==U&&(E==V&&I==Z))))))))
theorem Qlb{c d k q u z B E I s1 s2 s3 J K R U V Z:Int}(h:Qr5 c d k q u z B E I s1 s2 s3 J K R U V Z=false):c=s1/\d=s2/\k=s3/\q=J/\u=K/\z=R/\B=U/\E=V/\I=Z:=by unfold Qr5 at h;simpa using h
theorem Qma(i p k t d K R U V Z r6 r7 r8 r9 s1 s2 s3 s4 s5 s6 s7 s8 s9:Int)(b:Bool)(w):
  (binOp .neq 109 (.agg #[ZI i,ZI p,.bool b,ZU K,ZU R,ZU U,ZU V,ZU Z,ZU r6,ZU r7,ZU r8,ZU r9,ZI k,ZI t,ZI d]) (.agg #[ZI i,ZI p,.bool b,ZU s1,ZU s2,ZU s3,ZU s4,ZU s5,ZU s6,ZU s7,ZU s8,ZU s9,ZI k,ZI t,ZI d])).run prog w=
   .ok (.bool (Qr5 K R U V Z r6 r7 r8 r9 s1 s2 s3 s4 s5 s6 s7 s8 s9)) w:=by
 unfold Qr5;go_simp;by_cases c:K=s1;case neg=>simp[c]
 by_cases q:R=s2;case neg=>simp[c,q]
 by_cases u:U=s3;case neg=>simp[c,q,u]
 by_cases z:V=s4;case neg=>simp[c,q,u,z]
 by_cases B:Z=s5;case neg=>simp[c,q,u,z,B]
 by_cases E:r6=s6;case neg=>simp[c,q,u,z,B,E]
 by_cases I:r7=s7;case neg=>simp[c,q,u,z,B,E,I]
 by_cases J:r8=s8;case neg=>simp[c,q,u,z,B,E,I,J]
 by_cases h9:r9=s9;case neg=>simp[c,q,u,z,B,E,I,J,h9]
 simp[c,q,u,z,B,E,I,J,h9]
end
def Qc0(a b:Jy):Bool:=(a.f:Int)==(b.f:Int)&&((a.l:Int)==(b.l:Int)&&(a.r:Int)==(b.r:Int))
theorem Tx{a b:Jy}(h:Qc0 a b=true):a=b:=by obtain⟨c,d,k⟩:=a;obtain⟨q,u,z⟩:=b;unfold Qc0 at h;simp only[Zw,beq_iff_eq]at h;obtain⟨B,E,I⟩:=h;congr 1<;>omega
def Qfo(a s:Yk):Bool:=Qc0 a.real s.real&&(Qc0 a.share s.share&&Qc0 a.aN s.aN)
theorem Qiy{a s:Yk}(h:Qfo a s=true):a.aK s=a:=by unfold Qfo at h;simp only[Zw]at h;obtain⟨c,d,k⟩:=h;unfold Yk.aK;rw[<-Tx c,<-Tx d,<-Tx k]
section
variable{w:World}{F:Fp}{b:Nat}{h:Qm}
theorem Fq{s:Yk}(c:h.aG s≠0):h.change s=h:=by unfold Qm.change;rw[if_neg c]
theorem Qgt{s:Yk}{c:Vm}(z:J8 h)(k:h.at s.id=some c)(q:Qfo c.sp s=true):h.change s=h:=by
 unfold Qm.change;split
 .have:∀x∈h,(if x.sp.id=s.id then(⟨x.sp.aK s,x.d⟩:Vm)else x)=x:=λx u=>by
   split;·rename_i e;have d:=Da z.sorted u;rw[e,k]at d;obtain rfl:=Zs d;rw[Qiy q]
   .rfl
  calc h.map (λx=>if x.sp.id=s.id then(⟨x.sp.aK s,x.d⟩:Vm)else x)=h.map id:=List.map_congr_left this
   _=h:=List.map_id h
 .rfl
theorem Qp9{l:List Vm}{c:Vm}(i:Int)(q:(l.map Vm.id).Nodup)(u:∃x∈l,x.sp.id=c.sp.id):Oi c.sp.id (.agg (P0 c)) (Us l)=Us (l.map λx=>if x.sp.id=c.sp.id then c else x):=by
 induction l with
 |nil=>obtain⟨x,d,_⟩:=u;cases d
 |cons y l B=>
  simp only[List.map_cons,List.nodup_cons]at q;show Oi c.sp.id (.agg (P0 c)) ((y.sp.id,.agg (P0 y))::Us l)=_;rw[Oi];by_cases e:y.sp.id=c.sp.id
  .rw[if_pos e.symm];have:l.map (λx=>if x.sp.id=c.sp.id then c else x)=l:=by
    have:∀x∈l,(if x.sp.id=c.sp.id then c else x)=x:=λx d=>if_neg λk=>q.1 (Z3.2 ⟨x,d,k.trans e.symm⟩)
    calc l.map (λx=>if x.sp.id=c.sp.id then c else x)=l.map id:=List.map_congr_left this
     _=l:=List.map_id l
   rw[List.map_cons,this,if_pos e];rfl
  .rw[if_neg (λz=>e z.symm),List.map_cons,if_neg e,B q.2 (by
    obtain⟨x,d,k⟩:=u;rcases Zu.1 d with rfl|d;·exact absurd k e
    .exact⟨x,d,k⟩)]
   rfl
theorem Qev(hh:Q9 w F b h){s:Yk}(h0:h.aG s=0){c:Vm}(hc:h.at s.id=some c):
  ∃ma mu,Qh w b #[.map (some ma),.map (some mu)] 114/\∀w3,Qc Qb w w3->
   ∃q,(Instr.mapUpdate 111 (.map (some ma)) (ZI s.id) (.agg (P0 ⟨c.sp.aK s,c.d⟩))).run prog w3=.ok () q/\Q9 q (Qn F w q) b (h.change s)/\Qc F w q:=by
 obtain⟨ma,mu,l,vs,G,hp,hn,U,V,E,fb,fm,fG,ae,ab,af,ac,K⟩:=hh.opn;refine⟨ma,mu,U,λw3 u=>?_⟩;obtain⟨q,r4,B,z⟩:=X6 (P:=prog) (V.aB u (λh=>h)) underlying111 underlying3 s.id (.agg (P0 ⟨c.sp.aK s,c.d⟩));refine⟨q,r4,?_⟩;obtain⟨aa,I⟩:=Qm.aE hc;have Z:=((E.aB u (Jl.none G)).aB z (λk d e=>ab (e▸d))).same (h':=h.change s) (λi=>by
  unfold Qm.change;rw[if_pos h0];exact Ik h s i)
 have cA:Qc (λk=>k=ma\/G k) w q:=u.none.aA (z.mono λk d=>.inl (.inl d));have J:c∈l:=hp.mem_iff.2 aa;have R:Bd G w:=E.bd;refine K q (l.map λx=>if x.sp.id=s.id then⟨x.sp.aK s,x.d⟩else x) vs _ ?_ ?_ ((Y7.good mu vs _).more Z (λk d=>.inl d) (λk d=>d.elim (λd=>Nat.lt_of_lt_of_le (R k d) cA.size) (λd=>d.2))) cA;·unfold Qm.change;rw[if_pos h0];exact hp.map _
 .have e1:s.id=(⟨c.sp.aK s,c.d⟩:Vm).sp.id:=I.symm;have e2:=Qp9 (c:=⟨c.sp.aK s,c.d⟩) s.id hn ⟨c,J,rfl⟩;rw[<-e1]at e2;rw[e2]at B;have e3:(l.map λx=>if x.sp.id=s.id then(⟨c.sp.aK s,c.d⟩:Vm)else x)=l.map λx=>if x.sp.id=s.id then⟨x.sp.aK s,x.d⟩else x:=by
   refine List.map_congr_left λx hx=>?_;split
   .rename_i e;have:x=c:=by have h1:=Ls (key:=Vm.id) hn hx e;have h2:=Ls (key:=Vm.id) hn J I;exact Zs (h1.symm.trans h2)
    rw[this]
   .rfl
  rw[<-e3];exact B
end
end Go.Proofs.YtigcnnkagkbflaaGreat
