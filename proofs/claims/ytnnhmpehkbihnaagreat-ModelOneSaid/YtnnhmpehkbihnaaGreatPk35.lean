/- A part of the proof: no condition. -/
import Derived.Test.YtnnhmpehkbihnaaGreatPk31
import Derived.Lib.AppendZerosOnto
import Derived.Lib.Overlaps
import Derived.Test.YtnnhmpehkbihnaaGreatPk34
namespace Go.Proofs.YtnnhmpehkbihnaaGreat
set_option linter.unusedVariables false
set_option maxRecDepth 100000
set_option maxHeartbeats 4000000
open Go.RowKit
open Go.Proofs.Tryz
section
variable{w w':World}{F:Fp}{b:Nat}{h:Qm}
theorem Q9.opn(hh:Q9 w F b h):∃ma mu l vs G,l.Perm h∧(l.map Vm.id).Nodup∧Qh w b #[.map (some ma),.map (some mu)] 92∧Xq w ma (Us l)∧Y7 w G mu vs h∧F b∧F ma∧(∀k,G k→F k)∧¬G b∧¬G ma∧b≠ma∧Bd F w∧
  ∀w' l' u h',l'.Perm h'→Xq w' ma (Us l')→Y7 w' (Qn G w w') mu u h'→Qc (fun k=>k=ma∨G k) w w'→Q9 w' (Qn F w w') b h'∧Qc F w w':=by
 obtain⟨ma,mu,l,vs,hp,U,G0,R0,B,⟨ab,G1,R1,E,⟨ac,z,R2,g2,_,_,s4,_⟩,d1,s2,s3⟩,d0,s0,s1⟩:=hh;have nb:b≠ma:=fun e=>d0 b B.2.1 (e▸s2 _ E.2.1);have Z:∀k,z k→F k:=fun k c=>s1 _ (s3 _ (s4 _ c));have nG:¬z b:=fun c=>d0 b B.2.1 (s3 _ (s4 _ c));have nA:¬z ma:=fun c=>d1 ma E.2.1 (s4 _ c);have fb:=s0 _ B.2.1;have R:=s1 _ (s2 _ E.2.1);refine⟨ma,mu,l,vs,z,hp,by have:=E.1.nodup;rwa[Ma]at this,B.1,E.1,g2,fb,R,Z,nG,nA,nb,U,fun w' l' u h' aa d q J=>?_⟩;have K:Qc F w w':=J.sub fun k c=>c.elim (fun e=>e▸R) (Z k);have ae:=U _ fb;have af:=U _ R;have V:Bd (Qn F w w') w':=U.ext K;have I:Qh w' b #[.map (some ma),.map (some mu)] 92:=J.blk B.1 (fun c=>c.elim nb nG);refine⟨⟨ma,mu,l',u,aa,?_⟩,K⟩;refine Q7 (G:=fun k=>k=b) (H:=fun k=>k=ma∨Qn z w w' k) ⟨I,rfl,fun k e=>e▸I.lt⟩ ?_ ?_ (fun k e=>.inl (e▸fb)) ?_ V
 ·refine Q7 (G:=fun k=>k=ma) (H:=Qn z w w') ⟨d,rfl,fun k e=>e▸d.lt⟩ (Y6 q q.bd) ?_ (fun k e=>.inl e) (fun k c=>.inr c) ?_
  ·rintro k rfl c;rcases c with c|c;·exact nA c
   ·omega
  ·rintro k(e|c);·exact e▸d.lt
   ·exact q.bd k c
 ·rintro k rfl(e|c|c);·exact nb e
  ·exact nG c
  ·omega
 ·rintro k(e|c);·exact .inl (e▸R)
  ·exact Qn.mono Z k c
end
section
variable{w:World}{v:Value}{l:List Int}
theorem Wo(l:List Int):Jm W7 l=l.map fun x=>Value.int .i64 x:=by
 induction l with
 |nil=>rfl
 |cons x l c=> rw[V8,c];rfl
theorem Q6.opn(h:Q6 w v l)(hl:l≠[]):∃g cap c,v=.slice (some ⟨g,0,none⟩) l.length cap∧Qh w g c 3∧c.size=cap∧(∀(k:Nat)(y:Int),l[k]? =some y→c[k]? =some (.int .i64 y))∧l.length≤cap∧cap≤maxLen:=by
 obtain⟨h0,h1|⟨g,cap,c,rfl,I,z,hn,q,E,d⟩⟩:=h;·exact absurd (List.eq_nil_of_length_eq_zero h1.2) hl
 ·refine⟨g,cap,c,rfl,z,by omega,fun k y u=>?_,hn,q⟩;have B:k<l.length:=(Z1.1 u).1;have e:(c.toList.take (l.length*1))[k]? =(l.map fun x=>Value.int .i64 x)[k]? :=by rw[d,Wo]
  rw[List.getElem?_take_of_lt (by omega),List.getElem?_map,u]at e;simpa using e
end
section
attribute [local go_sem] Qp
attribute [local irreducible] Kl J9 Xo
def Ak(S:Fp)(w:World)(g:FuncId)(c:Array Value)(T:Int→Bool):Prop:=
 ∀w',Qc S w w'→∀y,Cl g (#[.int .i64 y]++c) w' fun e d=>e=.returned (.bool (T y))∧Qc Qb w' d
theorem F0{w}{v:Value}{l:List Int}(h:Q6 w v l)(hl:l.length<1099511627776)(g:FuncId)(E:Array Value)(eg:∀B w,(callFunc g B).run prog w=.ok (.enter g B) w)(T:Int→Bool)
  (hT:Ak Qb w g E T):
  Cl 112 #[v,.func (.func g) #[] E] w fun e w'=>∃i,e=.returned (.int .i64 i)∧Qc Qb w w'∧Ev T l i:=by
 have HT:=O hT;obtain⟨n,hn⟩:=Zx (l.length);have U:=O hn;obtain⟨a,cap,hv,u,d⟩:∃a cap,v=.slice a n cap∧(∀w',Qc Qb w w'→∀(k:Nat)(y:Int),l[k]? =some y→∃g,a=some ⟨g,0,none⟩∧w'.cell? ⟨g,k,none⟩=some (.int .i64 y))∧n≤cap:=by
  by_cases h0:l=[];·subst h0;obtain⟨a,cap,hv,d,_⟩:=h.row intT.hc;exact⟨a,cap,by rw[hv,hn],fun w' _ k y e=>(by cases e),by rw[hn];exact d⟩
  ·obtain⟨g,cap,ae,hv,hB,ai,aa,d,_⟩:=h.opn h0;exact⟨_,cap,by rw[hv,hn],fun w' c k y e=>⟨g,rfl,by rw[(c.blk hB (fun h=>h)).cell];exact aa k y e⟩,by rw[hn];exact d⟩
 subst hv;have R:=O u;have ah:n<1099511627776:=by omega
 clear h hn u hl hT;go_enter func112,ntmps112;go_wp2_with fail;go_loopw [8] (fun ix wr=>∃i:Nat,ix=.int .i64 i∧Qc Qb w wr∧i≤n∧∀(k:Nat)(z:Int),k<i→l[k]? =some z→T z=false) (fun ix _=>n-(intOf ix).toNat);case atStart=>exact⟨0,rfl,Zg _ _,Nat.zero_le _,fun k z hk=>absurd hk (by omega)⟩
 case round=>
  obtain⟨i,rfl,hc,ag,I⟩:=hrel;have HB:=O I;have q:=O hc;clear I hc;by_cases af:i<n
  ·have hd:decide ((i:Int)<(n:Int))=true:=by simp;omega
   have ab:i<l.length:=by have:=U.o;omega
   obtain⟨y,hy⟩:∃y,l[i]? =some y:=⟨_,List.getElem?_eq_getElem ab⟩;obtain⟨g,rfl,Z⟩:=R.o wr q.o i y hy;have HY:=O hy;have HC:=O (HT.o wr q.o y);clear hy ab;cases K:T y with
   |true=> rw[K]at HC;have J:=O K;clear K;go_wp2_with fail;refine Zy HC ?_;intro w1 V;have C1:=O (q.o.aA V);clear V Z;go_wp2;go_ret;exact⟨_,rfl,C1.o,.some i y HY.o J.o HB.o⟩
   |false=>
    rw[K]at HC;have J:=O K;have ew:IntKind.i64.wrap ((i:Int)+1)=(i:Int)+1:=by rw[IntWalk.i64_in _ (by omega)]
    clear K;go_wp2_with fail;refine Zy HC ?_;intro w1 V;have C1:=O (q.o.aA V);clear V Z;go_wp2;go_roundw;case measure=>simp only[intOf];omega
    case rel=>exact⟨i+1,by rw[←Int.natCast_one,←Int.natCast_add],C1.o,by omega,fun k z hk hz=>by
     rcases Nat.lt_or_ge k i with h1|h1;·exact HB.o k z h1 hz
     ·have:k=i:=by omega
      subst this;rw[HY.o]at hz;rw[←Zs hz];exact J.o⟩
  ·have hd:decide ((i:Int)<(n:Int))=false:=by simp;omega
   have ac:Hi (Ev T l (-1)):=O (.none fun y k hk=>HB.o y k (by have:=U.o;have:=(Z1.1 hk).1;omega) hk);go_wp2;go_ret;exact⟨_,rfl,q.o,ac.o⟩
theorem Qoh{T:Int→Bool}{l:List Int}{i:Int}(h:Ev T l i):decide (0≤i)=l.any T:=by
 cases h with
 |none h=> rw[show decide ((0:Int)≤-1)=false from rfl];symm;rw[List.any_eq_false];intro x q;obtain⟨k,d,rfl⟩:=List.getElem_of_mem q;rw[h k _ (List.getElem?_eq_getElem d)];exact Bool.false_ne_true
 |some i y h1 c _=> have:l.any T=true:=List.any_eq_true.2 ⟨y,List.mem_of_getElem? h1,c⟩;rw[this];simp
theorem Qew{w}{v:Value}{l:List Int}(h:Q6 w v l)(hl:l.length<1099511627776)(g:FuncId)(c:Array Value)(B:∀d w,(callFunc g d).run prog w=.ok (.enter g d) w)(T:Int→Bool)
  (q:Ak Qb w g c T):
  Cl 118 #[v,.func (.func g) #[] c] w fun e w'=>e=.returned (.bool (l.any T))∧Qc Qb w w':=by
 have z:=O (F0 h hl g c B T q);clear h hl q;go_enter func118,ntmps118;go_wp2_with fail;refine Zo z ?_;rintro e w1⟨i,rfl,k,hf⟩;have E:=O (Qoh hf);have u:=O k;clear hf k;go_wp2;go_ret;rw[←E.o];exact⟨rfl,u.o⟩
theorem Vo.aB{w0 wr w1}{g cap i j:Nat}{l:List Int}{T:Int→Bool}(h:Vo w0 g cap l T i j wr)(c:Qc Qb wr w1):Vo w0 g cap l T i j w1:=by obtain⟨d,h1,q⟩:=h.ex;exact⟨h.chg.trans c (fun k u=>u.elim),⟨d,c.blk h1 (fun h=>h),q⟩,h.len,h.lt⟩
theorem Ez{w}{v:Value}{l:List Int}(h:Q6 w v l)(hl:l.length<1099511627776)
  (gf:FuncId)(d:Array Value)(eg:∀K w,(callFunc gf K).run prog w=.ok (.enter gf K) w)(T:Int→Bool)
  (hT:Ak (fun k=>v.ownBlock=some k) w gf d T):
  Cl 53 #[v,.func (.func gf) #[] d] w fun e w'=>∃v',e=.returned v'∧Q6 w' v' (l.filter fun y=>!T y)∧(∀k,v'.ownBlock=some k→v.ownBlock=some k)∧Qc (fun k=>v.ownBlock=some k) w w':=by
 have HT:=O hT;have ab:=O (F0 h hl gf d eg T (fun w' c=>hT w' (c.mono fun k h=>h.elim)));have HI:=O h;obtain⟨n,hn⟩:=Zx (l.length);have I:=O hn;obtain⟨a,cap,hv,ac,_⟩:=h.row intT.hc;have an:v=.slice a n cap:=by rw[hv,hn]
 clear hv;subst an;have a3:n<1099511627776:=by omega
 have V:n≤cap:=by omega
 have ar:=O (show∀(g:Nat)(b m:Nat),a=some ⟨g,0,none⟩→(Value.slice a m b).ownBlock=some g from fun g b m e=>by rw[e];rfl);clear hT h hn ac;go_enter func53,ntmps53;go_wp2_with fail;refine Zo ab ?_;rintro e w1⟨ix,rfl,c1,hf⟩;have C1:=O c1;clear c1;cases hf with
 |none ai=>
  have q:=O (show l.filter (fun y=>!T y)=l from List.filter_eq_self.2 fun z hz=>by
   obtain⟨k,hk,rfl⟩:=List.getElem_of_mem hz;rw[ai k _ (List.getElem?_eq_getElem hk)];rfl)
  clear ai;go_wp2;go_ret;exact⟨_,rfl,by rw[q.o];exact HI.o.aB C1.o (fun k _ h=>h),fun k h=>h,C1.o.mono fun k h=>h.elim⟩
 |some i y hy h1 h2=>
  have az:i<n:=by have:=I.o;have:=(Z1.1 hy).1;omega
  have ah:l≠[]:=fun e=>by subst e;cases hy
  obtain⟨g,ap,au,am,hB,aj,R,Z,hm⟩:=HI.o.opn ah;injection am with e1 e2 e3;subst e1;subst e3;have HM:=O hm;have ST:=O (Vo.start (C1.o.blk hB (fun h=>h)) aj R hy h1 h2);have TT:Hi (∀w',Qc (fun k=>k=g) w1 w'→∀y,Cl gf (#[.int .i64 y]++d) w' fun e ao=>e=.returned (.bool (T y))∧Qc Qb w' ao):=O (fun w' c=>HT.o w' ((C1.o.mono fun k h=>h.elim).aA (c.sub fun k e=>by subst e;rfl)));have e1:((i:Int)== -1)=false:=by simp
  have av:decide ((i:Int)= -1)=false:=by simp
  have ew:IntKind.i64.wrap ((i:Int)+1)=(i:Int)+1:=by rw[IntWalk.i64_in _ (by omega)]
  clear hy h1 h2 hB aj R Z hm e2 ah HT ab;go_wp2_with fail;go_loopw [5,6] (fun tj ti wr=>∃j i:Nat,tj=.int .i64 j∧ti=.int .i64 i∧i≤n∧j<i∧Vo w1 g cap l T i j wr) (fun _ ti _=>n-(intOf ti).toNat);case atStart=>exact⟨i,i+1,rfl,by rw[←Int.natCast_one,←Int.natCast_add],by omega,by omega,ST.o⟩
  case round=>
   obtain⟨j,k,rfl,rfl,a2,al,hD⟩:=hrel;have J:=O hD;clear hD;by_cases hk:k<n
   ·have hd:decide ((k:Int)<(n:Int))=true:=by simp;omega
    have aa:k<l.length:=by have:=I.o;omega
    obtain⟨z,hz⟩:∃z,l[k]? =some z:=⟨_,List.getElem?_eq_getElem aa⟩;have ae:=J.o.cell hz;have HC:=O (TT.o wr J.o.chg z);have ax:IntKind.i64.wrap ((k:Int)+1)=(k:Int)+1:=by rw[IntWalk.i64_in _ (by omega)]
    have aw:IntKind.i64.wrap ((j:Int)+1)=(j:Int)+1:=by rw[IntWalk.i64_in _ (by omega)]
    cases hb:T z with
    |true=>
     have U:=O (J.o.skip hz hb);rw[hb]at HC;clear hz aa hb;go_wp2_with fail;refine Zy HC ?_;intro w2 c2;have E:=O (U.o.aB c2);clear c2 ae;go_wp2;go_roundw;case measure=>simp only[intOf];omega
     case rel=>exact⟨j,k+1,rfl,by rw[←Int.natCast_one,←Int.natCast_add],by omega,by omega,E.o⟩
    |false=>
     have B:l.length≤cap:=by have:=I.o;omega
     have a1:decide ((j:Int)<(n:Int))=true:=by simp;omega
     rw[hb]at HC;have HZ:=O (Zt hz hb);have ak:=O B;clear hz aa hb B;go_wp2_with fail;refine Zy HC ?_;intro w2 c2;have E:=O (J.o.aB c2);have U:=O (E.o.put ak.o HZ.o.1 HZ.o.2);obtain⟨⟨u,hu⟩,ay⟩:=E.o.old (by omega);clear c2 ae;go_wp2;go_roundw;case measure=>simp only[intOf];omega
     case rel=>exact⟨j+1,k+1,by rw[←Int.natCast_one,←Int.natCast_add],by rw[←Int.natCast_one,←Int.natCast_add],by omega,by omega,U.o⟩
   ·have hd:decide ((k:Int)<(n:Int))=false:=by simp;omega
    have ag:k=n:=by omega
    subst ag;have a0:j<k:=al;have af:=Lib.run_clear_slice (P:=prog) wr 46 3 0 (.int .i64 0) underlying46 Qjq rfl rfl g j (k-j) (cap-j) (by omega)
     (fun x hx=>by obtain⟨u,hu⟩:=J.o.oldA (show j+x<cap by omega);rw[hu];rfl) (fun x hx=>J.o.frozenA (j+x))
    have q:=O (J.o.fin0 I.o V HM.o (List.replicate (k-j) (.int .i64 0)));generalize wr.setCells g j (List.replicate (k-j) (.int .i64 0))=W at af q;have aq:decide ((j:Int)≤(cap:Int))=true:=by simp;omega
    clear TT HI ST J;go_wp2_with fail;go_ret;exact⟨_,rfl,q.o.1,fun k h=>h,(C1.o.mono fun k h=>h.elim).aA (q.o.2.sub fun k e=>by subst e;rfl)⟩
section
variable{w:World}{g:Nat}
theorem Vc{t:TypeId}:∀(vs:List Value)(o:Nat)(w)(cs:Array Value),Qh w g cs t→o+vs.length≤cs.size→
  ∃cs',Qh (w.setCells g o vs) g cs' t∧cs'.size=cs.size∧(∀k,cs'[k]? =if o≤k∧k<o+vs.length then vs[k-o]? else cs[k]?)∧Qc (fun k=>k=g) w (w.setCells g o vs)
 |[],o,w,cs,h,_=>⟨cs,h,rfl,fun k=>by rw[if_neg (by simp)],Zg _ _⟩
 |v::vs,o,w,cs,h,hb=>by
  simp only[Zm]at hb;obtain⟨cs',h1,q,u,z⟩:=Vc vs (o+1) (w.setCell ⟨g,o,none⟩ v) _ (h.set o v) (by simp;omega);refine⟨cs',h1,by rw[q];simp,fun k=>?_,?_⟩
  ·rw[u k];by_cases e:k=o
   ·subst e;rw[if_neg (by omega),if_pos (by simp),Nat.sub_self];have:k<cs.size:=by omega
    simp[this]
   ·by_cases c:o+1≤k∧k<o+1+vs.length;·rw[if_pos c,if_pos (by simp only[Zm];omega),show k-o=(k-(o+1))+1 by omega,Zd]
    ·rw[if_neg c,if_neg (by simp only[Zm];omega),Array.getElem?_setIfInBounds_ne (fun d=>e d.symm)]
  ·have hc:Qc (fun k=>k=g) w (w.setCell ⟨g,o,none⟩ v):=(Zg _ _).setCell _ (.inl rfl);exact hc.aA z
theorem Q6.mk{cap:Nat}{l:List Int}{c:Array Value}(q:Qh w g c 3)(hs:c.size=cap)(hn:l.length≤cap)(u:cap≤maxLen)(hc:∀(k:Nat)(y:Int),l[k]? =some y→c[k]? =some (.int .i64 y)):Q6 w (.slice (some ⟨g,0,none⟩) l.length cap) l:=by
 refine⟨by rw[Wo];simp,.inr ⟨g,cap,c,rfl,Nat.zero_le _,q,hn,u,by omega,?_⟩⟩;rw[Wo];apply List.ext_getElem?;intro k;rw[List.getElem?_take,List.getElem?_map];by_cases d:k<l.length;·rw[if_pos (by omega),List.getElem?_eq_getElem d];have:=hc k _ (List.getElem?_eq_getElem d);simpa using this
 ·rw[if_neg (by omega),List.getElem?_eq_none (by omega)];rfl
theorem Qm9(l:List Int)(x:Int){i:Nat}(hi:i≤l.length)(k:Nat):(l.take i++x::l.drop i)[k]? =if k<i then l[k]? else if k=i then some x else l[k-1]? :=by
 have hl:(l.take i).length=i:=by rw[List.length_take];omega
 by_cases h1:k<i;·rw[if_pos h1,List.getElem?_append_left (by omega),List.getElem?_take,if_pos h1]
 ·rw[if_neg h1,List.getElem?_append_right (by omega),hl];by_cases c:k=i;·rw[if_pos c,c,Nat.sub_self];rfl
  ·rw[if_neg c,show k-i=(k-i-1)+1 by omega,Zd,List.getElem?_drop,show i+(k-i-1)=k-1 by omega]
theorem Qou{cap i:Nat}{l:List Int}{c:Array Value}(x:Int)(hi:i<l.length)(I:Qh w g c 3)(hs:c.size=cap)(hn:l.length+1≤cap)(J:cap≤maxLen)(hc:∀(k:Nat)(y:Int),l[k]? =some y→c[k]? =some (.int .i64 y)):
  Q6 ((w.setCells g (i+1) ((l.drop i).map fun y=>.int .i64 y)).setCells g i [.int .i64 x]) (.slice (some ⟨g,0,none⟩) (l.length+1) cap) (l.take i++x::l.drop i)∧Qc (fun k=>k=g) w ((w.setCells g (i+1) ((l.drop i).map fun y=>.int .i64 y)).setCells g i [.int .i64 x]):=by
 obtain⟨B,b1,s1,k1,h1⟩:=Vc ((l.drop i).map fun y=>Value.int .i64 y) (i+1) w c I (by simp;omega);obtain⟨K,b2,s2,k2,E⟩:=Vc [Value.int .i64 x] i _ B b1 (by simp;omega);have q:(l.take i++x::l.drop i).length=l.length+1:=by simp;omega
 have:=Q6.mk (l:=l.take i++x::l.drop i) b2 (cap:=cap) (by omega) (by omega) J (fun k y d=>by
  rw[Qm9 l x (by omega)]at d;rw[k2];simp only[Zm,List.length_nil,List.length_map,List.length_drop]at k1⊢;by_cases u:k=i;·rw[if_neg (by omega),if_pos u]at d;obtain rfl:=Zs d;rw[if_pos (by omega),u,Nat.sub_self];rfl
  ·rw[if_neg (by omega),k1];by_cases z:k<i;·rw[if_pos z]at d;rw[if_neg (by omega)];exact hc k y d
   ·rw[if_neg z,if_neg u]at d;have:=(Z1.1 d).1;rw[if_pos (by omega),List.getElem?_map,List.getElem?_drop,show i+(k-(i+1))=k-1 by omega,d];rfl)
 rw[q]at this;exact⟨this,h1.aA E⟩
theorem Qtr{cap i r:Nat}{l:List Int}{c:Array Value}(x:Int)(hi:i<l.length)(I:Qh w r c 3)(hs:c.size=cap)(hn:l.length+1≤cap)(J:cap≤maxLen)(hc:∀(k:Nat)(y:Int),k<i→l[k]? =some y→c[k]? =some (.int .i64 y)):
  Q6 ((w.setCells r i [.int .i64 x]).setCells r (i+1) ((l.drop i).map fun y=>.int .i64 y)) (.slice (some ⟨r,0,none⟩) (l.length+1) cap) (l.take i++x::l.drop i)∧Qc (fun k=>k=r) w ((w.setCells r i [.int .i64 x]).setCells r (i+1) ((l.drop i).map fun y=>.int .i64 y)):=by
 obtain⟨B,b1,s1,k1,h1⟩:=Vc [Value.int .i64 x] i w c I (by simp;omega);obtain⟨K,b2,s2,k2,E⟩:=Vc ((l.drop i).map fun y=>Value.int .i64 y) (i+1) _ B b1 (by simp;omega);have q:(l.take i++x::l.drop i).length=l.length+1:=by simp;omega
 have:=Q6.mk (l:=l.take i++x::l.drop i) b2 (cap:=cap) (by omega) (by omega) J (fun k y d=>by
  rw[Qm9 l x (by omega)]at d;rw[k2];simp only[Zm,List.length_nil,List.length_map,List.length_drop]at k1⊢;by_cases z:k<i;·rw[if_pos z]at d;rw[if_neg (by omega),k1,if_neg (by omega)];exact hc k y z d
  ·rw[if_neg z]at d;by_cases u:k=i;·rw[if_pos u]at d;obtain rfl:=Zs d;rw[if_neg (by omega),k1,if_pos (by omega),u,Nat.sub_self];rfl
   ·rw[if_neg u]at d;have:=(Z1.1 d).1;rw[if_pos (by omega),List.getElem?_map,List.getElem?_drop,show i+(k-(i+1))=k-1 by omega,d];rfl)
 rw[q]at this;exact⟨this,h1.aA E⟩
end
section
variable{w:World}{g:Nat}
theorem Qt6{cap:Nat}{d:List Int}{q:Array Value}{t:TypeId}(B:Qh w g q t)(hs:q.size=cap)(J:d.length≤cap)(n:Nat)(os:Array Obj):
  ∃c,Qh (Sort.grow (Sort.putRow (Value.int .i64) (Sort.ahead w n) g 0 d.toArray) os) g c t∧c.size=cap∧(∀(k:Nat)(y:Int),d[k]? =some y→c[k]? =some (.int .i64 y))∧Qc (fun k=>k=g) w (Sort.grow (Sort.putRow (Value.int .i64) (Sort.ahead w n) g 0 d.toArray) os):=by
 have Xg:=B.lt;have I:∀k,k<w.heap.size→(Sort.grow (Sort.putRow (Value.int .i64) (Sort.ahead w n) g 0 d.toArray) os).heap[k]? =if g=k then(w.heap[k]?).map (Sort.onCells (Sort.putCells (Value.int .i64) 0 d.toArray))else w.heap[k]? :=fun k u=>by show(w.heap.modify g _++os)[k]? =_;rw[Array.getElem?_append_left (by simpa using u),Array.getElem?_modify]
 refine⟨Sort.putCells (Value.int .i64) 0 d.toArray q,?_,?_,fun k y u=>?_,rfl,rfl,rfl,?_,fun k u E=>?_⟩;·unfold Qh at B⊢;rw[I g Xg,if_pos rfl,B];rfl
 ·unfold Sort.putCells;simpa using hs
 ·have z:k<d.length:=(Z1.1 u).1;unfold Sort.putCells;rw[Array.getElem?_mapIdx,Array.getElem?_eq_getElem (by omega)];simp only[Zn];rw[if_pos ⟨by omega,by simpa using z⟩];simp only[Nat.sub_zero];have:d.toArray[k]! =y:=by rw[getElem!_pos _ k (by simpa using z)];have:=(Z1.1 u).2;simpa using this
  rw[this]
 ·show w.heap.size≤(w.heap.modify g _++os).size;simp
 ·rw[I k u,if_neg (fun e=>E e.symm)]
theorem N7{v:Value}{l:List Int}(u:Q6 w v l)(hl:l.length<4611686018427387904):
  Cl 36 #[v] w fun e w'=>e=.returned (.tuple #[])∧Q6 w' v (l.mergeSort fun x y=>decide (x≤y))∧Qc (fun k=>v.ownBlock=some k) w w':=by
 by_cases h0:l=[]
 ·subst h0;obtain⟨a,cap,rfl,_⟩:=u.row intT.hc;refine Zz (Tryz.slices_Sort_int_none a cap w) ?_;rintro w' rfl;refine⟨rfl,?_,Zg _ _⟩;have:([]:List Int).mergeSort (fun x y=>decide (x≤y))=[]:=by simp
  rw[this];exact u
 ·obtain⟨g,cap,K,rfl,q,hs,hc,hn,U⟩:=u.opn h0;have R:Sort.Holds (Value.int .i64) w g 0 l.toArray:=fun j E=>by
   have z:j<l.length:=by simpa using E
   refine⟨?_,q.frozen _⟩;rw[Nat.zero_add,q.cell,hc j _ (List.getElem?_eq_getElem z)];congr 2;rw[getElem!_pos _ j E];simp
  refine Zz (Tryz.slices_Sort_int g 0 cap l w R q.lt hl) ?_;rintro w'⟨n,os,rfl⟩;have c:(l.mergeSort fun x y=>decide (x≤y)).length=l.length:=List.length_mergeSort _;obtain⟨B,b1,b2,I,J⟩:=Qt6 (d:=l.mergeSort fun x y=>decide (x≤y)) q hs (by omega) n os;refine⟨rfl,?_,J.mono fun k e=>.inl (by rw[e];rfl)⟩;have:=Q6.mk b1 b2 (by omega) U I;rw[c]at this;exact this
end
section
variable{w:World}{F:Fp}{b:Nat}{h:Qm}
theorem Y7.later{w0 w1}{G:Fp}{m:Nat}{vs:List (Int×Value)}(d:Y7 w1 (Qn G w0 w1) m vs h){w:World}(hs:w.heap.size≤w0.heap.size)(q:Bd (Qn G w w1) w1):Y7 w1 (Qn G w w1) m vs h:=
 (Y7.good m vs h).more d (fun k c=>c.elim .inl fun c=>.inr ⟨by omega,c.2⟩) q
theorem Qkl(hh:Q9 w F b h){id:Int}{c:Vm}(ha:h.at id=some c)(hu:h.aM id=[])(ai:(h.aM c.sp.par).length<1099511627776):
  Cl 110 #[ptr b,.int .i64 id] w fun e w'=>e=.returned (.int .i64 0)∧Q9 w' (Qn F w w') b (h.drop id)∧Qc F w w':=by
 have a3:=O (fun w'(c:Qc Qb w w')=>Q9.obj.aB hh c (Jl.none F));obtain⟨W,hW⟩:=Zx (w.alloc (.cells #[.int .i64 id] 3));have CW:Qc Qb w W:=by rw[hW];exact(Zg _ _).alloc _
 have hN:=O (Gz (a3.o W CW));have BX:=O (show Qh W w.heap.size #[.int .i64 id] 3 by rw[hW];exact Qh.new _ _ _);obtain⟨ma,mu,l,vs,G,hp,hn,an,ac,J,fb,fm,fG,ax,K,bg,a7,a4⟩:=hh.opn;obtain⟨ba,a9⟩:=Qm.aE ha;have ar:h.aM c.sp.par≠[]:=fun e=>by have:id∈h.aM c.sp.par:=Z3.2 ⟨c,List.mem_filter.2 ⟨ba,by simp⟩,a9⟩;rw[e]at this;cases this
 have b6:c.sp.par≠id:=fun e=>ar (by rw[e];exact hu);have b7:=O (show w.heap.size<W.heap.size from BX.o.lt);have I:Hi (∀w2,Qc Qb w w2→(∃a cap,(Instr.lookup 90 (.map (some mu)) (.int .i64 id) false).run prog w2=.ok (.slice a 0 cap) w2)∧
   ∃w3,(Builtin.delete_ #[89,3] 0 #[.map (some ma),.int .i64 id]).run prog w2.drew=.ok (.tuple #[]) w3∧Qc (fun k=>k=ma) w2 w3∧
   ∃w4,(Builtin.delete_ #[90,3] 0 #[.map (some mu),.int .i64 id]).run prog w3.drew=.ok (.tuple #[]) w4∧Qc (fun k=>k=ma∨k=mu) w2 w4∧
   ∃g cap,(g<w.heap.size∧g≠b∧g≠mu)∧(Instr.lookup 90 (.map (some mu)) (.int .i64 c.sp.par) false).run prog w4.drew=.ok (.slice (some ⟨g,0,none⟩) (h.aM c.sp.par).length cap) w4.drew∧
   (∀gf q,(∀af w,(callFunc gf af).run prog w=.ok (.enter gf af) w)→(∀w',Qc (fun k=>k=g) w4.drew w'→∀y,Cl gf (#[.int .i64 y]++q) w' fun e b4=>e=.returned (.bool (decide (y=id)))∧w'=b4)→
    Cl 53 #[.slice (some ⟨g,0,none⟩) (h.aM c.sp.par).length cap,.func (.func gf) #[] q] w4.drew fun e w5=>∃n,e=.returned (.slice (some ⟨g,0,none⟩) n cap)∧Qc (fun k=>k=g) w4.drew w5∧
     ∃w6,(Instr.mapUpdate 90 (.map (some mu)) (.int .i64 c.sp.par) (.slice (some ⟨g,0,none⟩) n cap)).run prog w5=.ok () w6∧Q9 w6 (Qn F w w6) b (h.drop id)∧Qc F w w6)):=O (by
  intro w2 aa;have ap:=J.aB aa (Jl.none G);have aq:=ap.at_;refine⟨?_,?_⟩;·obtain⟨v,hr,hI,_⟩:=ap.look id;rw[hu]at hI;obtain⟨a,cap,rfl,_⟩:=hI.row intT.hc;exact⟨a,cap,hr⟩
  ·obtain⟨w3,r3,bt,c3⟩:=Di (P:=prog) ((ac.aB aa (fun h=>h)).aB (Zg Qb w2).drew (fun h=>h)) underlying89 underlying3 3 0 id;have aj:Qc (fun k=>k=ma) w2 w3:=c3.undrew;refine⟨w3,r3,aj,?_⟩;have a6:=ap.aB aj (fun k d e=>K (e▸d));obtain⟨w4,r4,bu,c4⟩:=Di (P:=prog) (a6.map.aB (Zg Qb w3).drew (fun h=>h)) underlying90 underlying3 3 0 id;have al:Qc (fun k=>k=mu) w3 w4:=c4.undrew;have bz:=a6.del id hu bu al;have ak:Qc (fun k=>k=ma∨k=mu) w2 w4:=(aj.mono fun k d=>.inl (.inl d)).trans al fun k d=>.inl (.inr d);refine⟨w4,r4,ak,?_⟩;have z:=bz.aB (Zg Qb w4).drew (Jl.none G);obtain⟨v,hr,hI,B⟩:=z.look c.sp.par;obtain⟨g,cap,b8,rfl,bq,b3,bb,a8,bf⟩:=hI.opn ar;have aw:(c.sp.par,Value.slice (some ⟨g,0,none⟩) (h.aM c.sp.par).length cap)∈Vu id vs:=B.resolve_left fun e=>by cases e.1
   obtain⟨gG,gm⟩:=z.own _ aw g rfl;refine⟨g,cap,⟨a7 g (fG g gG),fun e=>ax (e▸gG),gm⟩,hr,fun gf q eg hT=>?_⟩;refine(Qex bq b3 bb a8 bf hI ai gf q eg (fun y=>decide (y=id)) hT).mono ?_;rintro e w5⟨n,rfl,br,ab⟩;refine⟨n,rfl,ab,?_⟩;have bv:=z.map.aB ab (fun e=>gm e.symm);obtain⟨w6,r6,bw,am⟩:=X6 (P:=prog) bv underlying90 underlying3 c.sp.par (.slice (some ⟨g,0,none⟩) n cap);refine⟨w6,r6,?_⟩;have hd:=Qm.drop_eq ha hu;have av:(h.drop id).aM c.sp.par=(h.aM c.sp.par).filter fun y=>!decide (y=id):=by rw[hd];exact Ph h id _
   have au:∀k,k≠c.sp.par→(h.drop id).aM k=h.aM k:=fun k d=>by rw[hd];exact Ij ((hp.map _).nodup_iff.1 hn) ha d
   have bs:Q6 w6 (.slice (some ⟨g,0,none⟩) n cap) ((h.drop id).aM c.sp.par):=by rw[av];refine br.aB am fun k d e=>?_;have:g=k:=Zs d;exact gm (this.trans e)
   have bo:Qc (fun k=>k=mu∨k=g) w4.drew w6:=(ab.mono fun k d=>.inl (.inr d)).trans am fun k d=>.inl (.inl d);obtain⟨b0,bp⟩:=z.put au bs (fun k d=>.inl ⟨_,aw,d⟩) bw bo (fun k d=>d.elim .inl fun e=>.inr ⟨_,aw,by rw[e];rfl⟩);have cA:Qc (fun k=>k=ma∨G k) w w6:=by refine(aa.none.aA (ak.mono fun k d=>.inl (d.elim .inl fun e=>.inr (e▸aq)))).aA ?_;exact bp.undrew.sub fun k d=>.inr d
   have bm:Bd G w:=J.bd;refine a4 w6 (l.filter fun x=>!decide (x.sp.id=id)) _ _ (by rw[hd];exact hp.filter _) ?_ ((b0.later (w:=w) (Zp aa.size ak.size) ?_)) cA;·rw[←Qj7];exact(((bt.aB al (fun e=>K (e▸aq))).aB (Zg Qb w4).drew (fun h=>h)).aB ab (fun e=>K (e▸gG))).aB am (fun e=>K (e▸aq))
   ·exact fun k d=>d.elim (fun d=>Nat.lt_of_lt_of_le (bm k d) cA.size) (fun d=>d.2))
 have LK:=O (fun(w')(cc:Qc Qb w w')=>show(Instr.lookup 89 (.map (some ma)) (.int .i64 id) true).run prog w'=.ok (.tuple #[.agg (P0 c),.bool true]) w' by
  have hL:=Dj (P:=prog) (ac.aB cc (fun h=>h)) underlying89 underlying3 (Sf w') id;rw[Ed id l hn,←Qm.at_perm hp hn,ha]at hL;exact hL)
 have NE:=O (show b≠ma∧b≠mu∧b<w.heap.size∧ma<w.heap.size∧mu<w.heap.size from⟨bg,fun e=>ax (e▸J.at_),an.lt,ac.lt,J.map.lt⟩);have a1:=O an;have Z:=O CW;clear hh an CW ac J hp hn ha hu a4 fb fm fG ax K bg a7 ar ba a9 ai;unfold ptr at*;go_enter func110,ntmps110;go_wp2_with fail;rw[←hW];clear hW;refine Zz hN.o ?_;rintro w1 rfl;go_wp2_with fail;refine Jp [(1,0),(1,1),(1,2),(1,3),(1,4),(1,5),(1,6),(1,7),(1,8),(2,9),(2,10),(3,11)] (fun R=>Qc (Qb) (W) R) Zq (by kernel_rfl) (fun _ _ _ _ _ h=>h) (by(repeat' (first|(with_reducible first|exact Zg _ _|assumption|refine Zh ?_ _|refine Zi ?_ _|refine Zj ?_|refine Zk ?_ _ ?_|(apply Or.inl;rfl))|(apply Or.inl;simp;done)|(apply Or.inr;simp;first|done|omega)))) ?_;simp only[Jk,Zf,Ze,Zd];iterate 3 (refine Qy (by kernel_rfl) (fun R B=>by go_simp;try rfl) ?_;try simp only[Act.put,Za,Zc,Zb])
 iterate 3 (refine Qy (by kernel_rfl) (fun R B=>by(have zz:=B.blk (Z.o.blk a1.o (fun h=>h)) (fun h=>h);have yy:=B.blk BX.o (fun h=>h);obtain⟨z0,z1⟩:=Q4 zz;have y0:=Jf yy;have lk:=LK.o R (Z.o.aA B));go_simp;try rfl) ?_;try simp only[Act.put,Za,Zc,Zb])
 iterate 3 (refine Qy (by kernel_rfl) (fun R B=>by go_simp;try rfl) ?_;try simp only[Act.put,Za,Zc,Zb])
 refine Yb ?_;go_wp2_with fail;refine⟨((Zg Qb W).alloc _).drew,?_⟩;have ao:Qh (W.alloc (.cells Z6 87)).drew W.heap.size Z6 87:=(Qh.new _ _ _).drew;have C1:Qc Qb W (W.alloc (.cells Z6 87)).drew:=((Zg Qb W).alloc _).drew;generalize(W.alloc (.cells Z6 87)).drew=W1 at ao C1⊢;obtain⟨W2,s2,a5,C2⟩:=Q0 (P:=prog) (vs:=P0 c) ao rfl (Sn c);have a0:Qc Qb W W2:=C1.trans C2 (fun k e=>.inr (by omega));have E:=O a0;have bl:=O a5;clear ao C1 a5 C2 a0;refine Yb ?_;go_wp2_with fail;refine⟨E.o,?_⟩;refine Km ?_;go_wp2_with fail;refine Ky ?_;go_wp2_with fail;clear s2;have C2:=O (Z.o.aA E.o);obtain⟨⟨u,b5,b1⟩,w3,r3,c3,w4,r4,c4,g,cap,⟨bc,bd,be⟩,b2,DF⟩:=I.o W2.drew C2.o.drew;have C3:=O c3.undrew;have C4:=O c4.undrew;have a2:=O DF;have HG:=O (Zt bc (Zt bd be));have NB:=NE.o;have ae:=O Z.o.size;have U:=O (C2.o.blk a1.o (fun h=>h));have V:=O (E.o.blk BX.o (fun h=>h));have bh:=O (C3.o.blk U.o (fun e=>NE.o.1 e));have bi:=O (C3.o.blk V.o (fun e=>by have:=NE.o.2.2.2.1;omega));have ay:=O (C4.o.blk U.o (fun e=>e.elim (fun e=>NE.o.1 e) (fun e=>NE.o.2.1 e)));have bj:=O (C4.o.blk V.o (fun e=>by have:=NE.o.2.2.2.1;have:=NE.o.2.2.2.2;rcases e with e|e<;>omega));have az:=O (C4.o.blk bl.o (fun e=>by have:=NE.o.2.2.2.1;have:=NE.o.2.2.2.2;have:=ae.o;rcases e with e|e<;>omega));clear c3 c4 DF bc bd be NB I;obtain⟨z0,z1⟩:=Q4 (U.o.drew);have y0:=Jf (V.o.drew);refine Qj [(0,0),(0,1),(0,2),(0,3),(0,4),(0,5),(0,6),(0,7),(2,8)] Zq (by kernel_rfl) (fun _ _ _ _ _ h=>h) ?_;simp only[Jk,Zf,Ze,Zd];iterate 8 (refine Jq (by kernel_rfl) (by go_simp;try rfl) ?_)
 clear b1 z0 z1 y0;refine J7 ?_;go_wp2_with fail;refine Jo ?_;go_wp2_with fail;obtain⟨z0,z1⟩:=Q4 (U.o.drew.drew);have y0:=Jf (V.o.drew.drew);refine Qj [(0,0),(0,1),(0,2),(0,3),(0,4),(2,5)] Zq (by kernel_rfl) (fun _ _ _ _ _ h=>h) ?_;simp only[Jk,Zf,Ze,Zd];iterate 5 (refine Jq (by kernel_rfl) (by go_simp;try rfl) ?_)
 clear z0 z1 y0;refine J7 ?_;go_wp2_with fail;refine Jo ?_;clear r3;go_wp2_with fail;obtain⟨z0,z1⟩:=Q4 (bh.o.drew);have y0:=Jf (bi.o.drew);refine Qj [(0,0),(0,1),(0,2),(0,3),(0,4),(2,5)] Zq (by kernel_rfl) (fun _ _ _ _ _ h=>h) ?_;simp only[Jk,Zf,Ze,Zd];iterate 5 (refine Jq (by kernel_rfl) (by go_simp;try rfl) ?_)
 clear z0 z1 y0;refine J7 ?_;go_wp2_with fail;refine Jo ?_;clear r4;go_wp2_with fail;obtain⟨z0,z1⟩:=Q4 (ay.o.drew);have y1:=(Dm az.o.drew).2.1;refine Jp [(1,0),(1,1),(1,2),(1,3),(1,4),(1,5),(1,6),(0,7),(0,8),(0,9),(0,10),(0,11),(0,12),(0,13),(0,14),(0,15),(2,16),(3,17)] (fun R=>Qc (fun k=>k=g) (w4) R) Zq (by kernel_rfl) (fun _ _ _ _ _ h=>h) (by(repeat' (first|(with_reducible first|exact Zg _ _|assumption|refine Zh ?_ _|refine Zi ?_ _|refine Zj ?_|refine Zk ?_ _ ?_|(apply Or.inl;rfl))|(apply Or.inl;simp;done)|(apply Or.inr;simp;first|done|omega)))) ?_;simp only[Jk,Zf,Ze,Zd];iterate 3 (refine Qy (by kernel_rfl) (fun R B=>by go_simp;try rfl) ?_;try simp only[Act.put,Za,Zc,Zb])
 iterate 1 (refine Qy (by kernel_rfl) (fun R B=>by(obtain⟨ca,cb⟩:=Q4 (B.blk ay.o (fun e=>HG.o.2.1 e.symm)));go_simp;try rfl) ?_;try simp only[Act.put,Za,Zc,Zb])
 iterate 2 (refine Qy (by kernel_rfl) (fun R B=>by go_simp;try rfl) ?_;try simp only[Act.put,Za,Zc,Zb])
 iterate 1 (refine Qy (by kernel_rfl) (fun R B=>by(have b9:=(Dm (B.blk az.o (fun e=>by have:=HG.o.1;have:=ae.o;omega))).2.1);go_simp;try rfl) ?_;try simp only[Act.put,Za,Zc,Zb])
 iterate 9 (refine Xe (by kernel_rfl) (by go_simp;try rfl) ?_)
 clear b2 z0 z1 y1;refine Yb ?_;go_wp2_with fail;refine(a2.o 174 #[.pointer (some ⟨w.heap.size,0,none⟩)] (enters_of func174 (by kernel_rfl) rfl) (fun w' cc y=>Qn9 w.heap.size id y w' (Jf (cc.blk bj.o.drew (fun e=>by have:=HG.o.1;omega))))).mono ?_;rintro e w5⟨n,rfl,c5,w6,r6,ah,ag⟩;have C5:=O c5.undrew;have bk:=O (Zt ah ag);clear c5 ah ag a2;go_wp2_with fail;refine⟨C5.o,?_⟩;refine Km ?_;go_wp2_with fail;refine Ky ?_;clear r6;go_wp2;go_ret;exact⟨rfl,bk.o⟩
end
theorem Qcw{w}{g:Nat}{cs:Array Value}{t:TypeId}(h:Qh w g cs t):w.shape? g=some (t,cs.size):=by unfold Qh at h;unfold World.shape?;rw[h]
theorem Qsp(w):(sizeOf 3).run prog w=.ok 1 w:=by go_simp
theorem Gg:(prog.info? 3).map (·.size)=some 1:=by kernel_rfl
theorem Wd(b:Nat):∀(vs:List Value)(o:Nat)(w:World),(w.setCells b o vs).drew=w.drew.setCells b o vs
 |[],_,_=>rfl
 |v::vs,o,w=>by show((w.setCell ⟨b,o,none⟩ v).setCells b (o+1) vs).drew=_;rw[Wd b vs];rfl
theorem Qkn{w}{v:Value}{l:List Int}(hI:Q6 w v l)(hl:l.length<1099511627776)(i:Nat)(hi:i≤l.length)(x:Int){vb:Nat}(hV:Qh w vb #[.int .i64 x] 3)(ab:∀k,v.ownBlock=some k→k≠vb):
    Cl 124 #[v,.int .i64 i,.slice (some ⟨vb,0,none⟩) 1 1] w fun e w'=>∃v',e=.returned v'∧Q6 w' v' (l.take i++x::l.drop i)∧Qc (fun k=>v.ownBlock=some k) w w'∧(v'.ownBlock=v.ownBlock∨∃k,v'.ownBlock=some k∧w.heap.size≤k):=by
  have R:=O (show Kb W7 1 w (some ⟨vb,0,none⟩) [x]from fun j c=>by
    obtain rfl:j=0:=by simpa using c
    refine⟨vb,0,rfl,fun k u hu=>?_⟩
    cases k with
    | zero => obtain rfl := Zs hu; exact Jf hV
    | succ k => cases hu)
  by_cases am:i=l.length
  · subst am
    have HI:=O hI
    obtain⟨a,cap,rfl,d,h0,_⟩:=hI.row intT.hc
    obtain⟨n,hn⟩:=Zx (l.length)
    have HN:=O hn
    have HE:=O (show l.take l.length++x::l.drop l.length=l++[x] by rw[List.take_length,List.drop_length])
    rw[←hn]at d hl
    rw[HE.o]
    have HL:=O hl
    rw[←hn]at HI⊢
    have J:Hi (∀v' w',Q6 w' v' (l++[x])→Qc (fun k=>(Value.slice a n cap).ownBlock=some k) w w'→(v'.ownBlock=(Value.slice a n cap).ownBlock∨v'.ownBlock=some w.heap.size)→
        (∃ ah, Ending.returned v' = .returned ah ∧ Q6 w' ah (l ++ [x]) ∧ Qc (fun k => (Value.slice a n cap).ownBlock = some k) w w' ∧ (ah.ownBlock = (Value.slice a n cap).ownBlock ∨ ∃ k, ah.ownBlock = some k ∧ w.heap.size ≤ k))) := O (fun v' w' h1 h2 h3 => ⟨v', rfl, h1, h2, h3.imp id fun h => ⟨_, h, Zv _⟩⟩)
    cases a with
    | none =>
      obtain rfl:=h0 rfl
      have bo:n=0:=by omega
      clear hI ab hn h0 hl hi
      subst bo
      clear d
      go_enter func124,ntmps124
      go_wp2_with (at_builtin;refine Jj intT rfl (.tmp 23) (.tmp 24) rfl _ l rfl HI.o _ _ [x] rfl ?a2 ?a3 ?a4 ?a5 ?a6)
      case a2=>exact nofun
      case a3=>exact R.o
      case a4=>have:=HL.o;have:=HN.o;simp only[maxLen,Zm,List.length_nil];omega
      case a5=>have:=HL.o;have:=HN.o;simp only[Zm,List.length_nil];omega
      case a6=>
        intro v' w' h1 h2 h3
        have FF:=O (J.o v' w' h1 h2 h3)
        clear h1 h2 h3 J
        go_wp2
        go_ret
        exact FF.o
    | some ad =>
      clear hI ab hn h0 hl hi
      have bw:n≤cap:=d
      go_enter func124,ntmps124
      go_wp2_with (at_builtin;refine Jj intT rfl (.tmp 23) (.tmp 24) rfl _ l rfl HI.o _ _ [x] rfl ?a2 ?a3 ?a4 ?a5 ?a6)
      all_goals first
        | exact R.o
        | (have := HL.o; have := HN.o; simp only [maxLen, Zm, List.length_nil]; omega)
        | (intro v' w' h1 h2 h3
           have FF:=O (J.o v' w' h1 h2 h3)
           clear h1 h2 h3 J
           go_wp2
           go_ret
           exact FF.o)
        | (intro h; cases h)
  · have Xg : i < l.length := by omega
    have ac:l≠[]:=fun e=>by rw[e]at Xg;simp at Xg
    obtain⟨g,cap,ap,rfl,hB,ao,E,d,aa⟩:=hI.opn ac
    have ag:g≠vb:=ab g rfl
    obtain⟨n,hn⟩:=Zx (l.length)
    have HN:=O hn
    have ai:=hB.lt
    have ak:=hV.lt
    have Z:((l.drop i).map fun y=>Value.int .i64 y).length=n-i:=by rw[List.length_map,List.length_drop,hn]
    have ae:∀u∈(l.drop i).map fun y=>Value.int .i64 y,u.oneCell'=true:=fun u hu=>by
      obtain⟨y,_,rfl⟩:=Z3.1 hu
      rfl
    have q:∀W:World,(∀k,W.cell? ⟨g,k,none⟩=w.cell? ⟨g,k,none⟩)→∀j u,((l.drop i).map fun y=>Value.int .i64 y)[j]? =some u→W.cell? ⟨g,i+j,none⟩=some u:=fun W hW j u c=>by
      rw[hW,hB.cell]
      rw[List.getElem?_map,List.getElem?_drop]at c
      cases hy:l[i+j]? with
      | none => rw [hy] at c; cases c
      | some y =>
        rw[hy]at c
        obtain rfl:=Zs c
        exact E _ _ hy
    by_cases br:n+1≤cap
    ·
      have J:=O (show∀W,W=w.drew→_ from fun W hW=>Qou (w:=W) x Xg (hW▸hB.drew) ao (by omega) aa E)
      have bq:∀lb cb,(callFunc 185 #[.slice (some ⟨vb,0,none⟩) 1 1,.slice (some ⟨g,i+1,none⟩) lb cb]).run prog w=.ok (.value (.bool false)) w:=fun lb cb=>by
        rw[run_callFunc_extern func185 (by kernel_rfl) (by kernel_rfl) (by kernel_rfl) (e:=Extern.SlicesOverlaps.overlaps #[46,46] #[4]) (by kernel_rfl),
          Lib.run_overlaps_apart w 46 4 3 underlying46 1 Qsp ⟨vb,0,none⟩ ⟨g,i+1,none⟩ 1 1 lb cb (fun e=>ag e.symm) 3 3 1 ap.size (Qcw hV) (Qcw hB) (by omega) (hV.frozen 0) (hV.frozen 1)]
        rfl
      have B:∀ty K sc,(Builtin.copy_ #[46,46] ty #[.slice (some ⟨g,i+1,none⟩) (n-i) K,.slice (some ⟨g,i,none⟩) (n+1-i) sc]).run prog w.drew=.ok (.int .i64 ((n-i:Nat):Int)) (w.drew.setCells g (i+1) ((l.drop i).map fun y=>.int .i64 y)):=fun ty K sc=>by
        have h:=run_copy_cells (P:=prog) w.drew 46 46 ty 3 g (i+1) (n-i) K ⟨g,i,none⟩ (n+1-i) sc ((l.drop i).map fun y=>Value.int .i64 y) underlying46 Gg (by rw[Z];simp only[Nat.min_def];split<;>omega)
          (fun j u c => by rw [Addr.add_lit]; exact q w.drew (fun _ => rfl) j u c) (fun j c => by rw [hB.drew.cell, Array.getElem?_eq_getElem (by omega)]; rfl) (fun j c => hB.drew.frozen _) ae
        rw[Z]at h
        exact h
      obtain⟨W1,hW1⟩:=Zx (w.drew.setCells g (i+1) ((l.drop i).map fun y=>.int .i64 y))
      obtain⟨c1,b1,s1,_,C1⟩:=Vc ((l.drop i).map fun y=>Value.int .i64 y) (i+1) w.drew ap hB.drew (by omega)
      rw[←hW1]at b1 C1
      have ay:=C1.blk (hV.drew) (fun e=>ag e.symm)
      have V:∀ty K,(Builtin.copy_ #[46,46] ty #[.slice (some ⟨g,i,none⟩) (n+1-i) K,.slice (some ⟨vb,0,none⟩) 1 1]).run prog W1=.ok (.int .i64 1) (W1.setCells g i [.int .i64 x]):=fun ty K=>
        run_copy_cells (P:=prog) W1 46 46 ty 3 g i (n+1-i) K ⟨vb,0,none⟩ 1 1 [Value.int .i64 x] underlying46 Gg (by simp only[Nat.min_def,Zm,List.length_nil];split<;>omega)
          (fun j u c => by
            cases j with
            | zero => obtain rfl := Zs c; exact Jf ay
            | succ j => cases c)
          (fun j c => by
            have:j=0:=by simpa using c
            subst this
            rw[b1.cell,Array.getElem?_eq_getElem (by omega)];rfl) (fun j c=>b1.frozen _) (fun u hu=>by
            obtain rfl:u=_:=by simpa using hu
            rfl)
      obtain⟨W2,hW2⟩:=Zx (W1.setCells g i [.int .i64 x])
      have FF:=O (J.o w.drew rfl)
      rw[←hW1,←hW2]at FF
      rw[←hW1]at B
      rw[←hW2]at V
      have e1:(((i:Int)==(n:Int)))=false:=by
        have:(i:Int)≠(n:Int):=by omega
        simpa using this
      have bd:decide ((i:Int)=(n:Int))=false:=by
        have:(i:Int)≠(n:Int):=by omega
        simpa using this
      have bf:IntKind.i64.wrap ((n:Int)+1)=(n:Int)+1:=by rw[IntWalk.i64_in _ (by omega)]
      have be:IntKind.i64.wrap ((i:Int)+1)=(i:Int)+1:=by rw[IntWalk.i64_in _ (by omega)]
      have bc:decide ((cap:Int)<(n:Int)+1)=false:=by simp;omega
      rw[←hn]
      have a1:i<n:=by omega
      have bp:n<1099511627776:=by omega
      have bh:(0:Int)≤(i:Int)+1:=by omega
      have bi:¬(cap=i+1):=by omega
      have bj:(i:Int)≤(n:Int)+1:=by omega
      have bk:¬(cap=i):=by omega
      have bs:((i:Int)+1).toNat=i+1:=by omega
      have a8:((n:Int)+1).toNat=n+1:=by omega
      have bl:(i:Int)+1≤(n:Int)+1:=by omega
      have bm:(n:Int)+1≤(cap:Int):=by omega
      clear hI hB ao E d aa hV ab hl hi am Xg ac ai ak Z ae q J hW1 hW2 b1 s1 C1 ay hn R ag
      go_enter func124,ntmps124
      go_wp2_with (simp only[bq])
      refine Qj [(0,0),(0,1),(0,2),(0,3),(0,4),(0,5),(0,6),(0,7),(2,8)] Zq (by kernel_rfl) (fun _ _ _ _ _ h=>h) ?_
      simp only[Jk,Zf,Ze,Zd]
      iterate 8 (refine Jq (by kernel_rfl) (by go_simp;try rfl) ?_)
      refine J7 ?_
      go_wp2_with fail
      refine Jo ?_
      clear B
      go_wp2
      go_ret
      have F2:=FF.o
      rw[←HN.o]at F2
      exact⟨_,rfl,F2.1,F2.2.undrew.mono (fun k e=>.inl (by rw[e];rfl)),.inl rfl⟩
    ·
      obtain⟨i0,z0,a0,a9,a7,al,az⟩:=intT.hi
      obtain⟨r,hr⟩:=Zx (w.heap.size)
      obtain⟨G,hG⟩:=Zx (grownCap w (n+1) cap 3)
      have bg:n+1≤G:=by rw[hG];exact grownCap_ge _ _ _ _
      have au:G≤maxLen:=by rw[hG];exact grownCap_le_maxLen _ _ _ _ (by simp only[maxLen];omega)
      obtain⟨z,U⟩:∃z:Array Value,z=((l.take i).map fun y=>Value.int .i64 y).toArray++Builtin.zeroCells z0.cells (n+1-i)++Builtin.zeroCells z0.cells (G-(n+1)):=⟨_,rfl⟩
      have ba:z0.cells.size=1:=by rw[az];rfl
      have bb:∀k,(Builtin.zeroCells z0.cells k).size=k:=fun k=>by simp[Builtin.zeroCells,ba]
      have aw:z.size=G:=by
        rw[U]
        simp only[Array.size_append,bb,List.size_toArray,List.length_map,List.length_take]
        omega
      have aj:(Builtin.firstCells i0.size i (.slice (some ⟨g,0,none⟩) i cap)).run prog w.drew=.ok ((l.take i).map fun y=>Value.int .i64 y).toArray w.drew:=by
        rw[a7]
        refine run_firstCells_some w.drew 1 i ⟨g,0,none⟩ i cap ((l.take i).map fun y=>Value.int .i64 y) (by rw[List.length_map,List.length_take];omega) (fun j u c=>?_)
        rw[Addr.add_lit,Nat.zero_add]
        rw[List.getElem?_map,List.getElem?_take]at c
        split at c
        · cases hy : l[j]? with
          | none => rw [hy] at c; cases c
          | some y =>
            rw[hy]at c
            obtain rfl:=Zs c
            rw[hB.drew.cell]
            exact E _ _ hy
        · cases c
      have an:∀ty,(Builtin.append_ #[46,3] ty #[.slice (some ⟨g,0,none⟩) i cap,.int .i64 ((n:Int)+1-(i:Int))]).run prog w=.ok (.slice (some ⟨r,0,none⟩) (n+1) G) (w.drew.alloc (.cells z 3)):=fun ty=>by
        have h:=Lib.run_append_grow_zeros (P:=prog) w 46 3 ty 3 i0 z0 .i64 .i64 underlying46 underlying3 a0 a9 (some ⟨g,0,none⟩) i cap _ aj (n+1-i) (by omega) (by omega) (by omega) (by omega) (by rw[al];omega) (by rw[al,show i+(n+1-i)=n+1 by omega];exact growslice_fits (by omega) (by omega))
        rw[show i+(n+1-i)=n+1 by omega,show((n+1-i:Nat):Int)=(n:Int)+1-(i:Int) by omega,←hG,←U,←hr]at h
        exact h
      have av:∀(k:Nat)(y:Int),k<i→l[k]? =some y→z[k]? =some (.int .i64 y):=fun k y hk hy=>by
        have bz:((l.take i).map fun y=>Value.int .i64 y).toArray.size=i:=by simp;omega
        rw[U,Array.append_assoc,Array.getElem?_append_left (by omega)]
        simp only[Zf,List.getElem?_map,List.getElem?_take,if_pos hk,hy]
        rfl
      obtain⟨W0,af⟩:=Zx (w.drew.alloc (.cells z 3))
      have B0:Qh W0 r z 3:=by rw[af];exact Qh.new' _ _ hr
      have C0:Qc Qb w W0:=by rw[af];exact(Zg Qb w).drew.alloc _
      rw[←af]at an
      have ax:=C0.blk hV (fun h=>h)
      have aq:=C0.blk hB (fun h=>h)
      have B:∀ty K,(Builtin.copy_ #[46,46] ty #[.slice (some ⟨r,i,none⟩) (n+1-i) K,.slice (some ⟨vb,0,none⟩) 1 1]).run prog W0=.ok (.int .i64 1) (W0.setCells r i [.int .i64 x]):=fun ty K=>
        run_copy_cells (P:=prog) W0 46 46 ty 3 r i (n+1-i) K ⟨vb,0,none⟩ 1 1 [Value.int .i64 x] underlying46 Gg (by simp only[Nat.min_def,Zm,List.length_nil];split<;>omega)
          (fun j u c => by
            cases j with
            | zero => obtain rfl := Zs c; exact Jf ax
            | succ j => cases c)
          (fun j c => by
            have:j=0:=by simpa using c
            subst this
            rw[B0.cell,Array.getElem?_eq_getElem (by omega)];rfl) (fun j c=>B0.frozen _) (fun u hu=>by
            obtain rfl:u=_:=by simpa using hu
            rfl)
      obtain⟨W1,hW1⟩:=Zx (W0.setCells r i [.int .i64 x])
      obtain⟨c1,b1,s1,_,C1⟩:=Vc [Value.int .i64 x] i W0 z B0 (by simp only[Zm,List.length_nil];omega)
      rw[←hW1]at b1 C1 B
      have ar:=C1.blk aq (fun e=>by omega)
      have V:∀ty K sc,(Builtin.copy_ #[46,46] ty #[.slice (some ⟨r,i+1,none⟩) (n-i) K,.slice (some ⟨g,i,none⟩) (n-i) sc]).run prog W1.drew=.ok (.int .i64 ((n-i:Nat):Int)) (W1.drew.setCells r (i+1) ((l.drop i).map fun y=>.int .i64 y)):=fun ty K sc=>by
        have h:=run_copy_cells (P:=prog) W1.drew 46 46 ty 3 r (i+1) (n-i) K ⟨g,i,none⟩ (n-i) sc ((l.drop i).map fun y=>Value.int .i64 y) underlying46 Gg (by rw[Z];simp only[Nat.min_def];split<;>omega)
          (fun j u c => by rw [Addr.add_lit]; exact q W1.drew (fun k => by rw [ar.drew.cell, hB.cell]) j u c) (fun j c => by rw [b1.drew.cell, Array.getElem?_eq_getElem (by omega)]; rfl) (fun j c => b1.drew.frozen _) ae
        rw[Z]at h
        exact h
      have I:=Qtr (w:=W0.drew) (i:=i) x Xg B0.drew aw (by omega) au (fun k y hk hy=>av k y hk hy)
      rw[←Wd r [Value.int .i64 x] i W0,←hW1]at I
      obtain⟨W2,hW2⟩:=Zx (W1.drew.setCells r (i+1) ((l.drop i).map fun y=>.int .i64 y))
      rw[←hW2]at V I
      have FF:=O (Zt I.1 (C0.trans I.2.undrew fun k e=>.inr (by omega):Qc Qb w W2))
      have HR:=O hr
      have e1:(((i:Int)==(n:Int)))=false:=by
        have:(i:Int)≠(n:Int):=by omega
        simpa using this
      have bd:decide ((i:Int)=(n:Int))=false:=by
        have:(i:Int)≠(n:Int):=by omega
        simpa using this
      have bf:IntKind.i64.wrap ((n:Int)+1)=(n:Int)+1:=by rw[IntWalk.i64_in _ (by omega)]
      have be:IntKind.i64.wrap ((i:Int)+1)=(i:Int)+1:=by rw[IntWalk.i64_in _ (by omega)]
      have bu:IntKind.i64.wrap ((n:Int)+1-(i:Int))=(n:Int)+1-(i:Int):=by rw[IntWalk.i64_in _ (by omega)]
      have bc:decide ((cap:Int)<(n:Int)+1)=true:=by simp;omega
      rw[←hn]
      have a1:i<n:=by omega
      have bp:n<1099511627776:=by omega
      have bh:(0:Int)≤(i:Int)+1:=by omega
      have bi:¬(G=i+1):=by omega
      have bj:(i:Int)≤(n:Int)+1:=by omega
      have bk:¬(G=i):=by omega
      have bt:¬(cap=i):=by omega
      have bs:((i:Int)+1).toNat=i+1:=by omega
      have a8:((n:Int)+1).toNat=n+1:=by omega
      have bl:(i:Int)+1≤(n:Int)+1:=by omega
      have bm:(i:Int)≤(cap:Int):=by omega
      have bv:(i:Int)≤(n:Int):=by omega
      clear hI hB ao E d aa hV ab hl hi am Xg ac ai ak Z ae q af hW1 hW2 b1 s1 C1 hn R ag a0 a9 a7 al az hr hG bg au U ba bb aw aj av B0 C0 ax aq ar I
      go_enter func124,ntmps124
      go_wp2_with (at_builtin;refine Lib.wpList_append_run _ rfl (.tmp 34) (.tmp 39) 46 3 rfl _ _ rfl rfl _ _ (an _) ?_)
      clear an
      go_wp2_with fail
      clear B
      refine Qj [(0,0),(0,1),(0,2),(0,3),(0,4),(0,5),(0,6),(0,7),(2,8)] Zq (by kernel_rfl) (fun _ _ _ _ _ h=>h) ?_
      simp only[Jk,Zf,Ze,Zd]
      iterate 5 (refine Jq (by kernel_rfl) (by go_simp;try rfl) ?_)
      iterate 2 (refine Jq (by kernel_rfl) (by go_simp;try rfl) ?_)
      refine Jq (by kernel_rfl) (by go_simp;try rfl) ?_
      try simp only[Act.put,Za,Zc,Zb]
      refine J7 ?_
      go_wp2_with fail
      refine Jo ?_
      clear V
      go_wp2
      go_ret
      have F2:=FF.o
      rw[←HN.o]at F2
      exact⟨_,rfl,F2.1,F2.2.none,.inr ⟨_,rfl,Nat.le_of_eq HR.o.symm⟩⟩
end
end Go.Proofs.YtnnhmpehkbihnaaGreat
