/- A part of the proof: no condition. -/
import Derived.Test.YtigcnnkagkbflaaGreatWf19
namespace Go.Proofs.YtigcnnkagkbflaaGreat
set_option linter.unusedVariables false
set_option maxRecDepth 100000
set_option maxHeartbeats 4000000
open Go.RowKit
open Go.Proofs.Tryz
attribute [local go_sem] Qp
attribute [local irreducible] Kl J9 Xo
theorem Qcw{w}{g:Nat}{cs:Array Value}{t:TypeId}(h:Qh w g cs t):w.shape? g=some (t,cs.size):=by unfold Qh at h;unfold World.shape?;rw[h]
theorem Qsp(w):(sizeOf 3).run prog w=.ok 1 w:=by go_simp
theorem Gg:(prog.info? 3).map (·.size)=some 1:=by kernel_rfl
theorem Wd(b:Nat):∀(vs:List Value)(o:Nat)(w:World),(w.setCells b o vs).drew=w.drew.setCells b o vs
 |[],_,_=>rfl
 |v::vs,o,w=>by show((w.setCell ⟨b,o,none⟩ v).setCells b (o+1) vs).drew=_;rw[Wd b vs];rfl
theorem Qkn{w}{v:Value}{l:List Int}(hI:Q6 w v l)(hl:l.length<1099511627776)(i:Nat)(hi:i≤l.length)(x:Int){vb:Nat}(hV:Qh w vb #[ZI x] 3)(ac:∀k,v.ownBlock=some k→k≠vb):
    Cl 166 #[v,ZI i,.slice (some ⟨vb,0,none⟩) 1 1] w fun e w'=>∃R,e=.returned R∧Q6 w' R (l.take i++x::l.drop i)∧Qc (fun k=>v.ownBlock=some k) w w'∧(R.ownBlock=v.ownBlock∨∃k,R.ownBlock=some k∧w.heap.size≤k):=by
  have ak:Hi (Kb W7 1 w (some ⟨vb,0,none⟩) [x]):=O (fun j c=>by
    obtain rfl:j=0:=by simpa using c
    refine⟨vb,0,rfl,fun k u hu=>?_⟩
    cases k with
    | zero => obtain rfl := Zs hu; exact Jf hV
    | succ k => cases hu)
  by_cases ap:i=l.length
  · subst ap
    have HI:=O hI
    obtain⟨a,cap,rfl,d,h0,_⟩:=hI.row intT.hc
    obtain⟨n,hn⟩:=Zx (l.length)
    have HN:=O hn
    have HE:=O (show l.take l.length++x::l.drop l.length=l++[x] by rw[List.take_length,List.drop_length])
    rw[←hn]at d hl
    rw[HE.o]
    have HL:=O hl
    rw[←hn]at HI⊢
    have af:Hi (∀R w',Q6 w' R (l++[x])→Qc (fun k=>(Value.slice a n cap).ownBlock=some k) w w'→(R.ownBlock=(Value.slice a n cap).ownBlock∨R.ownBlock=some w.heap.size)→
        (∃ aj, Ending.returned R = .returned aj ∧ Q6 w' aj (l ++ [x]) ∧ Qc (fun k => (Value.slice a n cap).ownBlock = some k) w w' ∧ (aj.ownBlock = (Value.slice a n cap).ownBlock ∨ ∃ k, aj.ownBlock = some k ∧ w.heap.size ≤ k))) := O (fun R w' h1 h2 h3 => ⟨R, rfl, h1, h2, h3.imp id fun h => ⟨_, h, Zv _⟩⟩)
    cases a with
    | none =>
      obtain rfl:=h0 rfl
      have br:n=0:=by omega
      clear hI ac hn h0 hl hi
      subst br
      clear d
      go_enter func166,ntmps166
      go_wp2_with (at_builtin;refine Jj intT rfl (.tmp 23) (.tmp 24) rfl _ l rfl HI.o _ _ [x] rfl ?a2 ?a3 ?a4 ?a5 ?a6)
      case a2=>exact nofun
      case a3=>exact ak.o
      case a4=>have:=HL.o;have:=HN.o;simp only[maxLen,Zm,List.length_nil];omega
      case a5=>have:=HL.o;have:=HN.o;simp only[Zm,List.length_nil];omega
      case a6=>
        intro R w' h1 h2 h3
        have FF:=O (af.o R w' h1 h2 h3)
        clear h1 h2 h3
        go_wp2
        go_ret
        exact FF.o
    | some ad =>
      clear hI ac hn h0 hl hi
      have b2:n≤cap:=d
      go_enter func166,ntmps166
      go_wp2_with (at_builtin;refine Jj intT rfl (.tmp 23) (.tmp 24) rfl _ l rfl HI.o _ _ [x] rfl ?a2 ?a3 ?a4 ?a5 ?a6)
      all_goals first
        | exact ak.o
        | (have := HL.o; have := HN.o; simp only [maxLen, Zm, List.length_nil]; omega)
        | (intro R w' h1 h2 h3
           have FF:=O (af.o R w' h1 h2 h3)
           clear h1 h2 h3
           go_wp2
           go_ret
           exact FF.o)
        | (intro h; cases h)
  · have Xg : i < l.length := by omega
    have ae:l≠[]:=fun e=>by rw[e]at Xg;simp at Xg
    obtain⟨g,cap,au,rfl,hB,ar,I,d,ab⟩:=hI.opn ae
    have ai:g≠vb:=ac g rfl
    obtain⟨n,hn⟩:=Zx (l.length)
    have HN:=O hn
    have al:=hB.lt
    have an:=hV.lt
    have aa:((l.drop i).map fun y=>Value.int .i64 y).length=n-i:=by rw[List.length_map,List.length_drop,hn]
    have ag:∀u∈(l.drop i).map fun y=>Value.int .i64 y,u.oneCell'=true:=fun u hu=>by
      obtain⟨y,_,rfl⟩:=Z3.1 hu
      rfl
    have q:∀W:World,(∀k,W.cell? ⟨g,k,none⟩=w.cell? ⟨g,k,none⟩)→∀j u,((l.drop i).map fun y=>Value.int .i64 y)[j]? =some u→W.cell? ⟨g,i+j,none⟩=some u:=fun W hW j u c=>by
      rw[hW,hB.cell]
      rw[List.getElem?_map,List.getElem?_drop]at c
      cases hy:l[i+j]? with
      | none => rw [hy] at c; cases c
      | some y =>
        rw[hy]at c
        obtain rfl:=Zs c
        exact I _ _ hy
    by_cases bu:n+1≤cap
    ·
      have af:=O (show∀W,W=w.drew→_ from fun W hW=>Qou (w:=W) x Xg (hW▸hB.drew) ar (by omega) ab I)
      have bt:∀lb cb,(callFunc 225 #[.slice (some ⟨vb,0,none⟩) 1 1,.slice (some ⟨g,i+1,none⟩) lb cb]).run prog w=.ok (.value (.bool false)) w:=fun lb cb=>by
        rw[run_callFunc_extern func225 (by kernel_rfl) (by kernel_rfl) (by kernel_rfl) (e:=Extern.SlicesOverlaps.overlaps #[100,100] #[4]) (by kernel_rfl),
          Lib.run_overlaps_apart w 100 4 3 underlying100 1 Qsp ⟨vb,0,none⟩ ⟨g,i+1,none⟩ 1 1 lb cb (fun e=>ai e.symm) 3 3 1 au.size (Qcw hV) (Qcw hB) (by omega) (hV.frozen 0) (hV.frozen 1)]
        rfl
      have E:∀ty K sc,(Builtin.copy_ #[100,100] ty #[.slice (some ⟨g,i+1,none⟩) (n-i) K,.slice (some ⟨g,i,none⟩) (n+1-i) sc]).run prog w.drew=.ok (ZI ((n-i:Nat):Int)) (w.drew.setCells g (i+1) ((l.drop i).map fun y=>ZI y)):=fun ty K sc=>by
        have h:=run_copy_cells (P:=prog) w.drew 100 100 ty 3 g (i+1) (n-i) K ⟨g,i,none⟩ (n+1-i) sc ((l.drop i).map fun y=>Value.int .i64 y) underlying100 Gg (by rw[aa];simp only[Nat.min_def];split<;>omega)
          (fun j u c => by rw [Addr.add_lit]; exact q w.drew (fun _ => rfl) j u c) (fun j c => by rw [hB.drew.cell, Array.getElem?_eq_getElem (by omega)]; rfl) (fun j c => hB.drew.frozen _) ag
        rw[aa]at h
        exact h
      obtain⟨W1,B⟩:=Zx (w.drew.setCells g (i+1) ((l.drop i).map fun y=>ZI y))
      obtain⟨c1,b1,s1,_,C1⟩:=Vc ((l.drop i).map fun y=>Value.int .i64 y) (i+1) w.drew au hB.drew (by omega)
      rw[←B]at b1 C1
      have a1:=C1.blk (hV.drew) (fun e=>ai e.symm)
      have V:∀ty K,(Builtin.copy_ #[100,100] ty #[.slice (some ⟨g,i,none⟩) (n+1-i) K,.slice (some ⟨vb,0,none⟩) 1 1]).run prog W1=.ok (ZI 1) (W1.setCells g i [ZI x]):=fun ty K=>
        run_copy_cells (P:=prog) W1 100 100 ty 3 g i (n+1-i) K ⟨vb,0,none⟩ 1 1 [Value.int .i64 x] underlying100 Gg (by simp only[Nat.min_def,Zm,List.length_nil];split<;>omega)
          (fun j u c => by
            cases j with
            | zero => obtain rfl := Zs c; exact Jf a1
            | succ j => cases c)
          (fun j c => by
            have:j=0:=by simpa using c
            subst this
            rw[b1.cell,Array.getElem?_eq_getElem (by omega)];rfl) (fun j c=>b1.frozen _) (fun u hu=>by
            obtain rfl:u=_:=by simpa using hu
            rfl)
      obtain⟨W2,Z⟩:=Zx (W1.setCells g i [ZI x])
      have FF:=O (af.o w.drew rfl)
      rw[←B,←Z]at FF
      rw[←B]at E
      rw[←Z]at V
      have e1:(((i:Int)==(n:Int)))=false:=by
        have:(i:Int)≠(n:Int):=by omega
        simpa using this
      have bg:decide ((i:Int)=(n:Int))=false:=by
        have:(i:Int)≠(n:Int):=by omega
        simpa using this
      have bi:IntKind.i64.wrap ((n:Int)+1)=(n:Int)+1:=by rw[IntWalk.i64_in _ (by omega)]
      have bh:IntKind.i64.wrap ((i:Int)+1)=(i:Int)+1:=by rw[IntWalk.i64_in _ (by omega)]
      have bf:decide ((cap:Int)<(n:Int)+1)=false:=by simp;omega
      rw[←hn]
      have a9:i<n:=by omega
      have bs:n<1099511627776:=by omega
      have bk:(0:Int)≤(i:Int)+1:=by omega
      have bl:¬(cap=i+1):=by omega
      have bm:(i:Int)≤(n:Int)+1:=by omega
      have bo:¬(cap=i):=by omega
      have bv:((i:Int)+1).toNat=i+1:=by omega
      have bb:((n:Int)+1).toNat=n+1:=by omega
      have bp:(i:Int)+1≤(n:Int)+1:=by omega
      have bq:(n:Int)+1≤(cap:Int):=by omega
      clear hI hB ar I d ab hV ac hl hi ap Xg ae al an aa ag q B Z b1 s1 C1 a1 hn ai
      go_enter func166,ntmps166
      go_wp2_with (simp only[bt])
      refine ZB [0,1,2,3,4,5,6,7,208] ?_
      simp only[Z8,Zf,Ze,Zd]
      iterate 8 (refine Jq (h:=?_))
      refine J7 ?_
      go_wp2_with fail
      refine Jo ?_
      clear E
      go_wp2
      go_ret
      have F2:=FF.o
      rw[←HN.o]at F2
      exact⟨_,rfl,F2.1,F2.2.aT.mono (fun k e=>.inl (by rw[e];rfl)),.inl rfl⟩
    ·
      obtain⟨i0,z0,a8,bc,ba,ao,a7⟩:=intT.hi
      obtain⟨r,hr⟩:=Zx (w.heap.size)
      obtain⟨G,hG⟩:=Zx (grownCap w (n+1) cap 3)
      have bj:n+1≤G:=by rw[hG];exact grownCap_ge _ _ _ _
      have ax:G≤maxLen:=by rw[hG];exact grownCap_le_maxLen _ _ _ _ (by simp only[maxLen];omega)
      obtain⟨z,U⟩:∃z:Array Value,z=((l.take i).map fun y=>Value.int .i64 y).toArray++Builtin.zeroCells z0.cells (n+1-i)++Builtin.zeroCells z0.cells (G-(n+1)):=⟨_,rfl⟩
      have bd:z0.cells.size=1:=by rw[a7];rfl
      have be:∀k,(Builtin.zeroCells z0.cells k).size=k:=fun k=>by simp[Builtin.zeroCells,bd]
      have az:z.size=G:=by
        rw[U]
        simp only[Array.size_append,be,List.size_toArray,List.length_map,List.length_take]
        omega
      have am:(Builtin.firstCells i0.size i (.slice (some ⟨g,0,none⟩) i cap)).run prog w.drew=.ok ((l.take i).map fun y=>Value.int .i64 y).toArray w.drew:=by
        rw[ba]
        refine run_firstCells_some w.drew 1 i ⟨g,0,none⟩ i cap ((l.take i).map fun y=>Value.int .i64 y) (by rw[List.length_map,List.length_take];omega) (fun j u c=>?_)
        rw[Addr.add_lit,Nat.zero_add]
        rw[List.getElem?_map,List.getElem?_take]at c
        split at c
        · cases hy : l[j]? with
          | none => rw [hy] at c; cases c
          | some y =>
            rw[hy]at c
            obtain rfl:=Zs c
            rw[hB.drew.cell]
            exact I _ _ hy
        · cases c
      have aq:∀ty,(Builtin.append_ #[100,3] ty #[.slice (some ⟨g,0,none⟩) i cap,ZI ((n:Int)+1-(i:Int))]).run prog w=.ok (.slice (some ⟨r,0,none⟩) (n+1) G) (w.drew.alloc (.cells z 3)):=fun ty=>by
        have h:=Lib.run_append_grow_zeros (P:=prog) w 100 3 ty 3 i0 z0 .i64 .i64 underlying100 underlying3 a8 bc (some ⟨g,0,none⟩) i cap _ am (n+1-i) (by omega) (by omega) (by omega) (by omega) (by rw[ao];omega) (by rw[ao,show i+(n+1-i)=n+1 by omega];exact growslice_fits (by omega) (by omega))
        rw[show i+(n+1-i)=n+1 by omega,show((n+1-i:Nat):Int)=(n:Int)+1-(i:Int) by omega,←hG,←U,←hr]at h
        exact h
      have ay:∀(k:Nat)(y:Int),k<i→l[k]? =some y→z[k]? =some (ZI y):=fun k y hk hy=>by
        have b3:((l.take i).map fun y=>Value.int .i64 y).toArray.size=i:=by simp;omega
        rw[U,Array.append_assoc,Array.getElem?_append_left (by omega)]
        simp only[Zf,List.getElem?_map,List.getElem?_take,if_pos hk,hy]
        rfl
      obtain⟨W0,ah⟩:=Zx (w.drew.alloc (.cells z 3))
      have B0:Qh W0 r z 3:=by rw[ah];exact Qh.new' _ _ hr
      have C0:Qc Qb w W0:=by rw[ah];exact(Zg Qb w).drew.alloc _
      rw[←ah]at aq
      have a0:=C0.blk hV (fun h=>h)
      have av:=C0.blk hB (fun h=>h)
      have E:∀ty K,(Builtin.copy_ #[100,100] ty #[.slice (some ⟨r,i,none⟩) (n+1-i) K,.slice (some ⟨vb,0,none⟩) 1 1]).run prog W0=.ok (ZI 1) (W0.setCells r i [ZI x]):=fun ty K=>
        run_copy_cells (P:=prog) W0 100 100 ty 3 r i (n+1-i) K ⟨vb,0,none⟩ 1 1 [Value.int .i64 x] underlying100 Gg (by simp only[Nat.min_def,Zm,List.length_nil];split<;>omega)
          (fun j u c => by
            cases j with
            | zero => obtain rfl := Zs c; exact Jf a0
            | succ j => cases c)
          (fun j c => by
            have:j=0:=by simpa using c
            subst this
            rw[B0.cell,Array.getElem?_eq_getElem (by omega)];rfl) (fun j c=>B0.frozen _) (fun u hu=>by
            obtain rfl:u=_:=by simpa using hu
            rfl)
      obtain⟨W1,B⟩:=Zx (W0.setCells r i [ZI x])
      obtain⟨c1,b1,s1,_,C1⟩:=Vc [Value.int .i64 x] i W0 z B0 (by simp only[Zm,List.length_nil];omega)
      rw[←B]at b1 C1 E
      have aw:=C1.blk av (fun e=>by omega)
      have V:∀ty K sc,(Builtin.copy_ #[100,100] ty #[.slice (some ⟨r,i+1,none⟩) (n-i) K,.slice (some ⟨g,i,none⟩) (n-i) sc]).run prog W1.drew=.ok (ZI ((n-i:Nat):Int)) (W1.drew.setCells r (i+1) ((l.drop i).map fun y=>ZI y)):=fun ty K sc=>by
        have h:=run_copy_cells (P:=prog) W1.drew 100 100 ty 3 r (i+1) (n-i) K ⟨g,i,none⟩ (n-i) sc ((l.drop i).map fun y=>Value.int .i64 y) underlying100 Gg (by rw[aa];simp only[Nat.min_def];split<;>omega)
          (fun j u c => by rw [Addr.add_lit]; exact q W1.drew (fun k => by rw [aw.drew.cell, hB.cell]) j u c) (fun j c => by rw [b1.drew.cell, Array.getElem?_eq_getElem (by omega)]; rfl) (fun j c => b1.drew.frozen _) ag
        rw[aa]at h
        exact h
      have J:=Qtr (w:=W0.drew) (i:=i) x Xg B0.drew az (by omega) ax (fun k y hk hy=>ay k y hk hy)
      rw[←Wd r [Value.int .i64 x] i W0,←B]at J
      obtain⟨W2,Z⟩:=Zx (W1.drew.setCells r (i+1) ((l.drop i).map fun y=>ZI y))
      rw[←Z]at V J
      have FF:=O (Zt J.1 (C0.trans J.2.aT fun k e=>.inr (by omega):Qc Qb w W2))
      have HR:=O hr
      have e1:(((i:Int)==(n:Int)))=false:=by
        have:(i:Int)≠(n:Int):=by omega
        simpa using this
      have bg:decide ((i:Int)=(n:Int))=false:=by
        have:(i:Int)≠(n:Int):=by omega
        simpa using this
      have bi:IntKind.i64.wrap ((n:Int)+1)=(n:Int)+1:=by rw[IntWalk.i64_in _ (by omega)]
      have bh:IntKind.i64.wrap ((i:Int)+1)=(i:Int)+1:=by rw[IntWalk.i64_in _ (by omega)]
      have bz:IntKind.i64.wrap ((n:Int)+1-(i:Int))=(n:Int)+1-(i:Int):=by rw[IntWalk.i64_in _ (by omega)]
      have bf:decide ((cap:Int)<(n:Int)+1)=true:=by simp;omega
      rw[←hn]
      have a9:i<n:=by omega
      have bs:n<1099511627776:=by omega
      have bk:(0:Int)≤(i:Int)+1:=by omega
      have bl:¬(G=i+1):=by omega
      have bm:(i:Int)≤(n:Int)+1:=by omega
      have bo:¬(G=i):=by omega
      have bw:¬(cap=i):=by omega
      have bv:((i:Int)+1).toNat=i+1:=by omega
      have bb:((n:Int)+1).toNat=n+1:=by omega
      have bp:(i:Int)+1≤(n:Int)+1:=by omega
      have bq:(i:Int)≤(cap:Int):=by omega
      have b0:(i:Int)≤(n:Int):=by omega
      clear hI hB ar I d ab hV ac hl hi ap Xg ae al an aa ag q ah B Z b1 s1 C1 hn ai a8 bc ba ao a7 hr hG bj ax U bd be az am ay B0 C0 a0 av aw J
      go_enter func166,ntmps166
      go_wp2_with (at_builtin;refine Lib.wpList_append_run _ rfl (.tmp 34) (.tmp 39) 100 3 rfl _ _ rfl rfl _ _ (aq _) ?_)
      clear aq
      go_wp2_with fail
      clear E
      refine ZB [0,1,2,3,4,5,6,7,208] ?_
      simp only[Z8,Zf,Ze,Zd]
      iterate 5 (refine Jq (h:=?_))
      iterate 2 (refine Jq (h:=?_))
      refine Jq (by kernel_rfl) (by go_simp;try rfl) ?_
      try simp only[Act.put,Za,Zc,Zb]
      refine J7 ?_
      go_wp2_with fail
      refine Jo ?_
      clear V
      go_wp2
      go_ret
      have F2:=FF.o
      rw[←HN.o]at F2
      exact⟨_,rfl,F2.1,F2.2.none,.inr ⟨_,rfl,Nat.le_of_eq HR.o.symm⟩⟩
section
variable{K:Nat}{e:Vi}
theorem V4.add(h:V4 K e)(s:Yk):V4 K (e.add s):=by
 unfold Vi.add;split;·exact h
 ·obtain⟨N,c,k⟩:=h.sok;by_cases d:e.sched.aO s=0;·have:=Qe6 c (c.add d) (Qt8 c s);exact⟨⟨N,c.add d,by show N+17*((e.sched.add s).many 0).toNat+_+_≤K;rw[this];exact k⟩,h.rate,h.lrate,h.hor,h.now,h.taken,h.free,h.und,h.book⟩
  ·rw[Qem d];exact h
theorem V4.change(h:V4 K e)(s:Yk):V4 K (e.change s):=by
 unfold Vi.change;split;·exact h
 ·obtain⟨N,d,k⟩:=h.sok;by_cases c:e.sched.aG s=0;·have:=Qe6 d (d.change c) (Qbb s);exact⟨⟨N,d.change c,by show N+17*((e.sched.change s).many 0).toNat+_+_≤K;rw[this];exact k⟩,h.rate,h.lrate,h.hor,h.now,h.taken,h.free,h.und,h.book⟩
  ·rw[Sj c];exact h
theorem V4.drop(h:V4 K e)(i:Int):V4 K (e.drop i):=by
 unfold Vi.drop;split;·exact h
 ·obtain⟨N,c,k⟩:=h.sok;split;·rename_i d;have:=Qe6 c (c.drop d) (Qsf c i);exact⟨⟨N,c.drop d,by show N+17*((e.sched.drop i).many 0).toNat+_+_≤K;rw[this];exact k⟩,h.rate,h.lrate,h.hor,h.now,h.taken,h.free,h.und,h.book.drop i⟩
  ·exact h
theorem V4.adv(h:V4 K e)(til:Nat):V4 K (e.adv til):=by
 unfold Vi.adv;split;·exact h.run til
 ·exact h
def Vi.came(e:Vi)(q:Jr):Vi:={e with sched:=e.sched.push q e.now,book:=e.book.tell q.cls (Qx4 q)}
def Vi.refused(e:Vi)(q:Jr):Vi:={e with book:=e.book.tell q.cls Qwx}
theorem Qwb(e:Vi)(p:Jr):e.arr p=if e.stopped then e else if(e.run e.now).sched.aQ (e.arrP p)=0 then((e.run e.now).came (e.arrP p)).run (e.run e.now).now else(e.run e.now).refused (e.arrP p):=rfl
theorem V4.came(h:V4 K e){q:Jr}(c:e.sched.aQ q=0):V4 (K+33) (e.came q):=by obtain⟨N,d,k⟩:=h.sok;have:=Qw6 d e.now c;have u:=Qhw (s:=e.sched) 0;refine⟨⟨N+16,d.push e.now c,?_⟩,h.rate,h.lrate,h.hor,h.now,h.taken,h.free,h.und,h.book.tell _ _⟩;show N+16+17*((e.sched.push q e.now).many 0).toNat+(if e.aM.isSome then 1 else 0)+e.sent.length≤K+33;omega
theorem V4.refused(h:V4 K e)(q:Jr):V4 K (e.refused q):=⟨h.sok,h.rate,h.lrate,h.hor,h.now,h.taken,h.free,h.und,h.book.tell _ _⟩
theorem V4.arr(h:V4 K e)(p:Jr):V4 (K+33) (e.arr p):=by
 rw[Qwb];split;·exact h.more (by omega)
 ·split;·rename_i c;exact((h.run _).came c).run _
  ·exact((h.run _).refused _).more (by omega)
def P4(now c:Nat):Nat:=min (now+c%1048576) 1099511627781
def Vi.does(e:Vi)(k:Nat)(s:Yk)(p:Jr)(c:Nat):Vi:=
 if k%7=0 then e.add s else if k%7=1 then e.change s else if k%7=2 then e.drop s.id else if k%7=3 then e.arr p else if k%7=4 then e.adv (P4 e.now c)else(e.step (P4 e.now c)).2
def Vi.aY(e:Vi)(k:Nat)(s:Yk)(p:Jr)(c:Nat):Int:=
 if k%7=0 then e.aO s else if k%7=1 then e.aG s else if k%7=2 then e.aP s.id else if k%7=3 then e.arrE p else if k%7=4 then e.advE (P4 e.now c)else 0
theorem V4.does(h:V4 K e)(k:Nat)(s:Yk)(p:Jr)(c:Nat):V4 (K+33) (e.does k s p c):=by
 unfold Vi.does;split;·exact(h.add s).more (by omega)
 split;·exact(h.change s).more (by omega)
 split;·exact(h.drop s.id).more (by omega)
 split;·exact h.arr p
 split;·exact(h.adv _).more (by omega)
 ·exact(h.step _).1.more (by omega)
theorem Qxq(e:Vi)(k:Nat)(s:Yk)(p:Jr)(c:Nat):(e.does k s p c).hor=e.hor:=by
 unfold Vi.does;split;·unfold Vi.add;split<;>rfl
 split;·unfold Vi.change;split<;>rfl
 split
 ·unfold Vi.drop;split;·rfl
  ·split<;>rfl
 split
 ·rw[Qwb];split;·rfl
  ·split;·exact(Qv9 _ _).trans (Qv9 e _)
   ·exact Qv9 e _
 split
 ·unfold Vi.adv;split;·exact Qv9 _ _
  ·rfl
 ·exact(W8 e _).1
theorem Qxo(s:Qf)(c:Yk):s.aO c≠261:=by
 unfold Qf.aO Qm.aO;repeat' split
 all_goals decide
theorem Qwv(s:Qf)(c:Yk):s.aG c≠261:=by
 unfold Qf.aG Qm.aG;repeat' split
 all_goals decide
theorem Qxh(s:Qf)(i:Int):s.aP i≠261:=by
 unfold Qf.aP;repeat' split
 all_goals decide
theorem Qxj(s:Qf)(p:Jr):s.aQ p≠261:=by grind [Qf.aQ,Eo]
theorem Qwj(e:Vi)(k:Nat)(s:Yk)(p:Jr)(c:Nat)(d:k%7<5):(e.aY k s p c=261)=(e.stopped=true):=by unfold Vi.aY Vi.aO Vi.aG Vi.aP Vi.arrE Vi.advE;grind [Qxo,Qwv,Qxh,Qxj]
theorem Qxx(h:V4 K e){til:Nat}(u:e.hor≤til):(e.adv til).stopped=true∧(e.adv til).now=e.hor∧(e.adv til).hor=e.hor:=by
 unfold Vi.adv Vi.advE;have z:=h.now;cases d:e.stopped with
 |true=> simp only[if_true];rw[if_neg (by decide)];have c:=d;unfold Vi.stopped at c;simp only[decide_eq_true_eq]at c;exact⟨d,by omega,rfl⟩
 |false=> simp only[Bool.false_eq_true,if_false];rw[if_neg (show¬til<e.now by omega),if_pos rfl];have k:=Qxc h (til:=til) (by omega) d;have q:=Qv9 e til;refine⟨?_,by rw[k];omega,q⟩;unfold Vi.stopped;rw[k,q];simp;omega
end
def UOk(e:Vi):Prop:=∀x,e.aM=some x→Ll x.p
section
variable{K:Nat}{e:Vi}
theorem UOk.step(u:UOk e)(q:V4 K e)(til:Nat):UOk (e.step til).2:=by
 obtain⟨z,B⟩:=Qwo q til;unfold Vi.step;split;·exact u
 ·split
  ·split;·exact nofun
   ·exact u
  ·rename_i k;split;·exact u
   ·rcases(q.idle k z B).choose k with⟨d,_⟩|⟨c,s,_,d,_,_,_,E,_⟩;·rw[d];exact u
    ·rw[d];intro x I;cases I;exact E
theorem UOk.all(c:Nat):∀(n:Nat){e:Vi},UOk e→V4 K e→UOk (Vi.all c n e)
 |0,_,u,_=>u
 |n+1,e,u,ok=>by
  rw[Vi.all];split;·exact u.step ok c
  ·exact UOk.all c n (u.step ok c) (ok.step c).1
theorem UOk.run(u:UOk e)(c:V4 K e)(til:Nat):UOk (e.run til):=UOk.all til _ u c
end
section
variable{K:Nat}{e:Vi}
theorem UOk.new(d:Nat)(c:Int)(k:Nat):UOk (Vi.new d c k):=nofun
theorem UOk.add(u:UOk e)(s:Yk):UOk (e.add s):=by unfold Vi.add;split<;>exact u
theorem UOk.change(u:UOk e)(s:Yk):UOk (e.change s):=by unfold Vi.change;split<;>exact u
theorem UOk.drop(u:UOk e)(i:Int):UOk (e.drop i):=by
 unfold Vi.drop;split;·exact u
 ·split<;>exact u
theorem UOk.adv(u:UOk e)(c:V4 K e)(til:Nat):UOk (e.adv til):=by
 unfold Vi.adv;split;·exact u.run c til
 ·exact u
theorem UOk.arr(u:UOk e)(c:V4 K e)(p:Jr):UOk (e.arr p):=by
 rw[Qwb];split;·exact u
 ·have k:=c.run e.now;have u1:=u.run c e.now;split;·rename_i d;exact UOk.run (e:=(e.run e.now).came (e.arrP p)) u1 (k.came d) _
  ·exact u1
theorem UOk.does(u:UOk e)(d:V4 K e)(k:Nat)(s:Yk)(p:Jr)(c:Nat):UOk (e.does k s p c):=by
 unfold Vi.does;split;·exact u.add s
 split;·exact u.change s
 split;·exact u.drop s.id
 split;·exact u.arr d p
 split;·exact u.adv d _
 ·exact u.step d _
theorem Q0y(d:e.stopped=true)(k:Nat)(s:Yk)(p:Jr)(c:Nat):e.does k s p c=e:=by unfold Vi.does Vi.add Vi.change Vi.drop Vi.adv Vi.advE;grind [Qwb,V3]
end
section
def ewC:Yk:=⟨1,0,true,⟨0,0,0⟩,⟨0,0,256⟩,⟨0,0,0⟩,5,1000⟩
def ewP:Jr:=⟨7,1,10,0⟩
def ewQ:Jr:=⟨0,2,10,0⟩
def ew0:Vi:=.new 256 1500 100
def ew1:Vi:=ew0.add ewC
def ew2:Vi:=ew1.adv 5
def ew3:Vi:=ew2.arr ewP
def ew4:Vi:=ew3.arr ewQ
def ew5:Vi:=ew4.adv 4
def ew6:Vi:=ew5.adv 99
def ew7:Vi:=ew6.adv 200
def ewX:D7:=⟨⟨7,1,10,5⟩,2,5,15,0⟩
set_option maxRecDepth 100000
theorem Qyb:Qxy 256 1500 100=0:=by decide
theorem Qyq:Qxy 256 1500 0=2:=by decide
theorem Qyh:ew0.aO ewC=0:=by decide+kernel
theorem Qyi:ew1.advE 5=0:=by decide+kernel
theorem Qyj:ew2.arrE ewP=0:=by decide+kernel
theorem Qyt:ew3.aM=some ewX:=by rfl
theorem Qyk:ew3.arrE ewQ=81:=by decide+kernel
theorem Qyl:ew4.advE 4=260:=by decide+kernel
theorem Qym:ew5.advE 99=0:=by decide+kernel
theorem Qyr:ew6.sent=[ewX]:=by rfl
theorem Qyn:ew6.advE 200=0:=by decide+kernel
theorem Qys:ew7.now=100∧ew7.stopped=true:=by decide+kernel
theorem Qyo:ew7.advE 100=261:=by decide+kernel
theorem Qyp:ew7.book.get 0=[1,1,1,10,0,10,0,0]:=by decide+kernel
theorem ew_ok0:V4 0 ew0:=V4.new Qyb
theorem ew_ok1:V4 0 ew1:=ew_ok0.add ewC
theorem ew_ok2:V4 0 ew2:=ew_ok1.adv 5
theorem ew_ok3:V4 33 ew3:=ew_ok2.arr ewP
theorem ew_ok4:V4 66 ew4:=ew_ok3.arr ewQ
theorem ew_ok5:V4 66 ew5:=ew_ok4.adv 4
theorem ew_ok6:V4 66 ew6:=ew_ok5.adv 99
theorem ew_ok7:V4 66 ew7:=ew_ok6.adv 200
end
end Go.Proofs.YtigcnnkagkbflaaGreat
