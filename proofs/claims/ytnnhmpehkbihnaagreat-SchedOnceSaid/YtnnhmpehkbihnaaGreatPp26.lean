/- A part of the proof: no condition. -/
import Derived.Test.YtnnhmpehkbihnaaGreatPp25
namespace Go.Proofs.YtnnhmpehkbihnaaGreat
set_option linter.unusedVariables false
set_option maxRecDepth 100000
set_option maxHeartbeats 4000000
open Go.RowKit
open Go.Proofs.Tryz
section
attribute [local go_sem] Qq
attribute [local irreducible] Y4 Jm Jw
theorem Qj1{w:World}{g:Nat}{cs:Array Value}{t:TypeId}(h:Qh w g cs t):w.shape? g=some (t,cs.size):=by unfold Qh at h;unfold World.shape?;rw[h]
theorem Qxh(w:World):(sizeOf 3).run prog w=.ok 1 w:=by go_simp
theorem Ok:(prog.info? 3).map (·.size)=some 1:=by kernel_rfl
theorem Qhv(b:Nat):∀(vs:List Value)(o:Nat)(w:World),(w.setCells b o vs).drew=w.drew.setCells b o vs
 |[],_,_=>rfl
 |v::vs,o,w=>by show((w.setCell ⟨b,o,none⟩ v).setCells b (o+1) vs).drew=_;rw[Qhv b vs];rfl
theorem Qrm{w:World}{v:Value}{l:List Int}(hI:Zw w v l)(hl:l.length<1099511627776)(i:Nat)(hi:i≤l.length)(x:Int){vb:Nat}(hV:Qh w vb #[.int .i64 x] 3)(ab:∀k,v.ownBlock=some k→k≠vb):
    Cl 124 #[v,.int .i64 (i:Int),.slice (some ⟨vb,0,none⟩) 1 1] w fun e w'=>∃v',e=.returned v'∧Zw w' v' (l.take i++x::l.drop i)∧Qc (fun k=>v.ownBlock=some k) w w'∧(v'.ownBlock=v.ownBlock∨∃k,v'.ownBlock=some k∧w.heap.size≤k):=by
  have R:=O (show Yr Qih 1 w (some ⟨vb,0,none⟩) [x]from fun j c=>by
    obtain rfl:j=0:=by simpa using c
    refine⟨vb,0,rfl,fun k u hu=>?_⟩
    cases k with
    |zero=>obtain rfl:=Option.some.inj hu;exact Zv hV
    |succ k=>cases hu)
  by_cases ao:i=l.length
  · subst ao
    have HI:=O hI
    obtain⟨a,cap,rfl,d,h0,_⟩:=hI.row intT.hc
    obtain⟨n,hn⟩:=Zx (l.length)
    have HN:=O hn
    have HE:=O (show l.take l.length++x::l.drop l.length=l++[x] by rw[List.take_length,List.drop_length])
    rw[←hn]at d hl
    rw[HE.out]
    have HL:=O hl
    rw[←hn]at HI⊢
    have J:Hid (∀v' w',Zw w' v' (l++[x])→Qc (fun k=>(Value.slice a n cap).ownBlock=some k) w w'→(v'.ownBlock=(Value.slice a n cap).ownBlock∨v'.ownBlock=some w.heap.size)→
        (∃ah,Ending.returned v'=.returned ah∧Zw w' ah (l++[x])∧Qc (fun k=>(Value.slice a n cap).ownBlock=some k) w w'∧(ah.ownBlock=(Value.slice a n cap).ownBlock∨∃k,ah.ownBlock=some k∧w.heap.size≤k))):=O (fun v' w' h1 h2 h3=>⟨v',rfl,h1,h2,h3.imp id fun h=>⟨_,h,Nat.le_refl _⟩⟩)
    cases a with
    |none=>
      obtain rfl:=h0 rfl
      have be:n=0:=by omega
      clear hI ab hn h0 hl hi
      subst be
      clear d
      go_enter func124,ntmps124
      go_wp2_with (at_builtin;refine Jf intT rfl (.tmp 23) (.tmp 24) rfl _ l rfl HI.out _ _ [x] rfl ?a2 ?a3 ?a4 ?a5 ?a6)
      case a2=>exact nofun
      case a3=>exact R.out
      case a4=>have:=HL.out;have:=HN.out;simp only[maxLen,List.length_cons,List.length_nil];omega
      case a5=>have:=HL.out;have:=HN.out;simp only[List.length_cons,List.length_nil];omega
      case a6=>
        intro v' w' h1 h2 h3
        have FF:=O (J.out v' w' h1 h2 h3)
        clear h1 h2 h3 J
        go_wp2
        go_ret
        exact FF.out
    |some ad=>
      clear hI ab hn h0 hl hi
      have bw:n≤cap:=d
      go_enter func124,ntmps124
      go_wp2_with (at_builtin;refine Jf intT rfl (.tmp 23) (.tmp 24) rfl _ l rfl HI.out _ _ [x] rfl ?a2 ?a3 ?a4 ?a5 ?a6)
      all_goals first
        |exact R.out
        |(have:=HL.out;have:=HN.out;simp only[maxLen,List.length_cons,List.length_nil];omega)
        | (intro v' w' h1 h2 h3
           have FF:=O (J.out v' w' h1 h2 h3)
           clear h1 h2 h3 J
           go_wp2
           go_ret
           exact FF.out)
        |(intro h;cases h)
  · have Jl:i<l.length:=by omega
    have ac:l≠[]:=fun e=>by rw[e]at Jl;simp at Jl
    obtain⟨g,cap,ba,rfl,hB,al,E,d,aa⟩:=hI.opn ac
    have ae:g≠vb:=ab g rfl
    obtain⟨n,hn⟩:=Zx (l.length)
    have HN:=O hn
    have aj:=hB.lt
    have ak:=hV.lt
    have Z:((l.drop i).map fun y=>Value.int .i64 y).length=n-i:=by rw[List.length_map,List.length_drop,hn]
    have ag:∀u∈(l.drop i).map fun y=>Value.int .i64 y,u.oneCell'=true:=fun u hu=>by
      obtain⟨y,_,rfl⟩:=List.mem_map.1 hu
      rfl
    have q:∀W:World,(∀k,W.cell? ⟨g,k,none⟩=w.cell? ⟨g,k,none⟩)→∀j u,((l.drop i).map fun y=>Value.int .i64 y)[j]? =some u→W.cell? ⟨g,i+j,none⟩=some u:=fun W hW j u c=>by
      rw[hW,hB.cell]
      rw[List.getElem?_map,List.getElem?_drop]at c
      cases hy:l[i+j]? with
      |none=>rw[hy]at c;cases c
      |some y=>
        rw[hy]at c
        obtain rfl:=Option.some.inj c
        exact E _ _ hy
    by_cases bm:n+1≤cap
    ·
      have J:=O (show∀W,W=w.drew→_ from fun W hW=>Qu3 (w:=W) x Jl (hW▸hB.drew) al (by omega) aa E)
      have bp:∀lb cb,(callFunc 185 #[.slice (some ⟨vb,0,none⟩) 1 1,.slice (some ⟨g,i+1,none⟩) lb cb]).run prog w=.ok (.value (.bool false)) w:=fun lb cb=>by
        rw[run_callFunc_extern func185 (by kernel_rfl) (by kernel_rfl) (by kernel_rfl) (e:=Extern.SlicesOverlaps.overlaps #[46,46] #[4]) (by kernel_rfl),
          Lib.run_overlaps_apart w 46 4 3 underlying46 1 Qxh ⟨vb,0,none⟩ ⟨g,i+1,none⟩ 1 1 lb cb (fun e=>ae e.symm) 3 3 1 ba.size (Qj1 hV) (Qj1 hB) (by omega) (hV.frozen 0) (hV.frozen 1)]
        rfl
      have I:∀ty K sc,(Builtin.copy_ #[46,46] ty #[.slice (some ⟨g,i+1,none⟩) (n-i) K,.slice (some ⟨g,i,none⟩) (n+1-i) sc]).run prog w.drew=.ok (.int .i64 ((n-i:Nat):Int)) (w.drew.setCells g (i+1) ((l.drop i).map fun y=>.int .i64 y)):=fun ty K sc=>by
        have h:=run_copy_cells (P:=prog) w.drew 46 46 ty 3 g (i+1) (n-i) K ⟨g,i,none⟩ (n+1-i) sc ((l.drop i).map fun y=>Value.int .i64 y) underlying46 Ok (by rw[Z];simp only[Nat.min_def];split<;>omega)
          (fun j u c=>by rw[Addr.add_lit];exact q w.drew (fun _=>rfl) j u c) (fun j c=>by rw[hB.drew.cell,Array.getElem?_eq_getElem (by omega)];rfl) (fun j c=>hB.drew.frozen _) ag
        rw[Z]at h
        exact h
      obtain⟨W1,hW1⟩:=Zx (w.drew.setCells g (i+1) ((l.drop i).map fun y=>.int .i64 y))
      obtain⟨c1,b1,s1,_,C1⟩:=Y5 ((l.drop i).map fun y=>Value.int .i64 y) (i+1) w.drew ba hB.drew (by omega)
      rw[←hW1]at b1 C1
      have aw:=C1.blk (hV.drew) (fun e=>ae e.symm)
      have V:∀ty K,(Builtin.copy_ #[46,46] ty #[.slice (some ⟨g,i,none⟩) (n+1-i) K,.slice (some ⟨vb,0,none⟩) 1 1]).run prog W1=.ok (.int .i64 1) (W1.setCells g i [.int .i64 x]):=fun ty K=>
        run_copy_cells (P:=prog) W1 46 46 ty 3 g i (n+1-i) K ⟨vb,0,none⟩ 1 1 [Value.int .i64 x] underlying46 Ok (by simp only[Nat.min_def,List.length_cons,List.length_nil];split<;>omega)
          (fun j u c=>by
            cases j with
            |zero=>obtain rfl:=Option.some.inj c;exact Zv aw
            |succ j=>cases c)
          (fun j c=>by
            have:j=0:=by simpa using c
            subst this
            rw[b1.cell,Array.getElem?_eq_getElem (by omega)];rfl) (fun j c=>b1.frozen _) (fun u hu=>by
            obtain rfl:u=_:=by simpa using hu
            rfl)
      obtain⟨W2,hW2⟩:=Zx (W1.setCells g i [.int .i64 x])
      have FF:=O (J.out w.drew rfl)
      rw[←hW1,←hW2]at FF
      rw[←hW1]at I
      rw[←hW2]at V
      have e1:(((i:Int)==(n:Int)))=false:=by
        have:(i:Int)≠(n:Int):=by omega
        simpa using this
      have br:decide ((i:Int)=(n:Int))=false:=by
        have:(i:Int)≠(n:Int):=by omega
        simpa using this
      have bf:IntKind.i64.wrap ((n:Int)+1)=(n:Int)+1:=by rw[IntWalk.i64_in _ (by omega)]
      have bk:IntKind.i64.wrap ((i:Int)+1)=(i:Int)+1:=by rw[IntWalk.i64_in _ (by omega)]
      have bn:decide ((cap:Int)<(n:Int)+1)=false:=by simp;omega
      rw[←hn]
      have a9:i<n:=by omega
      have bg:n<1099511627776:=by omega
      have bj:(0:Int)≤(i:Int)+1:=by omega
      have bd:¬(cap=i+1):=by omega
      have bl:(i:Int)≤(n:Int)+1:=by omega
      have bq:¬(cap=i):=by omega
      have bo:((i:Int)+1).toNat=i+1:=by omega
      have a8:((n:Int)+1).toNat=n+1:=by omega
      have bi:(i:Int)+1≤(n:Int)+1:=by omega
      have bh:(n:Int)+1≤(cap:Int):=by omega
      clear hI hB al E d aa hV ab hl hi ao Jl ac aj ak Z ag q J hW1 hW2 b1 s1 C1 aw hn R ae
      go_enter func124,ntmps124
      go_wp2_with (simp only[bp])
      refine Qi [(0,0),(0,1),(0,2),(0,3),(0,4),(0,5),(0,6),(0,7),(2,8)] (by kernel_rfl) (by kernel_rfl) ?_ ?_
      · exact fun _ _ _ _ _ h=>h
      simp only[Zs,Zf,Ze,Zd]
      iterate 8 (refine Zz (by kernel_rfl) (by go_simp;try with_reducible rfl) ?_)
      refine Jj ?_
      go_wp2_with fail
      refine Zu ?_
      clear I
      go_wp2
      go_ret
      have F2:=FF.out
      rw[←HN.out]at F2
      exact⟨_,rfl,F2.1,F2.2.undrew.mono (fun k e=>.inl (by rw[e];rfl)),.inl rfl⟩
    ·
      obtain⟨i0,z0,ax,a1,ay,an,av⟩:=intT.hi
      obtain⟨r,hr⟩:=Zx (w.heap.size)
      obtain⟨G,hG⟩:=Zx (grownCap w (n+1) cap 3)
      have bc:n+1≤G:=by rw[hG];exact grownCap_ge _ _ _ _
      have aq:G≤maxLen:=by rw[hG];exact grownCap_le_maxLen _ _ _ _ (by simp only[maxLen];omega)
      obtain⟨z,U⟩:∃z:Array Value,z=((l.take i).map fun y=>Value.int .i64 y).toArray++Builtin.zeroCells z0.cells (n+1-i)++Builtin.zeroCells z0.cells (G-(n+1)):=⟨_,rfl⟩
      have ar:z0.cells.size=1:=by rw[av];rfl
      have a7:∀k,(Builtin.zeroCells z0.cells k).size=k:=fun k=>by simp[Builtin.zeroCells,ar]
      have az:z.size=G:=by
        rw[U]
        simp only[Array.size_append,a7,List.size_toArray,List.length_map,List.length_take]
        omega
      have ai:(Builtin.firstCells i0.size i (.slice (some ⟨g,0,none⟩) i cap)).run prog w.drew=.ok ((l.take i).map fun y=>Value.int .i64 y).toArray w.drew:=by
        rw[ay]
        refine run_firstCells_some w.drew 1 i ⟨g,0,none⟩ i cap ((l.take i).map fun y=>Value.int .i64 y) (by rw[List.length_map,List.length_take];omega) (fun j u c=>?_)
        rw[Addr.add_lit,Nat.zero_add]
        rw[List.getElem?_map,List.getElem?_take]at c
        split at c
        · cases hy:l[j]? with
          |none=>rw[hy]at c;cases c
          |some y=>
            rw[hy]at c
            obtain rfl:=Option.some.inj c
            rw[hB.drew.cell]
            exact E _ _ hy
        · cases c
      have am:∀ty,(Builtin.append_ #[46,3] ty #[.slice (some ⟨g,0,none⟩) i cap,.int .i64 ((n:Int)+1-(i:Int))]).run prog w=.ok (.slice (some ⟨r,0,none⟩) (n+1) G) (w.drew.alloc (.cells z 3)):=fun ty=>by
        have h:=Lib.run_append_grow_zeros (P:=prog) w 46 3 ty 3 i0 z0 .i64 .i64 underlying46 underlying3 ax a1 (some ⟨g,0,none⟩) i cap _ ai (n+1-i) (by omega) (by omega) (by omega) (by omega) (by rw[an];omega) (by rw[an,show i+(n+1-i)=n+1 by omega];exact growslice_fits (by omega) (by omega))
        rw[show i+(n+1-i)=n+1 by omega,show((n+1-i:Nat):Int)=(n:Int)+1-(i:Int) by omega,←hG,←U,←hr]at h
        exact h
      have au:∀(k:Nat)(y:Int),k<i→l[k]? =some y→z[k]? =some (.int .i64 y):=fun k y hk hy=>by
        have bt:((l.take i).map fun y=>Value.int .i64 y).toArray.size=i:=by simp;omega
        rw[U,Array.append_assoc,Array.getElem?_append_left (by omega)]
        simp only[Zf,List.getElem?_map,List.getElem?_take,if_pos hk,hy]
        rfl
      obtain⟨W0,af⟩:=Zx (w.drew.alloc (.cells z 3))
      have B0:Qh W0 r z 3:=by rw[af];exact Qh.new' _ _ hr
      have C0:Qc Qb w W0:=by rw[af];exact(Qc.refl Qb w).drew.alloc _
      rw[←af]at am
      have ap:=C0.blk hV (fun h=>h)
      have a0:=C0.blk hB (fun h=>h)
      have I:∀ty K,(Builtin.copy_ #[46,46] ty #[.slice (some ⟨r,i,none⟩) (n+1-i) K,.slice (some ⟨vb,0,none⟩) 1 1]).run prog W0=.ok (.int .i64 1) (W0.setCells r i [.int .i64 x]):=fun ty K=>
        run_copy_cells (P:=prog) W0 46 46 ty 3 r i (n+1-i) K ⟨vb,0,none⟩ 1 1 [Value.int .i64 x] underlying46 Ok (by simp only[Nat.min_def,List.length_cons,List.length_nil];split<;>omega)
          (fun j u c=>by
            cases j with
            |zero=>obtain rfl:=Option.some.inj c;exact Zv ap
            |succ j=>cases c)
          (fun j c=>by
            have:j=0:=by simpa using c
            subst this
            rw[B0.cell,Array.getElem?_eq_getElem (by omega)];rfl) (fun j c=>B0.frozen _) (fun u hu=>by
            obtain rfl:u=_:=by simpa using hu
            rfl)
      obtain⟨W1,hW1⟩:=Zx (W0.setCells r i [.int .i64 x])
      obtain⟨c1,b1,s1,_,C1⟩:=Y5 [Value.int .i64 x] i W0 z B0 (by simp only[List.length_cons,List.length_nil];omega)
      rw[←hW1]at b1 C1 I
      have bb:=C1.blk a0 (fun e=>by omega)
      have V:∀ty K sc,(Builtin.copy_ #[46,46] ty #[.slice (some ⟨r,i+1,none⟩) (n-i) K,.slice (some ⟨g,i,none⟩) (n-i) sc]).run prog W1.drew=.ok (.int .i64 ((n-i:Nat):Int)) (W1.drew.setCells r (i+1) ((l.drop i).map fun y=>.int .i64 y)):=fun ty K sc=>by
        have h:=run_copy_cells (P:=prog) W1.drew 46 46 ty 3 r (i+1) (n-i) K ⟨g,i,none⟩ (n-i) sc ((l.drop i).map fun y=>Value.int .i64 y) underlying46 Ok (by rw[Z];simp only[Nat.min_def];split<;>omega)
          (fun j u c=>by rw[Addr.add_lit];exact q W1.drew (fun k=>by rw[bb.drew.cell,hB.cell]) j u c) (fun j c=>by rw[b1.drew.cell,Array.getElem?_eq_getElem (by omega)];rfl) (fun j c=>b1.drew.frozen _) ag
        rw[Z]at h
        exact h
      have B:=Qys (w:=W0.drew) (i:=i) x Jl B0.drew az (by omega) aq (fun k y hk hy=>au k y hk hy)
      rw[←Qhv r [Value.int .i64 x] i W0,←hW1]at B
      obtain⟨W2,hW2⟩:=Zx (W1.drew.setCells r (i+1) ((l.drop i).map fun y=>.int .i64 y))
      rw[←hW2]at V B
      have FF:=O (And.intro B.1 (C0.trans B.2.undrew fun k e=>.inr (by omega):Qc Qb w W2))
      have HR:=O hr
      have e1:(((i:Int)==(n:Int)))=false:=by
        have:(i:Int)≠(n:Int):=by omega
        simpa using this
      have br:decide ((i:Int)=(n:Int))=false:=by
        have:(i:Int)≠(n:Int):=by omega
        simpa using this
      have bf:IntKind.i64.wrap ((n:Int)+1)=(n:Int)+1:=by rw[IntWalk.i64_in _ (by omega)]
      have bk:IntKind.i64.wrap ((i:Int)+1)=(i:Int)+1:=by rw[IntWalk.i64_in _ (by omega)]
      have bu:IntKind.i64.wrap ((n:Int)+1-(i:Int))=(n:Int)+1-(i:Int):=by rw[IntWalk.i64_in _ (by omega)]
      have bn:decide ((cap:Int)<(n:Int)+1)=true:=by simp;omega
      rw[←hn]
      have a9:i<n:=by omega
      have bg:n<1099511627776:=by omega
      have bj:(0:Int)≤(i:Int)+1:=by omega
      have bd:¬(G=i+1):=by omega
      have bl:(i:Int)≤(n:Int)+1:=by omega
      have bq:¬(G=i):=by omega
      have bs:¬(cap=i):=by omega
      have bo:((i:Int)+1).toNat=i+1:=by omega
      have a8:((n:Int)+1).toNat=n+1:=by omega
      have bi:(i:Int)+1≤(n:Int)+1:=by omega
      have bh:(i:Int)≤(cap:Int):=by omega
      have bv:(i:Int)≤(n:Int):=by omega
      clear hI hB al E d aa hV ab hl hi ao Jl ac aj ak Z ag q af hW1 hW2 b1 s1 C1 hn R ae ax a1 ay an av hr hG bc aq U ar a7 az ai au B0 C0 ap a0 bb B
      go_enter func124,ntmps124
      go_wp2_with (at_builtin;refine Lib.wpList_append_run _ rfl (.tmp 34) (.tmp 39) 46 3 rfl _ _ rfl rfl _ _ (am _) ?_)
      clear am
      go_wp2_with fail
      clear I
      refine Qi [(0,0),(0,1),(0,2),(0,3),(0,4),(0,5),(0,6),(0,7),(2,8)] (by kernel_rfl) (by kernel_rfl) ?_ ?_
      · exact fun _ _ _ _ _ h=>h
      simp only[Zs,Zf,Ze,Zd]
      iterate 5 (refine Zz (by kernel_rfl) (by go_simp;try with_reducible rfl) ?_)
      iterate 2 (refine Zz (by kernel_rfl) (by go_simp;try with_reducible rfl) ?_)
      refine Zz (by kernel_rfl) (by go_simp;try with_reducible rfl) ?_
      try simp only[Act.put,Za,Zc,Zb]
      refine Jj ?_
      go_wp2_with fail
      refine Zu ?_
      clear V
      go_wp2
      go_ret
      have F2:=FF.out
      rw[←HN.out]at F2
      exact⟨_,rfl,F2.1,F2.2.none,.inr ⟨_,rfl,Nat.le_of_eq HR.out.symm⟩⟩
section
variable{w:World}{F:Fp}{b:Nat}{h:Qm}
theorem Qoq{s:Xm}(h0:h.addE s≠0):h.add s=h:=by unfold Qm.add;rw[if_neg h0]
theorem Qu4(hh:Zt w F b h)(ok:Jd h){s:Xm}(h0:h.addE s=0):
  ∃ma mu,Qh w b #[.map (some ma),.map (some mu)] 92∧ma<w.heap.size∧mu<w.heap.size∧b≠ma∧b≠mu∧∀w3,Qc Qb w w3→
   ∃u,(Instr.mapUpdate 89 (.map (some ma)) (.int .i64 s.id) (.agg (Ei ⟨s,h.depth s.par⟩))).run prog w3.drew=.ok () u∧Qc (fun k=>k=ma) w3 u∧
   ∃v,(Instr.lookup 90 (.map (some mu)) (.int .i64 s.par) false).run prog u.drew=.ok v u.drew∧Zw u v (h.under s.par)∧(∀k,v.ownBlock=some k→k<w.heap.size∧k≠b∧k≠ma∧k≠mu)∧
   ∀i w5 w6 v',Uh s.id (h.under s.par) i i→Qc Qb u w5→Qc (fun k=>v.ownBlock=some k) w5 w6→Zw w6 v' ((h.under s.par).take i++s.id::(h.under s.par).drop i)→(v'.ownBlock=v.ownBlock∨∃k,v'.ownBlock=some k∧w5.heap.size≤k)→
    ∃B,(Instr.mapUpdate 90 (.map (some mu)) (.int .i64 s.par) v').run prog w6=.ok () B∧Zt B (Qn F w B) b (h.add s)∧Qc F w B:=by
 obtain⟨ma,mu,l,vs,G,hp,hn,ao,ah,z,fb,fm,fG,ag,I,ax,am,a4⟩:=hh.opn;have ac:=z.at_;obtain⟨_,_,ab,_⟩:=Vt h0;have af:=Qhg ab;refine⟨ma,mu,ao,ah.lt,z.map.lt,ax,fun e=>ag (e▸ac),fun w3 U=>?_⟩;obtain⟨u,r4,a0,c4⟩:=J9 (P:=prog) ((ah.keep U (fun h=>h)).keep (Qc.refl Qb w3).drew (fun h=>h)) underlying89 underlying3 s.id (.agg (Ei ⟨s,h.depth s.par⟩));have R:Qc (fun k=>k=ma) w3 u:=c4.undrew;refine⟨u,r4,R,?_⟩;have V:=(z.keep U (Je.none G)).keep R (fun k d e=>I (e▸d));obtain⟨v,hr,hI,hv⟩:=(V.keep (Qc.refl Qb u).drew (Je.none G)).look s.par;have aq:Zw u v (h.under s.par):=hI;have q:∀k,v.ownBlock=some k→(s.par,v)∈vs∧G k∧k≠mu:=fun k d=>by
  rcases hv with⟨e,_⟩|hv;·rw[e]at d;cases d
  ·exact⟨hv,z.own _ hv k d⟩
 refine⟨v,hr,aq,fun k d=>?_,fun i w5 w6 v' ap E K al ae=>?_⟩;·obtain⟨_,h1,h2⟩:=q k d;exact⟨am k (fG k h1),fun e=>ag (e▸h1),fun e=>I (e▸h1),h2⟩
 ·have aw:=(V.map.keep E (fun h=>h)).keep K (fun d=>(q mu d).2.2 rfl);obtain⟨B,r7,ar,J⟩:=J9 (P:=prog) aw underlying90 underlying3 s.par v';refine⟨B,r7,?_⟩;have a3:(fun k=>Qm.under (h.add s) k)=fun k=>if s.par=k then Qci s.id (h.under k)else h.under k:=funext fun k=>by rw[Qdo h0];exact Qdj ⟨s,h.depth s.par⟩ k ok.sorted
  have aa:∀k,(h.add s).under k=if s.par=k then Qci s.id (h.under k)else h.under k:=fun k=>congrFun a3 k;have au:s.id∉h.under s.par:=fun hx=>by obtain⟨c,hc,e,_⟩:=Qac hx;exact af c hc e
  have aj:(h.add s).under s.par=(h.under s.par).take i++s.id::(h.under s.par).drop i:=by rw[aa,if_pos rfl,Qsi ap au]
  have s5:=E.size;have s6:=K.size;have s7:=J.size;have ak:∀k,v'.ownBlock=some k→k<w6.heap.size:=al.lt;have ay:Zw B v' ((h.add s).under s.par):=by
   rw[aj];refine al.keep J fun k d e=>?_;rcases ae with Z|⟨k2,Z,h2⟩;·rw[Z]at d;exact(q k d).2.2 e
   ·rw[Z]at d;have e3:k2=k:=Option.some.inj d;have:=V.map.lt;omega
  have a1:Qc (fun k=>k=mu∨v.ownBlock=some k) u B:=((E.none.trans' (K.mono fun k d=>.inl (.inr d))).trans J fun k d=>.inl (.inl d));obtain⟨a2,az⟩:=V.put (i:=s.par) (v':=v') (fun k d=>by rw[aa,if_neg (fun e=>d e.symm)]) ay (fun k d=>by
   rcases ae with Z|⟨k2,Z,h2⟩;·rw[Z]at d;exact .inl ⟨v,(q k d).1,d⟩
   ·rw[Z]at d;have e3:k2=k:=Option.some.inj d;have h3:=ak k (by rw[Z,e3]);exact .inr ⟨by omega,by omega⟩) ar a1 (fun k d=>d.imp id fun d=>⟨v,(q k d).1,d⟩)
  have cA:Qc (fun k=>k=ma∨G k) w B:=(U.none.trans' (R.mono fun k d=>.inl (.inl d))).trans' (az.sub fun k d=>.inr d);have an:Bd G w:=z.bd;refine a4 B (l++[⟨s,h.depth s.par⟩]) _ _ ?_ ?_ (a2.later (w:=w) (Nat.le_trans U.size R.size) ?_) cA;·rw[Qdo h0];exact(hp.append_right _).trans (Gi _ h).symm
  ·have ai:=((a0.keep E (fun h=>h)).keep K (fun d=>by obtain⟨_,h1,_⟩:=q ma d;exact I h1)).keep J (fun e=>I (e▸ac));rw[Om (fun p av=>by
    obtain⟨x,hx,rfl⟩:=List.mem_map.1 av;exact af x (hp.mem_iff.1 hx))]at ai
   have:V7 (l++[⟨s,h.depth s.par⟩])=V7 l++[(s.id,.agg (Ei ⟨s,h.depth s.par⟩))]:=by unfold V7;rw[List.map_append];rfl
   rw[this];exact ai
  ·exact fun k d=>d.elim (fun d=>Nat.lt_of_lt_of_le (an k d) cA.size) (fun d=>d.2)
theorem Qhw(h:Qm)(s:Xm):h.addE s=if s.mayE≠0 then 130 else if 64≤h.length then 4 else if(h.at s.id).isSome then 80 else if h.depth s.par=0 then 160 else 0:=rfl
end
section
variable{w:World}{F:Fp}{b:Nat}{h:Qm}
theorem Qh.inj{w:World}{g:Nat}{cs cs':Array Value}{t c:TypeId}(h:Qh w g cs t)(h':Qh w g cs' c):cs=cs':=by unfold Qh at h h';rw[h]at h';injection h' with h';injection h' with h'
theorem Qu5(hh:Zt w F b h)(ok:Jd h)(s:Xm):
  Cl 68 #[ptr b,spV s] w fun e w'=>e=.returned (.int .i64 (h.addE s))∧Zt w' (Qn F w w') b (h.add s)∧Qc F w w':=by
 have ac:=O (fun w'(c:Qc Qb w w')=>Zt.obj.keep hh c (Je.none F));have Z:Hid (∀w',Qc Qb w w'→h.addE s≠0→Zt w' (Qn F w w') b (h.add s)∧Qc F w w'):=O (fun w' c h0=>by rw[Qoq h0];exact Zt.obj.same hh c);obtain⟨W,hW⟩:=Zx (w.alloc (.cells #[.int .i64 s.id,.int .i64 s.par,.bool s.leaf,.int .u64 (s.real.f:Int),.int .u64 (s.real.l:Int),.int .u64 (s.real.r:Int),.int .u64 (s.share.f:Int),.int .u64 (s.share.l:Int),.int .u64 (s.share.r:Int),.int .u64 (s.upper.f:Int),.int .u64 (s.upper.l:Int),.int .u64 (s.upper.r:Int),.int .i64 s.pk,.int .i64 s.bt] 40));have S0:Hid (J0 W w.heap.size s):=O (by rw[hW];exact J0.new w s);have C0:Hid (Qc Qb w W):=O (by rw[hW];exact(Qc.refl _ _).alloc _);have HN:=O (O2 (ac.out W C0.out));have R:=O (fun w=>Qjo s w);obtain⟨a0,a1,a2,a3,a4,a5,a6,a7,a8,a9,ap,aj,ak,an⟩:=(show J0 (w.alloc _) _ _ from hW▸S0.out).cells;by_cases hm:s.mayE=0
 ·have U:h.addE s=if 64≤h.length then 4 else if(h.at s.id).isSome then 80 else if h.depth s.par=0 then 160 else 0:=by rw[Qhw,if_neg (by omega)]
  have HD:=O (fun w'(c:Qc Qb w w')=>Qn1 (ac.out w' c) s.par);obtain⟨ma,mu,l,vs,G,hp,hn,am,ah,bn,fb,fm,fG,bq,bk,bt,bj,_⟩:=hh.opn;have V:=O am;have LK:=O (fun(w':World)(cc:Qc Qb w w')=>show(Instr.lookup 89 (.map (some ma)) (.int .i64 s.id) true).run prog w'=.ok (.tuple #[.agg (Ei (h.get s.id)),.bool (h.at s.id).isSome]) w' by
   have hL:=Up (P:=prog) (ah.keep cc (fun h=>h)) underlying89 underlying3 (Ej w') s.id;rw[Gg s.id l hn,←Qm.at_perm hp hn]at hL;rw[hL];unfold Qm.get;cases h.at s.id<;>rfl)
  have aw:=O (fun(w':World)(cc:Qc Qb w w')=>show(Builtin.len_ #[89] 3 #[.map (some ma)]).run prog w'=.ok (.int .i64 (h.length:Int)) w' by
   have hL:=Qxs (P:=prog) (ah.keep cc (fun h=>h)) underlying89 3;have e:(V7 l).length=h.length:=by unfold V7;rw[List.length_map,hp.length_eq]
   rw[e]at hL;exact hL)
  have q:Hid (h.addE s=0→ma<w.heap.size∧mu<w.heap.size∧b≠ma∧b≠mu∧∀w3,Qc Qb w w3→
   ∃u,(Instr.mapUpdate 89 (.map (some ma)) (.int .i64 s.id) (.agg (Ei ⟨s,h.depth s.par⟩))).run prog w3.drew=.ok () u∧Qc (fun k=>k=ma) w3 u∧
   ∃v,(Instr.lookup 90 (.map (some mu)) (.int .i64 s.par) false).run prog u.drew=.ok v u.drew∧Zw u v (h.under s.par)∧(∀k,v.ownBlock=some k→k<w.heap.size∧k≠b∧k≠ma∧k≠mu)∧
   ∀i w5 w6 v',Uh s.id (h.under s.par) i i→Qc Qb u w5→Qc (fun k=>v.ownBlock=some k) w5 w6→Zw w6 v' ((h.under s.par).take i++s.id::(h.under s.par).drop i)→(v'.ownBlock=v.ownBlock∨∃k,v'.ownBlock=some k∧w5.heap.size≤k)→
    ∃w7,(Instr.mapUpdate 90 (.map (some mu)) (.int .i64 s.par) v').run prog w6=.ok () w7∧Zt w7 (Qn F w w7) b (h.add s)∧Qc F w w7):=O (fun h0=>by
   obtain⟨bl,bi,bu,k1,k2,k3,k4,k5⟩:=Qu4 hh ok h0;have e:=am.inj bu;injection e with e;injection e with e1 e2;injection e1 with e1;injection e2 with e2 _;injection e2 with e2;have e1:ma=bl:=Option.some.inj e1;have e2:mu=bi:=Option.some.inj e2;subst e1;subst e2;exact⟨k1,k2,k3,k4,k5⟩)
  have ag:=O (Le ok.sorted s.par);have aa:=O (show(h.under s.par).length≤64 from by
   have:(h.under s.par).length≤h.length:=by unfold Qm.under;rw[List.length_map];exact List.length_filter_le _ _
   have:=ok.many;omega)
  have Gk:decide (s.mayE=0)=true:=by simpa using hm
  have bg:(s.mayE==0)=true:=by simpa using hm
  obtain⟨c,hc⟩:=Zx (h.get s.id);rw[←hc]at LK;obtain⟨bm,av⟩:=Zx ((h.at s.id).isSome);rw[←av]at LK U;obtain⟨n,az⟩:=Zx (h.length);rw[←az]at aw U;obtain⟨d,ao⟩:=Zx (h.depth s.par);rw[←ao]at HD q U;have bx:Hid (d≤8):=O (by
   rw[ao];unfold Qm.depth;split;·omega
   ·split;·omega
    ·split;·omega
     ·rename_i hx;simp only[Bool.or_eq_true,decide_eq_true_eq,not_or]at hx;omega)
  have HE:=O U;rw[hm]at R;unfold spV ptr at*;clear hh ok U hm am ah bn hp hn fb fm fG bq bk bt bj hc av az ao Gk bg;go_enter func68,ntmps68;go_wp2_with fail;rw[←hW]at a0 a1 a2 a3 a4 a5 a6 a7 a8 a9 ap aj ak an⊢;clear hW;refine HN.out.mono ?_;rintro e w1⟨rfl,rfl⟩;go_wp2_with fail;refine(R.out _).mono ?_;rintro e w1⟨rfl,c1⟩;have C1:=O (C0.out.trans' c1);have S1:=O (S0.out.keep c1);have b3:=O (show w.heap.size<w1.heap.size from Nat.lt_of_lt_of_le (Qh.lt S0.out) c1.size);clear c1 a0 a1 a2 a3 a4 a5 a6 a7 a8 a9 ap aj ak an;go_wp2_with fail;refine Z9 [(1,0),(1,1),(1,2),(1,3),(1,4),(1,5),(1,6),(1,7),(1,8),(1,9),(2,10),(2,11),(3,12)] (fun B=>Qc (Qb) (w1) B) (by kernel_rfl) (by kernel_rfl) ?_ (by(repeat' (first|(with_reducible first|exact Zg _ _|assumption|refine Zh ?_ _|refine Zi ?_ _|refine Zj ?_ |refine Zk ?_ _ ?_ |(apply Or.inl;rfl))|(apply Or.inl;simp;done)|(apply Or.inr;simp;first|done|omega)))) ?_;·exact fun _ _ _ _ _ h=>h
  simp only[Zs,Zf,Ze,Zd];iterate 3 (refine Q4 (by kernel_rfl) (fun B I=>by go_simp;try with_reducible rfl) ?_;try simp only[Act.put,Za,Zc,Zb])
  iterate 1 (refine Q4 (by kernel_rfl) (fun B I=>by(obtain⟨z0,z1⟩:=Qz (I.blk (C1.out.blk V.out (fun h=>h)) (fun h=>h)));go_simp;try with_reducible rfl) ?_;try simp only[Act.put,Za,Zc,Zb])
  (refine Q4 (by kernel_rfl) (fun B I=>by go_simp;try with_reducible rfl) ?_;try simp only[Act.put,Za,Zc,Zb]);iterate 2 (refine Q4 (by kernel_rfl) (fun B I=>by(obtain⟨z0,_⟩:=(show J0 B w.heap.size s from S1.out.keep I).cells;have lk:=LK.out B (C1.out.trans' I));go_simp;try with_reducible rfl) ?_;try simp only[Act.put,Za,Zc,Zb])
  iterate 3 (refine Q4 (by kernel_rfl) (fun B I=>by go_simp;try with_reducible rfl) ?_;try simp only[Act.put,Za,Zc,Zb])
  refine Yc ?_;go_wp2_with fail;refine⟨((Qc.refl Qb w1).alloc _).drew,?_⟩;have ar:Qh (w1.alloc (.cells #[.int .i64 0,.int .i64 0,.bool false,.int .u64 0,.int .u64 0,.int .u64 0,.int .u64 0,.int .u64 0,.int .u64 0,.int .u64 0,.int .u64 0,.int .u64 0,.int .i64 0,.int .i64 0,.int .i64 0] 87)).drew w1.heap.size #[.int .i64 0,.int .i64 0,.bool false,.int .u64 0,.int .u64 0,.int .u64 0,.int .u64 0,.int .u64 0,.int .u64 0,.int .u64 0,.int .u64 0,.int .u64 0,.int .i64 0,.int .i64 0,.int .i64 0] 87:=(Qh.new _ _ _).drew;have D1:Qc Qb w1 (w1.alloc (.cells #[.int .i64 0,.int .i64 0,.bool false,.int .u64 0,.int .u64 0,.int .u64 0,.int .u64 0,.int .u64 0,.int .u64 0,.int .u64 0,.int .u64 0,.int .u64 0,.int .i64 0,.int .i64 0,.int .i64 0] 87)).drew:=((Qc.refl Qb w1).alloc _).drew;generalize(w1.alloc (.cells #[.int .i64 0,.int .i64 0,.bool false,.int .u64 0,.int .u64 0,.int .u64 0,.int .u64 0,.int .u64 0,.int .u64 0,.int .u64 0,.int .u64 0,.int .u64 0,.int .i64 0,.int .i64 0,.int .i64 0] 87)).drew=W1 at ar D1⊢;obtain⟨W2,s2,bs,C2⟩:=Z1 (P:=prog) (vs:=Ei c) ar rfl (Qab c);have aq:Qc Qb w1 W2:=D1.trans C2 (fun k e=>.inr (by omega));have J:=O aq;have ax:=O (C1.out.trans' aq);clear ar D1 bs C2 aq;refine Yc ?_;go_wp2_with fail;refine⟨J.out,?_⟩;refine V5 ?_;go_wp2_with fail;refine K8 ?_;clear s2;have bo:=(show J0 W2 w.heap.size s from S1.out.keep J.out).cells.2.1;go_wp2_with fail;refine(HD.out W2 ax.out).mono ?_;rintro e w3⟨rfl,c3⟩;have C3:=O (ax.out.trans' c3);have S3:=O ((S1.out.keep J.out).keep c3);clear c3 bo;obtain⟨b0,b1⟩:=Qz (C3.out.blk V.out (fun h=>h));have bf:=aw.out w3 C3.out;by_cases hn:64≤n
  ·have bh:decide (64≤(n:Int))=true:=by simp;omega
   have E:=O (show h.addE s=4 by rw[HE.out,if_pos hn]);have z:=O (Z.out w3 C3.out (by rw[E.out];decide));clear hn HE q Z;go_wp2_with fail;go_ret;exact⟨by rw[E.out];rfl,z.out⟩
  ·have bh:decide (64≤(n:Int))=false:=by simp;omega
   cases bm with
   |true=> have E:=O (show h.addE s=80 by rw[HE.out,if_neg hn,if_pos rfl]);have z:=O (Z.out w3 C3.out (by rw[E.out];decide));clear hn HE q Z;go_wp2_with fail;go_ret;exact⟨by rw[E.out];rfl,z.out⟩
   |false=>
    by_cases hd:d=0;·have E:=O (show h.addE s=160 by rw[HE.out,if_neg hn,if_neg (by decide),if_pos hd]);have z:=O (Z.out w3 C3.out (by rw[E.out];decide));subst hd;clear hn HE q Z;go_wp2_with fail;go_ret;exact⟨by rw[E.out];rfl,z.out⟩
    ·have E:=O (show h.addE s=0 by rw[HE.out,if_neg hn,if_neg (by decide),if_neg hd]);have b4:decide ((d:Int)=0)=false:=by simp;omega
     have bz:((d:Int)==0)=false:=by simp;omega
     obtain⟨k1,k2,k3,k4,k5⟩:=q.out E.out;obtain⟨u,r4,c4,v,r5,bb,ba,k6⟩:=k5 w3 C3.out;have K:=O (And.intro k1 (And.intro k2 (And.intro k3 k4)));have C4:=O c4;have bc:=O bb;have af:=O ba;have K6:=O k6;have S4:=O (c4.blk S3.out (fun e=>by
      have:=K.out.1;omega))
     have au:=O (c4.blk (C3.out.blk V.out (fun h=>h)) K.out.2.2.1);clear hn HE q Z k1 k2 k3 k4 k5 k6 c4 bb ba;go_wp2_with fail;clear b0 b1 bf;obtain⟨e0,e1⟩:=Qz ((C3.out.blk V.out (fun h=>h)).drew);obtain⟨g0,g1,g2,g3,g4,g5,g6,g7,g8,g9,br,bp,bw,bv⟩:=(show J0 w3.drew w.heap.size s from S3.out.keep (Qc.refl Qb w3).drew).cells;unfold Ei at r4;dsimp only at r4;refine Qi [(0,0),(0,1),(0,2),(0,3),(0,4),(0,5),(0,6),(0,7),(0,8),(2,9)] (by kernel_rfl) (by kernel_rfl) ?_ ?_;·exact fun _ _ _ _ _ h=>h
     simp only[Zs,Zf,Ze,Zd];iterate 9 (refine Zz (by kernel_rfl) (by go_simp;try with_reducible rfl) ?_)
     clear e0 e1 g0 g1 g2 g3 g4 g5 g6 g7 g8 g9 br bp bw bv;refine Jj ?_;go_wp2_with fail;refine Zu ?_;clear r4;go_wp2_with fail;obtain⟨e0,e1⟩:=Qz au.out.drew;obtain⟨_,g1,_⟩:=(show J0 u.drew w.heap.size s from J0.keep S4.out (Qc.refl Qb u).drew).cells;refine Qi [(0,0),(0,1),(0,2),(0,3),(0,4),(0,5),(0,6),(2,7)] (by kernel_rfl) (by kernel_rfl) ?_ ?_;·exact fun _ _ _ _ _ h=>h
     simp only[Zs,Zf,Ze,Zd];iterate 7 (refine Zz (by kernel_rfl) (by go_simp;try with_reducible rfl) ?_)
     clear e0 e1 g1;refine Jj ?_;go_wp2_with fail;refine Zu ?_;clear r5;obtain⟨g0,_⟩:=(show J0 u.drew w.heap.size s from J0.keep S4.out (Qc.refl Qb u).drew).cells;go_wp2_with fail;refine(Qui (Zw.keep bc.out (Qc.refl Qb u).drew (fun _ _ h=>h)) (ag.out.imp fun h=>Int.le_of_lt h) (by have:=aa.out;omega) s.id).mono ?_;rintro e w5⟨i,fb,rfl,rfl,be⟩;have bd:=O be;clear be;go_wp2_with fail;clear g0;have NE:=O (fun k hk=>(af.out k hk).2.1);obtain⟨g0,_⟩:=(show J0 u.drew.drew w.heap.size s from J0.keep S4.out (Qc.refl Qb u).drew.drew).cells;obtain⟨e0,e1⟩:=Qz au.out.drew.drew;refine Z9 [(1,0),(1,1),(1,2),(1,3),(1,4),(1,5),(1,6),(1,7),(0,8),(0,9),(2,10),(2,11),(3,12)] (fun B=>Qc (fun k=>v.ownBlock=some k) (u) B) (by kernel_rfl) (by kernel_rfl) ?_ (by(repeat' (first|(with_reducible first|exact Zg _ _|assumption|refine Zh ?_ _|refine Zi ?_ _|refine Zj ?_ |refine Zk ?_ _ ?_ |(apply Or.inl;rfl))|(apply Or.inl;simp;done)|(apply Or.inr;simp;first|done|omega)))) ?_;·exact fun _ _ _ _ _ h=>h
     simp only[Zs,Zf,Ze,Zd];iterate 3 (refine Q4 (by kernel_rfl) (fun B I=>by go_simp;try with_reducible rfl) ?_;try simp only[Act.put,Za,Zc,Zb])
     iterate 1 (refine Q4 (by kernel_rfl) (fun B I=>by(obtain⟨z0,z1⟩:=Qz (I.blk au.out (fun h=>NE.out _ h rfl)));go_simp;try with_reducible rfl) ?_;try simp only[Act.put,Za,Zc,Zb])
     (refine Q4 (by kernel_rfl) (fun B I=>by go_simp;try with_reducible rfl) ?_;try simp only[Act.put,Za,Zc,Zb]);iterate 1 (refine Q4 (by kernel_rfl) (fun B I=>by(obtain⟨_,z1,_⟩:=(show J0 B w.heap.size s from I.blk S4.out (fun h=>by have:=(af.out _ h).1;omega)).cells);go_simp;try with_reducible rfl) ?_;try simp only[Act.put,Za,Zc,Zb])
     iterate 2 (refine Q4 (by kernel_rfl) (fun B I=>by go_simp;try with_reducible rfl) ?_;try simp only[Act.put,Za,Zc,Zb])
     iterate 2 (refine Jr (by kernel_rfl) (by go_simp;try with_reducible rfl) ?_)
     clear e0 e1 g0;refine Yc ?_;go_wp2_with fail;refine⟨(Qc.refl _ u).drew.drew.alloc _,?_⟩;have hV:Qh ((u.alloc (.cells #[.int .i64 s.id] 3)).drew.drew) u.heap.size #[.int .i64 s.id] 3:=(Qh.new _ _ _).drew.drew;have ai:Qc Qb u ((u.alloc (.cells #[.int .i64 s.id] 3)).drew.drew):=((Qc.refl _ u).alloc _).drew.drew;generalize(u.alloc (.cells #[.int .i64 s.id] 3)).drew.drew=w5 at hV ai⊢;have al:=O ai;have HV:=O hV;clear hV ai;refine Yc ?_;go_wp2_with fail;refine(Qrm (Zw.keep bc.out al.out (fun _ _ h=>h)) (by have:=aa.out;omega) i bd.out.len s.id HV.out (fun k hk e=>by
      have h1:=(af.out k hk).1;have h2:=C3.out.size;have h3:=C4.out.size;omega)).mono ?_
     rintro e w6⟨v',rfl,ay,c6,ho⟩;obtain⟨w7,r7,ae,ab⟩:=K6.out i w5 w6 v' bd.out al.out c6 ay ho;have z:=O (And.intro ae ab);have C6:=O (al.out.none.trans' c6);clear ay c6 ho ae ab;go_wp2_with fail;refine⟨C6.out,?_⟩;refine V5 ?_;go_wp2_with fail;refine K8 ?_;clear r7;go_wp2;go_ret;exact⟨by rw[E.out];rfl,z.out⟩
 ·have U:h.addE s=130:=by rw[Qhw,if_pos hm]
  have hd:decide (s.mayE=0)=false:=by simpa using hm
  have b2:(s.mayE==0)=false:=by simpa using hm
  rw[U];rw[U]at Z;unfold spV ptr at*;clear hh ok U hm;go_enter func68,ntmps68;go_wp2_with fail;rw[←hW]at a0 a1 a2 a3 a4 a5 a6 a7 a8 a9 ap aj ak an⊢;clear hW;refine HN.out.mono ?_;rintro e w1⟨rfl,rfl⟩;go_wp2_with fail;refine(R.out _).mono ?_;rintro e w1⟨rfl,c1⟩;have z:=O (Z.out w1 (C0.out.trans' c1) (by decide));clear c1;go_wp2_with fail;go_ret;exact⟨rfl,z.out⟩
end
theorem Qrn:prog.eqGuardType prog.depth 87=false:=by kernel_rfl
theorem Qxi:prog.stoodInHeld 87=false:=by kernel_rfl
theorem Qro:prog.eqGuardType prog.depth 40=false:=by kernel_rfl
theorem Qxj:prog.stoodInHeld 40=false:=by kernel_rfl
theorem Qrp:prog.eqGuardType prog.depth 38=false:=by kernel_rfl
theorem Qxk:prog.stoodInHeld 38=false:=by kernel_rfl
section
attribute [local go_sem] Qrn Qxi Qro Qxj Qrp Qxk
@[irreducible]def Qxl(z u J R V Z K B I s1 s2 s3 q d U k E c:Int):Bool:=!(z==s1&&(u==s2&&(J==s3&&(R==q&&(V==d&&(Z==U&&(K==k&&(B==E&&I==c))))))))
theorem Qrq{B z K R k Z V E J s1 s2 s3 u d U q I c:Int}(h:Qxl B z K R k Z V E J s1 s2 s3 u d U q I c=false):B=s1∧z=s2∧K=s3∧R=u∧k=d∧Z=U∧V=q∧E=I∧J=c:=by unfold Qxl at h;simpa using h
theorem Qrr(i p k t d R K U r4 r5 r6 r7 r8 I s1 s2 s3 J Z s6 s7 s8 V:Int)(b:Bool)(w:World):
  (binOp .neq 87 (.agg #[.int .i64 i,.int .i64 p,.bool b,.int .u64 R,.int .u64 K,.int .u64 U,.int .u64 r4,.int .u64 r5,.int .u64 r6,.int .u64 r7,.int .u64 r8,.int .u64 I,.int .i64 k,.int .i64 t,.int .i64 d]) (.agg #[.int .i64 i,.int .i64 p,.bool b,.int .u64 s1,.int .u64 s2,.int .u64 s3,.int .u64 J,.int .u64 Z,.int .u64 s6,.int .u64 s7,.int .u64 s8,.int .u64 V,.int .i64 k,.int .i64 t,.int .i64 d])).run prog w=
   .ok (.bool (Qxl R K U r4 r5 r6 r7 r8 I s1 s2 s3 J Z s6 s7 s8 V)) w:=by
 unfold Qxl;go_simp;by_cases h1:R=s1;case neg=>simp[h1]
 by_cases c:K=s2;case neg=>simp[h1,c]
 by_cases q:U=s3;case neg=>simp[h1,c,q]
 by_cases u:r4=J;case neg=>simp[h1,c,q,u]
 by_cases z:r5=Z;case neg=>simp[h1,c,q,u,z]
 by_cases B:r6=s6;case neg=>simp[h1,c,q,u,z,B]
 by_cases E:r7=s7;case neg=>simp[h1,c,q,u,z,B,E]
 by_cases h8:r8=s8;case neg=>simp[h1,c,q,u,z,B,E,h8]
 by_cases h9:I=V;case neg=>simp[h1,c,q,u,z,B,E,h8,h9]
 simp[h1,c,q,u,z,B,E,h8,h9]
end
def Qj2(a b:Z6):Bool:=(a.f:Int)==(b.f:Int)&&((a.l:Int)==(b.l:Int)&&(a.r:Int)==(b.r:Int))
theorem Qbp{a b:Z6}(h:Qj2 a b=true):a=b:=by obtain⟨a1,k,d⟩:=a;obtain⟨b1,b2,c⟩:=b;unfold Qj2 at h;simp only[Bool.and_eq_true,beq_iff_eq]at h;obtain⟨h1,q,u⟩:=h;congr 1<;>omega
def Qlp(a s:Xm):Bool:=Qj2 a.real s.real&&(Qj2 a.share s.share&&Qj2 a.upper s.upper)
theorem Qor{a s:Xm}(h:Qlp a s=true):a.renew s=a:=by unfold Qlp at h;simp only[Bool.and_eq_true]at h;obtain⟨h1,d,c⟩:=h;unfold Xm.renew;rw[←Qbp h1,←Qbp d,←Qbp c]
section
variable{w:World}{F:Fp}{b:Nat}{h:Qm}
theorem Qeo{s:Xm}(h0:h.changeE s≠0):h.change s=h:=by unfold Qm.change;rw[if_neg h0]
theorem Qos{s:Xm}{c:Kk}(ok:Jd h)(hc:h.at s.id=some c)(k:Qlp c.sp s=true):h.change s=h:=by
 unfold Qm.change;split
 ·have:∀x∈h,(if x.sp.id=s.id then(⟨x.sp.renew s,x.d⟩:Kk)else x)=x:=fun x d=>by
   split;·rename_i e;have h1:=Dq ok.sorted d;rw[e,hc]at h1;obtain rfl:=Option.some.inj h1;rw[Qor k]
   ·rfl
  calc h.map (fun x=>if x.sp.id=s.id then(⟨x.sp.renew s,x.d⟩:Kk)else x)=h.map id:=List.map_congr_left this
   _=h:=List.map_id h
 ·rfl
theorem Qu6{l:List Kk}{c:Kk}(i:Int)(hn:(l.map Kk.id).Nodup)(q:∃x∈l,x.sp.id=c.sp.id):Ht c.sp.id (.agg (Ei c)) (V7 l)=V7 (l.map fun x=>if x.sp.id=c.sp.id then c else x):=by
 induction l with
 |nil=>obtain⟨x,d,_⟩:=q;cases d
 |cons y l z=>
  simp only[List.map_cons,List.nodup_cons]at hn;show Ht c.sp.id (.agg (Ei c)) ((y.sp.id,.agg (Ei y))::V7 l)=_;rw[Ht];by_cases e:y.sp.id=c.sp.id
  ·rw[if_pos e.symm];have:l.map (fun x=>if x.sp.id=c.sp.id then c else x)=l:=by
    have:∀x∈l,(if x.sp.id=c.sp.id then c else x)=x:=fun x d=>if_neg fun k=>hn.1 (List.mem_map.2 ⟨x,d,k.trans e.symm⟩)
    calc l.map (fun x=>if x.sp.id=c.sp.id then c else x)=l.map id:=List.map_congr_left this
     _=l:=List.map_id l
   rw[List.map_cons,this,if_pos e];rfl
  ·rw[if_neg (fun u=>e u.symm),List.map_cons,if_neg e,z hn.2 (by
    obtain⟨x,d,k⟩:=q;rcases List.mem_cons.1 d with rfl|d;·exact absurd k e
    ·exact⟨x,d,k⟩)]
   rfl
theorem Qlq(hh:Zt w F b h){s:Xm}(h0:h.changeE s=0){c:Kk}(hc:h.at s.id=some c):
  ∃ma mu,Qh w b #[.map (some ma),.map (some mu)] 92∧∀w3,Qc Qb w w3→
   ∃q,(Instr.mapUpdate 89 (.map (some ma)) (.int .i64 s.id) (.agg (Ei ⟨c.sp.renew s,c.d⟩))).run prog w3=.ok () q∧Zt q (Qn F w q) b (h.change s)∧Qc F w q:=by
 obtain⟨ma,mu,l,vs,G,hp,hn,U,aa,E,fb,fm,fG,ae,R,af,ac,ab⟩:=hh.opn;refine⟨ma,mu,U,fun w3 u=>?_⟩;obtain⟨q,r4,I,J⟩:=J9 (P:=prog) (aa.keep u (fun h=>h)) underlying89 underlying3 s.id (.agg (Ei ⟨c.sp.renew s,c.d⟩));refine⟨q,r4,?_⟩;obtain⟨Z,B⟩:=Qm.at_mem hc;have V:=((E.keep u (Je.none G)).keep J (fun k d e=>R (e▸d))).same (h':=h.change s) (fun i=>by
  unfold Qm.change;rw[if_pos h0];exact Qei h s i)
 have cA:Qc (fun k=>k=ma∨G k) w q:=u.none.trans' (J.mono fun k d=>.inl (.inl d));have z:c∈l:=hp.mem_iff.2 Z;have K:Bd G w:=E.bd;refine ab q (l.map fun x=>if x.sp.id=s.id then⟨x.sp.renew s,x.d⟩else x) vs _ ?_ ?_ ((Ya.good mu vs _).more V (fun k d=>.inl d) (fun k d=>d.elim (fun d=>Nat.lt_of_lt_of_le (K k d) cA.size) (fun d=>d.2))) cA;·unfold Qm.change;rw[if_pos h0];exact hp.map _
 ·have e1:s.id=(⟨c.sp.renew s,c.d⟩:Kk).sp.id:=B.symm;have e2:=Qu6 (c:=⟨c.sp.renew s,c.d⟩) s.id hn ⟨c,z,rfl⟩;rw[←e1]at e2;rw[e2]at I;have e3:(l.map fun x=>if x.sp.id=s.id then(⟨c.sp.renew s,c.d⟩:Kk)else x)=l.map fun x=>if x.sp.id=s.id then⟨x.sp.renew s,x.d⟩else x:=by
   refine List.map_congr_left fun x hx=>?_;split
   ·rename_i e;have:x=c:=by have h1:=Gs (key:=Kk.id) hn hx e;have h2:=Gs (key:=Kk.id) hn z B;exact Option.some.inj (h1.symm.trans h2)
    rw[this]
   ·rfl
  rw[←e3];exact I
end
end
section
attribute [local go_sem] Qq
attribute [local go_sem ↓] Qrr
attribute [local irreducible] Y4 Jm Jw
section
variable{w:World}{F:Fp}{b:Nat}{h:Qm}
theorem Qj3(h:Qm){i:Int}{c:Kk}(hc:h.at i=some c):h.get i=c:=by unfold Qm.get;rw[hc];rfl
theorem Qlr(hh:Zt w F b h)(ok:Jd h)(s:Xm):
  Cl 108 #[ptr b,spV s] w fun e w'=>e=.returned (.int .i64 (h.changeE s))∧Zt w' (Qn F w w') b (h.change s)∧Qc F w w':=by
 have a0:=O (fun w'(c:Qc Qb w w')=>Zt.obj.keep hh c (Je.none F));have NO:Hid (∀w',Qc Qb w w'→h.changeE s≠0→Zt w' (Qn F w w') b (h.change s)∧Qc F w w'):=O (fun w' c h0=>by rw[Qeo h0];exact Zt.obj.same hh c);have R:Hid (∀w',Qc Qb w w'→h.change s=h→Zt w' (Qn F w w') b (h.change s)∧Qc F w w'):=O (fun w' c h0=>by rw[h0];exact Zt.obj.same hh c);obtain⟨W,hW⟩:=Zx (w.alloc (.cells #[.int .i64 s.id,.int .i64 s.par,.bool s.leaf,.int .u64 (s.real.f:Int),.int .u64 (s.real.l:Int),.int .u64 (s.real.r:Int),.int .u64 (s.share.f:Int),.int .u64 (s.share.l:Int),.int .u64 (s.share.r:Int),.int .u64 (s.upper.f:Int),.int .u64 (s.upper.l:Int),.int .u64 (s.upper.r:Int),.int .i64 s.pk,.int .i64 s.bt] 40));have S0:Hid (J0 W w.heap.size s):=O (by rw[hW];exact J0.new w s);have C0:Hid (Qc Qb w W):=O (by rw[hW];exact(Qc.refl _ _).alloc _);have bc:=O (show w.heap.size<W.heap.size from Qh.lt S0.out);have HN:=O (O2 (a0.out W C0.out));obtain⟨ma,mu,l,vs,G,hp,hn,aj,ak,ax,fb,fm,fG,ay,aw,az,av,_⟩:=hh.opn;have ai:=O aj;have LK:=O (fun(w':World)(cc:Qc Qb w w')=>show(Instr.lookup 89 (.map (some ma)) (.int .i64 s.id) true).run prog w'=.ok (.tuple #[.agg (Ei (h.get s.id)),.bool (h.at s.id).isSome]) w' by
  have hL:=Up (P:=prog) (ak.keep cc (fun h=>h)) underlying89 underlying3 (Ej w') s.id;rw[Gg s.id l hn,←Qm.at_perm hp hn]at hL;rw[hL];unfold Qm.get;cases h.at s.id<;>rfl)
 have ap:=O (fun(w':World)(cc:Qc Qb w w')(c:Kk)(hc:h.at s.id=some c)=>show(Instr.lookup 89 (.map (some ma)) (.int .i64 s.id) false).run prog w'=.ok (.agg (Ei c)) w' by
  have hL:=U3 (P:=prog) (ak.keep cc (fun h=>h)) underlying89 underlying3 (Ej w') s.id;rw[Gg s.id l hn,←Qm.at_perm hp hn,hc]at hL;exact hL)
 cases hc:h.at s.id with
 |none=>
  have E:=O (show h.changeE s=81 by unfold Qm.changeE;rw[hc]);have K:h.get s.id=Qyg:=by unfold Qm.get;rw[hc];rfl
  rw[hc,K]at LK;obtain⟨c,au⟩:=Zx Qyg;rw[←au]at LK;dsimp only[Option.isSome_none]at LK;unfold spV ptr at*;clear hh ok aj ak ax hp hn fb fm fG ay aw az av hc K au R ap;go_enter func108,ntmps108;go_wp2_with fail;rw[←hW];clear hW;refine HN.out.mono ?_;rintro e w1⟨rfl,rfl⟩;go_wp2_with fail;refine Z9 [(1,0),(1,1),(1,2),(1,3),(1,4),(1,5),(1,6),(1,7),(1,8),(1,9),(2,10),(2,11),(3,12)] (fun I=>Qc (Qb) (W) I) (by kernel_rfl) (by kernel_rfl) ?_ (by(repeat' (first|(with_reducible first|exact Zg _ _|assumption|refine Zh ?_ _|refine Zi ?_ _|refine Zj ?_ |refine Zk ?_ _ ?_ |(apply Or.inl;rfl))|(apply Or.inl;simp;done)|(apply Or.inr;simp;first|done|omega)))) ?_;·exact fun _ _ _ _ _ h=>h
  simp only[Zs,Zf,Ze,Zd];iterate 3 (refine Q4 (by kernel_rfl) (fun I J=>by go_simp;try with_reducible rfl) ?_;try simp only[Act.put,Za,Zc,Zb])
  iterate 1 (refine Q4 (by kernel_rfl) (fun I J=>by(obtain⟨z0,z1⟩:=Qz (J.blk (C0.out.blk ai.out (fun h=>h)) (fun h=>h)));go_simp;try with_reducible rfl) ?_;try simp only[Act.put,Za,Zc,Zb])
  (refine Q4 (by kernel_rfl) (fun I J=>by go_simp;try with_reducible rfl) ?_;try simp only[Act.put,Za,Zc,Zb]);iterate 2 (refine Q4 (by kernel_rfl) (fun I J=>by(obtain⟨z0,_⟩:=(show J0 I w.heap.size s from S0.out.keep J).cells;have lk:=LK.out I (C0.out.trans' J));go_simp;try with_reducible rfl) ?_;try simp only[Act.put,Za,Zc,Zb])
  iterate 3 (refine Q4 (by kernel_rfl) (fun I J=>by go_simp;try with_reducible rfl) ?_;try simp only[Act.put,Za,Zc,Zb])
  refine Yc ?_;go_wp2_with fail;refine⟨((Qc.refl Qb W).alloc _).drew,?_⟩;have Z:Qh (W.alloc (.cells #[.int .i64 0,.int .i64 0,.bool false,.int .u64 0,.int .u64 0,.int .u64 0,.int .u64 0,.int .u64 0,.int .u64 0,.int .u64 0,.int .u64 0,.int .u64 0,.int .i64 0,.int .i64 0,.int .i64 0] 87)).drew W.heap.size #[.int .i64 0,.int .i64 0,.bool false,.int .u64 0,.int .u64 0,.int .u64 0,.int .u64 0,.int .u64 0,.int .u64 0,.int .u64 0,.int .u64 0,.int .u64 0,.int .i64 0,.int .i64 0,.int .i64 0] 87:=(Qh.new _ _ _).drew;have D1:Qc Qb W (W.alloc (.cells #[.int .i64 0,.int .i64 0,.bool false,.int .u64 0,.int .u64 0,.int .u64 0,.int .u64 0,.int .u64 0,.int .u64 0,.int .u64 0,.int .u64 0,.int .u64 0,.int .i64 0,.int .i64 0,.int .i64 0] 87)).drew:=((Qc.refl Qb W).alloc _).drew;generalize(W.alloc (.cells #[.int .i64 0,.int .i64 0,.bool false,.int .u64 0,.int .u64 0,.int .u64 0,.int .u64 0,.int .u64 0,.int .u64 0,.int .u64 0,.int .u64 0,.int .u64 0,.int .i64 0,.int .i64 0,.int .i64 0] 87)).drew=W1 at Z D1⊢;obtain⟨W2,s2,af,C2⟩:=Z1 (P:=prog) (vs:=Ei c) Z rfl (Qab c);have V:Qc Qb W W2:=D1.trans C2 (fun k e=>.inr (by omega));have ab:=O V;have ae:=O af;have ao:=O (C0.out.trans' V);clear Z D1 af C2 V;refine Yc ?_;go_wp2_with fail;refine⟨ab.out,?_⟩;refine V5 ?_;go_wp2_with fail;refine K8 ?_;clear s2;have U:=O (NO.out W2 ao.out (by rw[E.out];decide));clear NO;go_wp2_with fail;go_ret;exact⟨by rw[E.out];rfl,U.out⟩
 |some c=>
  have K:h.get s.id=c:=Qj3 h hc;rw[hc,K]at LK;dsimp only[Option.isSome_some]at LK;have bj:=O (fun w' cc=>ap.out w' cc c hc);have a2:h.changeE s=if(c.sp.renew s).mayE≠0 then 130 else 0:=by unfold Qm.changeE;rw[hc]
  have EE:=O a2;have ba:=O (Qos ok hc);have aa:Hid (h.changeE s=0→∀w3,Qc Qb w w3→∃w4,(Instr.mapUpdate 89 (.map (some ma)) (.int .i64 s.id) (.agg (Ei ⟨c.sp.renew s,c.d⟩))).run prog w3=.ok () w4∧Zt w4 (Qn F w w4) b (h.change s)∧Qc F w w4):=O (fun h0=>by
   obtain⟨a6,bl,be,k⟩:=Qlq hh h0 hc;have e:=aj.inj be;injection e with e;injection e with e1 _;injection e1 with e1;have e1:ma=a6:=Option.some.inj e1;subst e1;exact k)
  have am:=O (fun w=>Qjo (c.sp.renew s) w);unfold spV ptr at*;clear hh ok aj ak ax hp hn fb fm fG ay aw az av hc K ap a2;go_enter func108,ntmps108;go_wp2_with fail;rw[←hW];clear hW;refine HN.out.mono ?_;rintro e w1⟨rfl,rfl⟩;go_wp2_with fail;refine Z9 [(1,0),(1,1),(1,2),(1,3),(1,4),(1,5),(1,6),(1,7),(1,8),(1,9),(2,10),(2,11),(3,12)] (fun I=>Qc (Qb) (W) I) (by kernel_rfl) (by kernel_rfl) ?_ (by(repeat' (first|(with_reducible first|exact Zg _ _|assumption|refine Zh ?_ _|refine Zi ?_ _|refine Zj ?_ |refine Zk ?_ _ ?_ |(apply Or.inl;rfl))|(apply Or.inl;simp;done)|(apply Or.inr;simp;first|done|omega)))) ?_;·exact fun _ _ _ _ _ h=>h
  simp only[Zs,Zf,Ze,Zd];iterate 3 (refine Q4 (by kernel_rfl) (fun I J=>by go_simp;try with_reducible rfl) ?_;try simp only[Act.put,Za,Zc,Zb])
  iterate 1 (refine Q4 (by kernel_rfl) (fun I J=>by(obtain⟨z0,z1⟩:=Qz (J.blk (C0.out.blk ai.out (fun h=>h)) (fun h=>h)));go_simp;try with_reducible rfl) ?_;try simp only[Act.put,Za,Zc,Zb])
  (refine Q4 (by kernel_rfl) (fun I J=>by go_simp;try with_reducible rfl) ?_;try simp only[Act.put,Za,Zc,Zb]);iterate 2 (refine Q4 (by kernel_rfl) (fun I J=>by(obtain⟨z0,_⟩:=(show J0 I w.heap.size s from S0.out.keep J).cells;have lk:=LK.out I (C0.out.trans' J));go_simp;try with_reducible rfl) ?_;try simp only[Act.put,Za,Zc,Zb])
  iterate 3 (refine Q4 (by kernel_rfl) (fun I J=>by go_simp;try with_reducible rfl) ?_;try simp only[Act.put,Za,Zc,Zb])
  refine Yc ?_;go_wp2_with fail;refine⟨((Qc.refl Qb W).alloc _).drew,?_⟩;have Z:Qh (W.alloc (.cells #[.int .i64 0,.int .i64 0,.bool false,.int .u64 0,.int .u64 0,.int .u64 0,.int .u64 0,.int .u64 0,.int .u64 0,.int .u64 0,.int .u64 0,.int .u64 0,.int .i64 0,.int .i64 0,.int .i64 0] 87)).drew W.heap.size #[.int .i64 0,.int .i64 0,.bool false,.int .u64 0,.int .u64 0,.int .u64 0,.int .u64 0,.int .u64 0,.int .u64 0,.int .u64 0,.int .u64 0,.int .u64 0,.int .i64 0,.int .i64 0,.int .i64 0] 87:=(Qh.new _ _ _).drew;have D1:Qc Qb W (W.alloc (.cells #[.int .i64 0,.int .i64 0,.bool false,.int .u64 0,.int .u64 0,.int .u64 0,.int .u64 0,.int .u64 0,.int .u64 0,.int .u64 0,.int .u64 0,.int .u64 0,.int .i64 0,.int .i64 0,.int .i64 0] 87)).drew:=((Qc.refl Qb W).alloc _).drew;generalize(W.alloc (.cells #[.int .i64 0,.int .i64 0,.bool false,.int .u64 0,.int .u64 0,.int .u64 0,.int .u64 0,.int .u64 0,.int .u64 0,.int .u64 0,.int .u64 0,.int .u64 0,.int .i64 0,.int .i64 0,.int .i64 0] 87)).drew=W1 at Z D1⊢;obtain⟨W2,s2,af,C2⟩:=Z1 (P:=prog) (vs:=Ei c) Z rfl (Qab c);have V:Qc Qb W W2:=D1.trans C2 (fun k e=>.inr (by omega));have ab:=O V;have ae:=O af;have ao:=O (C0.out.trans' V);clear Z D1 af C2 V;refine Yc ?_;go_wp2_with fail;refine⟨ab.out,?_⟩;refine V5 ?_;go_wp2_with fail;refine K8 ?_;clear s2;go_wp2_with fail;have S2:=O (S0.out.keep ab.out);obtain⟨g0,g1,g2,g3,g4,g5,g6,g7,g8,g9,bb,a9,bh,bf⟩:=(show J0 W2.drew w.heap.size s from S2.out.keep (Qc.refl Qb W2).drew).cells;have NE:=O (show w.heap.size≠W.heap.size from fun e=>by have:=bc.out;omega);refine Z9 [(0,0),(0,1),(1,2),(1,3),(1,4),(1,5),(0,6),(0,7),(2,8),(0,9),(0,10),(2,11),(0,12),(0,13),(3,14)] (fun I=>Qc (fun k=>k=W.heap.size) (W2) I) (by kernel_rfl) (by kernel_rfl) ?_ (by(repeat' (first|(with_reducible first|exact Zg _ _|assumption|refine Zh ?_ _|refine Zi ?_ _|refine Zj ?_ |refine Zk ?_ _ ?_ |(apply Or.inl;rfl))|(apply Or.inl;simp;done)|(apply Or.inr;simp;first|done|omega)))) ?_;·exact fun _ _ _ _ _ h=>h
  simp only[Zs,Zf,Ze,Zd];iterate 2 (refine Jr (by kernel_rfl) (by go_simp;try with_reducible rfl) ?_)
  (refine Q4 (by kernel_rfl) (fun I J=>by go_simp;try with_reducible rfl) ?_;try simp only[Act.put,Za,Zc,Zb]);iterate 1 (refine Q4 (by kernel_rfl) (fun I J=>by(obtain⟨z0,z1,z2,z3,z4,z5,z6,z7,z8,z9,a4,bi,bk,a5⟩:=(show J0 I w.heap.size s from J.blk S2.out NE.out).cells);go_simp;try with_reducible rfl) ?_;try simp only[Act.put,Za,Zc,Zb])
  (refine Q4 (by kernel_rfl) (fun I J=>by go_simp;try with_reducible rfl) ?_;try simp only[Act.put,Za,Zc,Zb]);iterate 1 (refine Q4 (by kernel_rfl) (fun I J=>by(obtain⟨z0,z1,z2,z3,z4,z5,z6,z7,z8,z9,a4,bi,bk,a5⟩:=(show J0 I w.heap.size s from J.blk S2.out NE.out).cells);go_simp;try with_reducible rfl) ?_;try simp only[Act.put,Za,Zc,Zb])
  iterate 2 (refine Jr (by kernel_rfl) (by go_simp;try with_reducible rfl) ?_)
  clear g0 g1 g2 g3 g4 g5 g6 g7 g8 g9 bb a9 bh bf;obtain⟨e0,e1,e2,e3,e4,e5,e6,e7,e8,e9,d,q,z,u,B⟩:=Uy ae.out;have f3:=ae.out.frozen 3;have f4:=ae.out.frozen 4;have f5:=ae.out.frozen 5;refine Yc ?_;go_wp2_with fail;have B3:Qh (((W2.setCell ⟨W.heap.size,3,none⟩ (.int .u64 (s.real.f:Int))).setCell ⟨W.heap.size,4,none⟩ (.int .u64 (s.real.l:Int))).setCell ⟨W.heap.size,5,none⟩ (.int .u64 (s.real.r:Int))).drew W.heap.size (Ei ⟨{c.sp with real:=s.real},c.d⟩) 87:=(((ae.out.set 3 _).set 4 _).set 5 _).drew;have D3:Qc (fun k=>k=W.heap.size) W2 (((W2.setCell ⟨W.heap.size,3,none⟩ (.int .u64 (s.real.f:Int))).setCell ⟨W.heap.size,4,none⟩ (.int .u64 (s.real.l:Int))).setCell ⟨W.heap.size,5,none⟩ (.int .u64 (s.real.r:Int))).drew:=((((Qc.refl (fun k=>k=W.heap.size) W2).setCell _ (.inl rfl)).setCell _ (.inl rfl)).setCell _ (.inl rfl)).drew;refine⟨D3,?_⟩;generalize(((W2.setCell ⟨W.heap.size,3,none⟩ (.int .u64 (s.real.f:Int))).setCell ⟨W.heap.size,4,none⟩ (.int .u64 (s.real.l:Int))).setCell ⟨W.heap.size,5,none⟩ (.int .u64 (s.real.r:Int))).drew=W3 at B3 D3⊢;have ag:=O B3;have D3:=O D3;clear B3 e0 e1 e2 e3 e4 e5 e6 e7 e8 e9 d q z u B f3 f4 f5;iterate 2 (refine Jr (by kernel_rfl) (by go_simp;try with_reducible rfl) ?_)
  obtain⟨e0,e1,e2,e3,e4,e5,e6,e7,e8,e9,d,q,z,u,B⟩:=Uy ag.out;have f6:=ag.out.frozen 6;have f7:=ag.out.frozen 7;have f8:=ag.out.frozen 8;refine Yc ?_;go_wp2_with fail;have B4:Qh (((W3.setCell ⟨W.heap.size,6,none⟩ (.int .u64 (s.share.f:Int))).setCell ⟨W.heap.size,7,none⟩ (.int .u64 (s.share.l:Int))).setCell ⟨W.heap.size,8,none⟩ (.int .u64 (s.share.r:Int))) W.heap.size (Ei ⟨{c.sp with real:=s.real,share:=s.share},c.d⟩) 87:=(((ag.out.set 6 _).set 7 _).set 8 _);have D4:Qc (fun k=>k=W.heap.size) W2 (((W3.setCell ⟨W.heap.size,6,none⟩ (.int .u64 (s.share.f:Int))).setCell ⟨W.heap.size,7,none⟩ (.int .u64 (s.share.l:Int))).setCell ⟨W.heap.size,8,none⟩ (.int .u64 (s.share.r:Int))):=((((D3.out).setCell _ (.inl rfl)).setCell _ (.inl rfl)).setCell _ (.inl rfl));refine⟨D4,?_⟩;generalize(((W3.setCell ⟨W.heap.size,6,none⟩ (.int .u64 (s.share.f:Int))).setCell ⟨W.heap.size,7,none⟩ (.int .u64 (s.share.l:Int))).setCell ⟨W.heap.size,8,none⟩ (.int .u64 (s.share.r:Int)))=W4 at B4 D4⊢;have ah:=O B4;have D4:=O D4;clear B4 e0 e1 e2 e3 e4 e5 e6 e7 e8 e9 d q z u B f6 f7 f8;iterate 2 (refine Jr (by kernel_rfl) (by go_simp;try with_reducible rfl) ?_)
  obtain⟨e0,e1,e2,e3,e4,e5,e6,e7,e8,e9,d,q,z,u,B⟩:=Uy ah.out;have f9:=ah.out.frozen 9;have bd:=ah.out.frozen 10;have a7:=ah.out.frozen 11;refine V5 ?_;go_wp2_with fail;have B5:Qh (((W4.setCell ⟨W.heap.size,9,none⟩ (.int .u64 (s.upper.f:Int))).setCell ⟨W.heap.size,10,none⟩ (.int .u64 (s.upper.l:Int))).setCell ⟨W.heap.size,11,none⟩ (.int .u64 (s.upper.r:Int))) W.heap.size (Ei ⟨c.sp.renew s,c.d⟩) 87:=(((ah.out.set 9 _).set 10 _).set 11 _);have D5:Qc (fun k=>k=W.heap.size) W2 (((W4.setCell ⟨W.heap.size,9,none⟩ (.int .u64 (s.upper.f:Int))).setCell ⟨W.heap.size,10,none⟩ (.int .u64 (s.upper.l:Int))).setCell ⟨W.heap.size,11,none⟩ (.int .u64 (s.upper.r:Int))):=((((D4.out).setCell _ (.inl rfl)).setCell _ (.inl rfl)).setCell _ (.inl rfl));generalize(((W4.setCell ⟨W.heap.size,9,none⟩ (.int .u64 (s.upper.f:Int))).setCell ⟨W.heap.size,10,none⟩ (.int .u64 (s.upper.l:Int))).setCell ⟨W.heap.size,11,none⟩ (.int .u64 (s.upper.r:Int)))=W5 at B5 D5⊢;have ar:=O B5;have D5:=O D5;clear B5 e0 e1 e2 e3 e4 e5 e6 e7 e8 e9 d q z u B f9 bd a7;refine K8 ?_;obtain⟨r,hr⟩:=Zx (c.sp.renew s);have HR:=O hr;have bg:=O (ao.out.trans D5.out fun k e=>.inr (by have:=C0.out.size;omega));rw[←hr]at ar am EE;clear hr;obtain⟨e0,e1,e2,e3,e4,e5,e6,e7,e8,e9,d,q,z,u,B⟩:=Uy ar.out;dsimp only at e0 e1 e2 e3 e4 e5 e6 e7 e8 e9 d q z u B;go_wp2_with fail;refine(am.out _).mono ?_;rintro e w6⟨rfl,c6⟩;have ac:=O (bg.out.trans' c6);have a8:=O (c6.blk ar.out (fun h=>h));have S6:=O (c6.blk (D5.out.blk S2.out NE.out) (fun h=>h));clear c6 e0 e1 e2 e3 e4 e5 e6 e7 e8 e9 d q z u B;by_cases hm:r.mayE=0
  ·have E:=O (show h.changeE s=0 by rw[EE.out,if_neg (by omega)]);have hd:decide (r.mayE=0)=true:=by simpa using hm
   have aq:(r.mayE==0)=true:=by simpa using hm
   rw[hm]at hd aq⊢;clear hm hd aq;go_wp2_with fail;have a1:=O (show Qh w6.drew W.heap.size (Ei ⟨c.sp.renew s,c.d⟩) 87 by rw[←HR.out];exact a8.out.drew);obtain⟨e0,e1,e2,e3,e4,e5,e6,e7,e8,e9,d,q,z,u,B⟩:=Uy a1.out;dsimp only[Xm.renew]at e0 e1 e2 e3 e4 e5 e6 e7 e8 e9 d q z u B;obtain⟨g0,_⟩:=(show J0 w6.drew w.heap.size s from J0.keep S6.out (Qc.refl Qb w6).drew).cells;obtain⟨z0,z1⟩:=Qz ((ac.out.blk ai.out (fun h=>h)).drew);have lk:=bj.out w6.drew ac.out.drew;unfold Ei at lk;refine Qi [(0,0),(0,1),(0,2),(0,3),(0,4),(0,5),(0,6),(0,7),(0,8)] (by kernel_rfl) (by kernel_rfl) ?_ ?_;·exact fun _ _ _ _ _ h=>h
   simp only[Zs,Zf,Ze,Zd];iterate 9 (refine Zz (by kernel_rfl) (by go_simp;try with_reducible rfl) ?_)
   clear e0 e1 e2 e3 e4 e5 e6 e7 e8 e9 d q z u B g0 z0 z1 lk;refine Zu ?_;simp only[Act.put,Za,Zc,Zb];cases a3:Qxl (s.real.f:Int) (s.real.l:Int) (s.real.r:Int) (s.share.f:Int) (s.share.l:Int) (s.share.r:Int) (s.upper.f:Int) (s.upper.l:Int) (s.upper.r:Int) (c.sp.real.f:Int) (c.sp.real.l:Int) (c.sp.real.r:Int) (c.sp.share.f:Int) (c.sp.share.l:Int) (c.sp.share.r:Int) (c.sp.upper.f:Int) (c.sp.upper.l:Int) (c.sp.upper.r:Int)with
   |false=>
    have SM:=O (ba.out (by
     obtain⟨q1,q2,q3,q4,q5,q6,q7,q8,q9⟩:=Qrq a3;unfold Qlp Qj2;simp only[Bool.and_eq_true,beq_iff_eq];exact⟨⟨q1.symm,q2.symm,q3.symm⟩,⟨q4.symm,q5.symm,q6.symm⟩,q7.symm,q8.symm,q9.symm⟩))
    have U:=O (R.out w6.drew ac.out.drew SM.out);clear NO R aa;go_wp2_with fail;go_ret;exact⟨by rw[E.out];rfl,U.out⟩
   |true=>
    obtain⟨w8,r8,an,al⟩:=aa.out E.out w6.drew.drew ac.out.drew.drew;have U:=O (And.intro an al);unfold Ei at r8;dsimp only[Xm.renew]at r8;clear an al NO R aa;go_wp2_with fail;obtain⟨e0,e1,e2,e3,e4,e5,e6,e7,e8,e9,d,q,z,u,B⟩:=Uy a1.out.drew;dsimp only[Xm.renew]at e0 e1 e2 e3 e4 e5 e6 e7 e8 e9 d q z u B;obtain⟨g0,_⟩:=(show J0 w6.drew.drew w.heap.size s from J0.keep S6.out (Qc.refl Qb w6).drew.drew).cells;obtain⟨z0,z1⟩:=Qz ((ac.out.blk ai.out (fun h=>h)).drew.drew);refine Qi [(0,0),(0,1),(0,2),(0,3),(0,4),(0,5),(0,6),(2,7)] (by kernel_rfl) (by kernel_rfl) ?_ ?_;·exact fun _ _ _ _ _ h=>h
    simp only[Zs,Zf,Ze,Zd];iterate 7 (refine Zz (by kernel_rfl) (by go_simp;try with_reducible rfl) ?_)
    clear e0 e1 e2 e3 e4 e5 e6 e7 e8 e9 d q z u B g0 z0 z1;refine Jj ?_;go_wp2_with fail;refine Zu ?_;clear r8;go_wp2;go_ret;exact⟨by rw[E.out];rfl,U.out⟩
  ·have E:=O (show h.changeE s=130 by rw[EE.out,if_pos hm]);have hd:decide (r.mayE=0)=false:=by simpa using hm
   have aq:(r.mayE==0)=false:=by simpa using hm
   have U:=O (NO.out w6 ac.out (by rw[E.out];decide));clear hm NO R aa;go_wp2_with fail;go_ret;exact⟨by rw[E.out];rfl,U.out⟩
end
end
end Go.Proofs.YtnnhmpehkbihnaaGreat
