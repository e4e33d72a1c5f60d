/- A part of the proof: no condition. -/
import Derived.Shelf.Sort.Plain
import Derived.Shelf.Slices.In.SortNone
import Derived.Test.YtigcnnkagkbflaaGreatProg
import Derived.Test.YtigcnnkagkbflaaGreatWf16
namespace Go.Proofs.YtigcnnkagkbflaaGreat
set_option linter.unusedVariables false
set_option maxRecDepth 100000
set_option maxHeartbeats 4000000
open Go.RowKit
open Go.Proofs.Tryz
attribute [local go_sem] Qp
attribute [local irreducible] Kl J9 Xo
section
open Go.Shelf
def Tryz.lays189_ren:Go.Shelf.Ren:=⟨fun|189=>86|125=>143|257=>142|128=>201|129=>202|294=>192|295=>193|296=>194|297=>195|298=>196|299=>197|216=>198|300=>199|301=>200|328=>236|329=>237|330=>238|331=>239|332=>240|215=>241|343=>256|n=>n,fun|28=>100|3=>3|46=>215|0=>0|51=>280|53=>22|4=>4|183=>273|182=>272|131=>115|5=>5|9=>9|218=>302|222=>305|228=>326|229=>60|n=>n,fun|n=>n⟩
theorem Tryz.lays189:Go.Proofs.Lays.n189 prog Tryz.lays189_ren:={
 mixed:=by kernel_rfl
 f125:=func143.trans (congrArg some (by kernel_rfl))
 f128:=func201.trans (congrArg some (by kernel_rfl))
 f129:=func202.trans (congrArg some (by kernel_rfl))
 f189:=func86.trans (congrArg some (by kernel_rfl))
 f215:=func241.trans (congrArg some (by kernel_rfl))
 f216:=func198.trans (congrArg some (by kernel_rfl))
 f257:=func142.trans (congrArg some (by kernel_rfl))
 f294:=func192.trans (congrArg some (by kernel_rfl))
 f295:=func193.trans (congrArg some (by kernel_rfl))
 f296:=func194.trans (congrArg some (by kernel_rfl))
 f297:=func195.trans (congrArg some (by kernel_rfl))
 f298:=func196.trans (congrArg some (by kernel_rfl))
 f299:=func197.trans (congrArg some (by kernel_rfl))
 f300:=func199.trans (congrArg some (by kernel_rfl))
 f301:=func200.trans (congrArg some (by kernel_rfl))
 f328:=func236.trans (congrArg some (by kernel_rfl))
 f329:=func237.trans (congrArg some (by kernel_rfl))
 f330:=func238.trans (congrArg some (by kernel_rfl))
 f331:=func239.trans (congrArg some (by kernel_rfl))
 f332:=func240.trans (congrArg some (by kernel_rfl))
 f343:=func256.trans (congrArg some (by kernel_rfl))
 t0:=underlying0
 a0:=Tryz.isAgg0
 z0:=Tryz.sizeOf0
 v0:=Tryz.zeroValue0
 t3:=underlying3
 a3:=Tryz.isAgg3
 z3:=Tryz.sizeOf3
 v3:=Tryz.zeroValue3
 t4:=underlying4
 a4:=Tryz.isAgg4
 z4:=Tryz.sizeOf4
 v4:=Tryz.zeroValue4
 t5:=underlying5
 a5:=Tryz.isAgg5
 z5:=Tryz.sizeOf5
 v5:=Tryz.zeroValue5
 t9:=underlying9
 a9:=Tryz.isAgg9
 z9:=Tryz.sizeOf9
 v9:=Tryz.zeroValue9
 t28:=underlying100
 a28:=Tryz.isAgg100
 z28:=Tryz.sizeOf100
 v28:=Tryz.zeroValue100
 t46:=underlying215
 a46:=Tryz.isAgg215
 z46:=Tryz.sizeOf215
 v46:=Tryz.zeroValue215
 t51:=underlying280
 a51:=Tryz.isAgg280
 z51:=Tryz.sizeOf280
 v51:=Tryz.zeroValue280
 t53:=underlying22
 a53:=Tryz.isAgg22
 z53:=Tryz.sizeOf22
 v53:=Tryz.zeroValue22
 t131:=underlying115
 a131:=Tryz.isAgg115
 z131:=Tryz.sizeOf115
 v131:=Tryz.zeroValue115
 t182:=underlying272
 a182:=Tryz.isAgg272
 z182:=Tryz.sizeOf272
 v182:=Tryz.zeroValue272
 t183:=underlying273
 a183:=Tryz.isAgg273
 z183:=Tryz.sizeOf273
 v183:=Tryz.zeroValue273
 t218:=underlying302
 a218:=Tryz.isAgg302
 z218:=Tryz.sizeOf302
 v218:=Tryz.zeroValue302
 t222:=underlying305
 a222:=Tryz.isAgg305
 z222:=Tryz.sizeOf305
 v222:=Tryz.zeroValue305
 t228:=underlying326
 a228:=Tryz.isAgg326
 z228:=Tryz.sizeOf326
 v228:=Tryz.zeroValue326
 t229:=underlying60
 a229:=Tryz.isAgg60
 z229:=Tryz.sizeOf60
 v229:=Tryz.zeroValue60}
open Go.Sort Go.RowKit in
theorem Tryz.slices_Sort_int(blk off cap:Nat)(zs:List Int)(w:World)(hH:Holds (Value.int .i64) w blk off zs.toArray)(hblk:blk<w.heap.size)(hsz:zs.length<4611686018427387904):
  Cl 86 #[.slice (some ⟨blk,off,none⟩) zs.length cap] w fun e w'=>
   e=.returned (.tuple #[])∧∃n os,w'=grow (putRow (Value.int .i64) (Sort.ahead w n) blk off (zs.mergeSort fun x y=>decide (x≤y)).toArray) os:=Any.slices_Sort_int Tryz.lays189 blk off cap zs w hH hblk hsz
open Go.RowKit Go.Sort in
theorem Tryz.slices_Sort_int_none(p:Option Addr)(cap:Nat)(w:World):
  ZW 86 #[.slice p 0 cap] w (.tuple #[]) fun w'=>w'=w:=Any.slices_Sort_int_none Tryz.lays189 p cap w
end
section
variable{w:World}{g:Nat}
theorem Qt6{cap:Nat}{d:List Int}{q:Array Value}{t:TypeId}(E:Qh w g q t)(K:q.size=cap)(R:d.length≤cap)(n:Nat)(B:Array Obj):
  ∃c,Qh (Sort.grow (Sort.putRow (Value.int .i64) (Sort.ahead w n) g 0 d.toArray) B) g c t∧c.size=cap∧(∀(k:Nat)(y:Int),d[k]? =some y→c[k]? =some (ZI y))∧Qc (fun k=>k=g) w (Sort.grow (Sort.putRow (Value.int .i64) (Sort.ahead w n) g 0 d.toArray) B):=by
 have Xg:=E.lt;have J:∀k,k<w.heap.size→(Sort.grow (Sort.putRow (Value.int .i64) (Sort.ahead w n) g 0 d.toArray) B).heap[k]? =if g=k then(w.heap[k]?).map (Sort.onCells (Sort.putCells (Value.int .i64) 0 d.toArray))else w.heap[k]? :=fun k u=>by show(w.heap.modify g _++B)[k]? =_;rw[Array.getElem?_append_left (by simpa using u),Array.getElem?_modify]
 refine⟨Sort.putCells (Value.int .i64) 0 d.toArray q,?_,?_,fun k y u=>?_,rfl,rfl,rfl,?_,fun k u I=>?_⟩;·unfold Qh at E⊢;rw[J g Xg,if_pos rfl,E];rfl
 ·unfold Sort.putCells;simpa using K
 ·have z:k<d.length:=(Z1.1 u).1;unfold Sort.putCells;rw[Array.getElem?_mapIdx,Array.getElem?_eq_getElem (by omega)];simp only[Zn];rw[if_pos ⟨by omega,by simpa using z⟩];simp only[Nat.sub_zero];have:d.toArray[k]! =y:=by rw[getElem!_pos _ k (by simpa using z)];have:=(Z1.1 u).2;simpa using this
  rw[this]
 ·show w.heap.size≤(w.heap.modify g _++B).size;simp
 ·rw[J k u,if_neg (fun e=>I e.symm)]
theorem N7{v:Value}{l:List Int}(u:Q6 w v l)(hl:l.length<4611686018427387904):
  ZW 86 #[v] w (.tuple #[]) fun w'=>Q6 w' v (l.mergeSort fun x y=>decide (x≤y))∧Qc (fun k=>v.ownBlock=some k) w w':=by
 by_cases E:l=[]
 ·subst E;obtain⟨a,cap,rfl,_⟩:=u.row intT.hc;refine Zz (Tryz.slices_Sort_int_none a cap w) ?_;rintro w' rfl;refine⟨rfl,?_,Zg _ _⟩;have:([]:List Int).mergeSort (fun x y=>decide (x≤y))=[]:=by simp
  rw[this];exact u
 ·obtain⟨g,cap,V,rfl,q,hs,hc,hn,hm⟩:=u.opn E;have Z:Sort.Holds (Value.int .i64) w g 0 l.toArray:=fun j I=>by
   have z:j<l.length:=by simpa using I
   refine⟨?_,q.frozen _⟩;rw[Nat.zero_add,q.cell,hc j _ (List.getElem?_eq_getElem z)];congr 2;rw[getElem!_pos _ j I];simp
  refine Zz (Tryz.slices_Sort_int g 0 cap l w Z q.lt hl) ?_;rintro w'⟨n,os,rfl⟩;have c:(l.mergeSort fun x y=>decide (x≤y)).length=l.length:=List.length_mergeSort _;obtain⟨B,J,K,R,U⟩:=Qt6 (d:=l.mergeSort fun x y=>decide (x≤y)) q hs (by omega) n os;refine⟨rfl,?_,U.mono fun k e=>.inl (by rw[e];rfl)⟩;have:=Q6.mk J K (by omega) hm R;rw[c]at this;exact this
end
end Go.Proofs.YtigcnnkagkbflaaGreat
