/- A part of the proof: no condition. -/
import Derived.Test.YtigcnnkagkbflaaGreatXb04
namespace Go.Proofs.YtigcnnkagkbflaaGreat
set_option linter.unusedVariables false
set_option maxRecDepth 100000
set_option maxHeartbeats 4000000
open Go.RowKit
open Go.Proofs.Tryz
section
def Qnh(Q:Exit→Act→World→Prop):Exit→Act→World→Prop
 | .panic _,_,_=>False
 |e,a,w=>Q e a w
variable{n:Nat}{P:Program}{ops:Array Oper}{Q:Exit→Act→World→Prop}
theorem Sc{id:Nat}{a:Act}{w:World}{l:List Oper}(c:List (Nat×Nat))(k:P.follows .mixedOrders=true)
  (d:(Region.noSelect l.toArray&&(decide (c.length=l.toArray.size)&&xB l.toArray (Rb c) c (Array.replicate l.toArray.size false)))=true)
  (h:Uo n P l.toArray (Qnh Q) (Jk l.toArray c) a w.drew):(Code.region id l.toArray true).wpIn Fence.wide n P Q a w:=
 Code.wpIn_mono (fun e a w h=>by cases e<;>first|exact h.elim|exact h) (Lx c k d (fun _ _ _ _ _ h=>h) h)
theorem Qnv{a:Act}{w}(h:Q .normal a w):Uo n P ops (Qnh Q) [] a w:=h
end
end Go.Proofs.YtigcnnkagkbflaaGreat
