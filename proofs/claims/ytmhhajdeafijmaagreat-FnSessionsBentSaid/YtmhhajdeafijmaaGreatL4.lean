/-
  That the program and the reference answer alike, in plain terms, and that the laws answer true.
-/
import Derived.Test.YtmhhajdeafijmaaGreatL3
namespace Go.Proofs.YtmhhajdeafijmaaGreat
open Go.RowKit
set_option linter.unusedVariables false
set_option linter.unusedSimpArgs false
set_option maxHeartbeats 4000000
noncomputable section
def Aw5 {E:Type} (q:E→Bool) (l:List E):Int:=(Lv (fun _ x=>q x) l 0).elim (-1) fun i=>(i:Int)
theorem A9x {E:Type} (q:E→Bool) (l:List E):(sm ((Lv (fun _ x=>q x) l 0).elim (Sum.inr ()) fun i=>Sum.inl ((i:Int),())) (fun c:Int×Unit=>some (c.1,())) fun _:Unit=>some ((-1:Int),()))=some (Aw5 q l,()):=by
 unfold Aw5
 cases Lv (fun _ x=>q x) l 0<;>rfl
theorem Afq (a:List YB):E4 a a=true:=by simp[E4]
end
end Go.Proofs.YtmhhajdeafijmaaGreat
