/-
  That the program and the reference answer alike, in plain terms, and that the laws answer true.
-/
import Derived.Test.YtmhhajdeafijmaaGreatL3
namespace Go.Proofs.YtmhhajdeafijmaaGreat
open Go.RowKit
set_option linter.unusedVariables false
set_option linter.unusedSimpArgs false
set_option maxHeartbeats 4000000
noncomputable section
def Qv {E:Type} (q:E→Bool) (l:List E):Int:=(H6 (fun _ x=>q x) l 0).elim (-1) fun i=>(i:Int)
theorem A6m {E:Type} {q:E→Bool} {l:List E}: -1≤Qv q l∧Qv q l<l.length:=by
 unfold Qv
 cases h:H6 (fun _ x=>q x) l 0 with
 |none=>simp[Option.elim];omega
 |some k=>
  obtain⟨j,y,rfl,h2,_⟩:=Zb h
  have:=(List.getElem?_eq_some_iff.1 h2).1
  simp[Option.elim];omega
theorem A7r {E:Type} (q:E→Bool) (l:List E):(sm ((H6 (fun _ x=>q x) l 0).elim (Sum.inr ()) fun i=>Sum.inl ((i:Int),())) (fun c:Int×Unit=>some (c.1,())) fun _:Unit=>some ((-1:Int),()))=some (Qv q l,()):=by
 unfold Qv
 cases H6 (fun _ x=>q x) l 0<;>rfl
theorem Qw (a:List YB):Ew a a=true:=by simp[Ew]
end
end Go.Proofs.YtmhhajdeafijmaaGreat
