/-
  That the program and the reference answer alike, in plain terms, and that the laws answer true.
-/
import Derived.Test.YtmhhajdeafijmaaGreatL3
namespace Go.Proofs.YtmhhajdeafijmaaGreat
open Go.RowKit
set_option linter.unusedVariables false
set_option linter.unusedSimpArgs false
set_option maxHeartbeats 4000000
noncomputable section
def Rg {E:Type} (q:E→Bool) (l:List E):Int:=(Id (fun _ x=>q x) l 0).elim (-1) fun i=>(i:Int)
theorem A8s {E:Type} {q:E→Bool} {l:List E}: -1≤Rg q l∧Rg q l<l.length:=by
 unfold Rg
 cases h:Id (fun _ x=>q x) l 0 with
 |none=>simp[Option.elim];omega
 |some k=>
  obtain⟨j,y,rfl,h2,_⟩:=Zz h
  have:=(List.getElem?_eq_some_iff.1 h2).1
  simp[Option.elim];omega
theorem A9x {E:Type} (q:E→Bool) (l:List E):(sm ((Id (fun _ x=>q x) l 0).elim (Sum.inr ()) fun i=>Sum.inl ((i:Int),())) (fun c:Int×Unit=>some (c.1,())) fun _:Unit=>some ((-1:Int),()))=some (Rg q l,()):=by
 unfold Rg
 cases Id (fun _ x=>q x) l 0<;>rfl
theorem Rh (a:List YB):Ez a a=true:=by simp[Ez]
end
end Go.Proofs.YtmhhajdeafijmaaGreat
