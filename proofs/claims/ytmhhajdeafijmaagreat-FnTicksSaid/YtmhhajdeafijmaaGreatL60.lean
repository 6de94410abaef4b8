/-
  That the program and the reference answer alike, in plain terms, and that the laws answer true.
-/
import Derived.Test.YtmhhajdeafijmaaGreatL59
namespace Go.Proofs.YtmhhajdeafijmaaGreat
open Go.RowKit
set_option linter.unusedVariables false
set_option linter.unusedSimpArgs false
set_option maxRecDepth 100000
set_option maxHeartbeats 8000000
noncomputable section
theorem Baz {α:Type} {c:Bool} {x:Option α} {r:α} (h:chk c x=some r):x=some r:=by
 cases c with
 |true=>exact h
 |false=>cases h
theorem Bb8 {α β:Type} {x:Option α} {f:α→Option β} {r:β} (h:ob x f=some r): ∃a,x=some a∧f a=some r:=by
 cases x with
 |none=>cases h
 |some a=>exact⟨a,rfl,h⟩
end
end Go.Proofs.YtmhhajdeafijmaaGreat
