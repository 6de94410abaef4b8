/-
  That the program and the reference answer alike, in plain terms, and that the laws answer true.
-/
import Derived.Test.YtmhhajdeafijmaaGreatL13
namespace Go.Proofs.YtmhhajdeafijmaaGreat
open Go.RowKit
set_option linter.unusedVariables false
set_option linter.unusedSimpArgs false
set_option maxRecDepth 100000
set_option maxHeartbeats 4000000
noncomputable section
theorem Al7 (d:Au) (h:Aq d≤4294967296):Ul d=some d:=by
 simp only[Aq]at h
 unfold Ul Acu
 simp (disch:=first|omega|(dsimp only;omega)) only[Aj,Ac,List.length_nil,Nat.zero_add,List.nil_append,Ak,A8]
end
end Go.Proofs.YtmhhajdeafijmaaGreat
