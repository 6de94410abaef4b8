/-
  That the program and the reference answer alike, in plain terms, and that the laws answer true.
-/
import Derived.Test.YtmhhajdeafijmaaGreatL13
namespace Go.Proofs.YtmhhajdeafijmaaGreat
open Go.RowKit
set_option linter.unusedVariables false
set_option linter.unusedSimpArgs false
set_option maxRecDepth 100000
set_option maxHeartbeats 4000000
noncomputable section
theorem Anx (d:Aq) (h:Ar d≤4294967296):Vh d=some d:=by
 simp only[Ar]at h
 unfold Vh Adu
 simp (disch:=first|omega|(dsimp only;omega)) only[Ak,Ac,List.length_nil,Nat.zero_add,List.nil_append,Am,Ba]
end
end Go.Proofs.YtmhhajdeafijmaaGreat
