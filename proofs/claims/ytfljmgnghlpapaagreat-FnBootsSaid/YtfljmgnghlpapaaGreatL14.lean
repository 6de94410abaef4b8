/-
  That the program and the reference answer alike, in plain terms, and that the laws answer true.
-/
import Derived.Test.YtfljmgnghlpapaaGreatL13
namespace Go.Proofs.YtfljmgnghlpapaaGreat
open Go.RowKit
set_option linter.unusedVariables false
set_option linter.unusedSimpArgs false
set_option maxRecDepth 100000
set_option maxHeartbeats 4000000
noncomputable section
theorem Bdh (d:Ch) (h:Da d≤4294967296):Ahb d=some d:=by
 simp only[Da]at h
 unfold Ahb Afi
 simp (disch:=first|omega|(dsimp only;omega)) only[Al,Ab,List.length_nil,Nat.zero_add,List.nil_append,An,A8]
end
end Go.Proofs.YtfljmgnghlpapaaGreat
