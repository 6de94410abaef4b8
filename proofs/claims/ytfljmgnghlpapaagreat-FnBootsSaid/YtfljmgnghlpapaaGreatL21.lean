/-
  That the program and the reference answer alike, in plain terms, and that the laws answer true.
-/
import Derived.Test.YtfljmgnghlpapaaGreatL20
namespace Go.Proofs.YtfljmgnghlpapaaGreat
open Go.RowKit
set_option linter.unusedVariables false
set_option linter.unusedSimpArgs false
set_option maxRecDepth 100000
set_option maxHeartbeats 4000000
noncomputable section
def wfB (l:List YB):Prop:=∀(i:Nat) (x:YB),l[i]? =some x→0≤x.1∧x.1≤255
end
end Go.Proofs.YtfljmgnghlpapaaGreat
