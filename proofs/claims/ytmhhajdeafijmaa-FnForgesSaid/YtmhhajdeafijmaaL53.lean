/-
  That the program and the reference answer alike, in plain terms, and that the laws answer true.
-/
import Derived.Test.YtmhhajdeafijmaaL50
namespace Go.Proofs.Ytmhhajdeafijmaa
open Go.RowKit
set_option linter.unusedVariables false
set_option linter.unusedSimpArgs false
set_option maxRecDepth 100000
set_option maxHeartbeats 8000000
noncomputable section
theorem Adx (a:YBs):Pg a a=some (true,()):=by
 unfold Pg Ua
 simp only[Ac,decide_true]
end
end Go.Proofs.Ytmhhajdeafijmaa
