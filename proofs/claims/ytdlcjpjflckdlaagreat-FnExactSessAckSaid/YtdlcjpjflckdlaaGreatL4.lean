/-
  That the program and the reference answer alike, in plain terms, and that the laws answer true.
-/
import Derived.Test.YtdlcjpjflckdlaaGreatL3
namespace Go.Proofs.YtdlcjpjflckdlaaGreat
open Go.RowKit
set_option linter.unusedVariables false
set_option linter.unusedSimpArgs false
set_option maxHeartbeats 4000000
noncomputable section
/-! ## Places in rows -/
theorem sameB_refl (a : List YB) : sameB a a = true := by simp [sameB]
end
end Go.Proofs.YtdlcjpjflckdlaaGreat
