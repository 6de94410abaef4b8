/-
  That the program and the reference answer alike, in plain terms, and that the laws answer true.
-/
import Derived.Test.YtndbndcibmfgdaaL19
namespace Go.Proofs.Ytndbndcibmfgdaa
open Go.RowKit
set_option linter.unusedVariables false
set_option linter.unusedSimpArgs false
set_option maxRecDepth 100000
set_option maxHeartbeats 4000000
noncomputable section
/-! ## Sessions answer -/
theorem chanOf_need (s : YSess) : need_Chan (chanOf s) ≤ need_Sess s := by simp only [need_Chan, chanOf, need_Sess]; omega
end
end Go.Proofs.Ytndbndcibmfgdaa
