/-
  That the program and the reference answer alike, in plain terms, and that the laws answer true.
-/
import Derived.Test.YtdlcjpjflckdlaaGreatL17
namespace Go.Proofs.YtdlcjpjflckdlaaGreat
open Go.RowKit
set_option linter.unusedVariables false
set_option linter.unusedSimpArgs false
set_option maxRecDepth 100000
set_option maxHeartbeats 4000000
noncomputable section
/-! ## What a client sends -/
theorem key_need (c : YChan) : c.2.2.2.1.length ≤ need_Chan c := by simp only [need_Chan]; omega
end
end Go.Proofs.YtdlcjpjflckdlaaGreat
