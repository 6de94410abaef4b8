/-
  That the program and the reference answer alike, in plain terms, and that the laws answer true.
-/
import Derived.Test.YtggdikabbngbaaaGreatL17
namespace Go.Proofs.YtggdikabbngbaaaGreat
open Go.RowKit
set_option linter.unusedVariables false
set_option linter.unusedSimpArgs false
set_option maxRecDepth 100000
set_option maxHeartbeats 4000000
noncomputable section
theorem Bi9 (c : Ab) : Az (Ec c) ≤ A9 c := by simp only [Az, Ec, A9]; omega
theorem Axl (c : Ag) : c.2.2.2.1.length ≤ Az c := by simp only [Az]; omega
end
end Go.Proofs.YtggdikabbngbaaaGreat
