/-
  That the program and the reference answer alike, in plain terms, and that the laws answer true.
-/
import Derived.Test.YtndbndcibmfgdaaGreatL8
namespace Go.Proofs.YtndbndcibmfgdaaGreat
open Go.RowKit
set_option linter.unusedVariables false
set_option linter.unusedSimpArgs false
set_option maxHeartbeats 4000000
noncomputable section
/-! ## All blocks -/
end
end Go.Proofs.YtndbndcibmfgdaaGreat
