/-
  That the program and the reference answer alike, in plain terms, and that the laws answer true.
-/
import Derived.Test.YtfdfaefafbnceaaGreatL11
namespace Go.Proofs.YtfdfaefafbnceaaGreat
open Go.RowKit
set_option linter.unusedVariables false
set_option linter.unusedSimpArgs false
set_option maxRecDepth 100000
set_option maxHeartbeats 4000000
noncomputable section
/-! ## Copies are what they are copies of -/
def pskOk (b : YBs) : Bool := inR (b.1.length : Int) 1 32
theorem i_PskOk (b : YBs) : V_i_PskOk b = some (pskOk b, ()) := by
  unfold V_i_PskOk T_i_PskOk
  simp only [val_ob, val_leaf, i_within, ob_s]; rfl
theorem s_PskOk (b : YBs) : V_s_PskOk b = some (pskOk b, ()) := by
  unfold V_s_PskOk T_s_PskOk
  simp only [val_ob, val_leaf, s_l1In, ob_s]; rfl
end
end Go.Proofs.YtfdfaefafbnceaaGreat
