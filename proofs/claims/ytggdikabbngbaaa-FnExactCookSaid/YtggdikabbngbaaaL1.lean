/-
  That the program and the reference answer alike, in plain terms, and that the laws answer true.
-/
import Derived.Test.YtggdikabbngbaaaH
namespace Go.Proofs.Ytggdikabbngbaaa
open Go.RowKit
set_option linter.unusedVariables false
set_option linter.unusedSimpArgs false
set_option maxHeartbeats 4000000
noncomputable section
def inR (n lo hi : Int) : Bool := decide (lo ≤ n) && decide (n ≤ hi)
theorem Jl (n lo hi : YI) : Cw n lo hi = some (inR n.1 lo.1 hi.1, ()) := by
 unfold Cw S8 inR
 simp only [Ae, Ad, Aqe]
 split <;> rename_i h <;> simp at h <;> simp [h]
 all_goals omega
theorem Xh (n lo hi : YI) : Gk n lo hi = some (inR n.1 lo.1 hi.1, ()) := by
 unfold Gk Abe inR
 simp only [Ae, Ad, Aqe]
 split <;> rename_i h <;> simp at h <;> simp [h]
 all_goals omega
end
end Go.Proofs.Ytggdikabbngbaaa
