/-
  That the program and the reference answer alike, in plain terms, and that the laws answer true.
-/
import Derived.Test.YtggdikabbngbaaaGreatH
namespace Go.Proofs.YtggdikabbngbaaaGreat
open Go.RowKit
set_option linter.unusedVariables false
set_option linter.unusedSimpArgs false
set_option maxHeartbeats 4000000
noncomputable section
def inR (n lo hi : Int) : Bool := decide (lo ≤ n) && decide (n ≤ hi)
theorem C9 (n lo hi : YI) : Bp n lo hi = some (inR n.1 lo.1 hi.1, ()) := by
 unfold Bp Ai7 inR
 simp only [Ae, Ab, Bas]
 split <;> rename_i h <;> simp at h <;> simp [h]
 all_goals omega
theorem Dm (n lo hi : YI) : By n lo hi = some (inR n.1 lo.1 hi.1, ()) := by
 unfold By Avg inR
 simp only [Ae, Ab, Bas]
 split <;> rename_i h <;> simp at h <;> simp [h]
 all_goals omega
def Ew (a b : List YB) : Bool := decide (Py a = Py b)
theorem Abq (a b : YBs) : Ry a b = some (Ew a.1 b.1, ()) := rfl
theorem Qo (a b : YBs) : Du a b = some (Ew a.1 b.1, ()) := rfl
end
end Go.Proofs.YtggdikabbngbaaaGreat
