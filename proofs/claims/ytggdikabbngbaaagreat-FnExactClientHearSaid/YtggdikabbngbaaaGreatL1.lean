/-
  That the program and the reference answer alike, in plain terms, and that the laws answer true.
-/
import Derived.Test.YtggdikabbngbaaaGreatH
namespace Go.Proofs.YtggdikabbngbaaaGreat
open Go.RowKit
set_option linter.unusedVariables false
set_option linter.unusedSimpArgs false
set_option maxHeartbeats 4000000
noncomputable section
def inR (n lo hi : Int) : Bool := decide (lo ≤ n) && decide (n ≤ hi)
theorem Cq (n lo hi : YI) : Bd n lo hi = some (inR n.1 lo.1 hi.1, ()) := by
 unfold Bd Akt inR
 simp only [Ah, Ae, A9n]
 split <;> rename_i h <;> simp at h <;> simp [h]
 all_goals omega
theorem C6 (n lo hi : YI) : Bj n lo hi = some (inR n.1 lo.1 hi.1, ()) := by
 unfold Bj Avt inR
 simp only [Ah, Ae, A9n]
 split <;> rename_i h <;> simp at h <;> simp [h]
 all_goals omega
def Dr (a b : List YB) : Bool := decide (N8 a = N8 b)
theorem Amu (a b : YBs) : Qm a b = some (Dr a.1 b.1, ()) := rfl
theorem T6 (a b : YBs) : De a b = some (Dr a.1 b.1, ()) := rfl
end
end Go.Proofs.YtggdikabbngbaaaGreat
