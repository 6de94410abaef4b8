/-
  That the program and the reference answer alike, in plain terms, and that the laws answer true.
-/
import Derived.Test.YtndbndcibmfgdaaH
namespace Go.Proofs.Ytndbndcibmfgdaa
open Go.RowKit
set_option linter.unusedVariables false
set_option linter.unusedSimpArgs false
set_option maxHeartbeats 4000000
noncomputable section
def inR (n lo hi : Int) : Bool := decide (lo ≤ n) && decide (n ≤ hi)
theorem i_within (n lo hi : YI) : V_i_within n lo hi = some (inR n.1 lo.1 hi.1, ()) := by
  unfold V_i_within T_i_within inR
  simp only [val_br, val_leaf, br_i]
  split <;> rename_i h <;> simp at h <;> simp [h]
  all_goals omega
theorem s_l1In (n lo hi : YI) : V_s_l1In n lo hi = some (inR n.1 lo.1 hi.1, ()) := by
  unfold V_s_l1In T_s_l1In inR
  simp only [val_br, val_leaf, br_i]
  split <;> rename_i h <;> simp at h <;> simp [h]
  all_goals omega
def sameB (a b : List YB) : Bool := decide (bstr a = bstr b)
theorem s_l1Same (a b : YBs) : V_s_l1Same a b = some (sameB a.1 b.1, ()) := rfl
theorem bytes_Equal (a b : YBs) : V_bytes_Equal a b = some (sameB a.1 b.1, ()) := rfl
end
end Go.Proofs.Ytndbndcibmfgdaa
