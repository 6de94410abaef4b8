/-
  That the program and the reference answer alike, in plain terms, and that the laws answer true.
-/
import Derived.Test.YtndbndcibmfgdaaGreatL4
namespace Go.Proofs.YtndbndcibmfgdaaGreat
open Go.RowKit
set_option linter.unusedVariables false
set_option linter.unusedSimpArgs false
set_option maxHeartbeats 4000000
noncomputable section
/-! ## Copies -/
theorem snoc_take {E : Type} {l : List E} {i : Nat} {x : E} (h : l[i]? = some x) : l.take i ++ [x] = l.take (i + 1) := by
  rw [List.take_add_one, h]; rfl
theorem i_clone (b : YBs) (h : b.1.length ≤ 4294967296) : V_i_clone b = some b := by
  unfold V_i_clone T_i_clone
  simp only [val_chk, val_leaf, List.length_nil, Nat.zero_add, List.nil_append]
  rw [dec_t h]; rfl
end
end Go.Proofs.YtndbndcibmfgdaaGreat
