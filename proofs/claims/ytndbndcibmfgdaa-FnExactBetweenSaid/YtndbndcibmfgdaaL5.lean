/-
  That the program and the reference answer alike, in plain terms, and that the laws answer true.
-/
import Derived.Test.YtndbndcibmfgdaaL4
namespace Go.Proofs.Ytndbndcibmfgdaa
open Go.RowKit
set_option linter.unusedVariables false
set_option linter.unusedSimpArgs false
set_option maxHeartbeats 4000000
noncomputable section
/-! ## Copies -/
theorem snoc_take {E : Type} {l : List E} {i : Nat} {x : E} (h : l[i]? = some x) : l.take i ++ [x] = l.take (i + 1) := by
  rw [List.take_add_one, h]; rfl
theorem i_clone (b : YBs) (h : b.1.length ≤ 4294967296) : V_i_clone b = some b := by
  unfold V_i_clone T_i_clone
  simp only [val_chk, val_leaf, List.length_nil, Nat.zero_add, List.nil_append]
  rw [dec_t h]; rfl
theorem i_copyWires (l : List YWire) (h : l.length + sumN need_Wire l ≤ 4294967296) : V_i_copyWires (l, ()) = some (l, ()) := by
  have hl := loop_run (B := B_i_copyWires_3) l.length (fun i => (l.take i, l, (l.length : Int), (i : Int), ())) (l, ())
    (fun i hi => by
      have hx := List.getElem?_eq_getElem hi
      have h2 := sumN_at (f := need_Wire) hx
      simp only [need_Wire] at h2
      unfold B_i_copyWires_3
      simp only [val_br, val_ob, val_leaf, val_chk, lt_dec hi, br_t, idx_at hx, ob_s]
      rw [i_clone _ (by dsimp only; omega), ob_s, dec_t (by simp; omega), chk_t, w64 (by omega)]
      exact congrArg (fun t => some (Sum.inl (t, l, (l.length : Int), (i : Int) + 1, ()))) (snoc_take hx))
    (by unfold B_i_copyWires_3; simp only [val_br, val_leaf, ge_dec, br_f, List.take_length])
  unfold V_i_copyWires T_i_copyWires
  simp only [val_ob, val_leaf]
  rw [show iterO B_i_copyWires_3 ([], l, (l.length : Int), (0 : Int), ()) = some (l, ()) from hl]
  rfl
end
end Go.Proofs.Ytndbndcibmfgdaa
