/-
  That the program and the reference answer alike, in plain terms, and that the laws answer true.
-/
import Derived.Test.YtdlcjpjflckdlaaGreatL14
namespace Go.Proofs.YtdlcjpjflckdlaaGreat
open Go.RowKit
set_option linter.unusedVariables false
set_option linter.unusedSimpArgs false
set_option maxRecDepth 100000
set_option maxHeartbeats 4000000
noncomputable section
/-! ## Rolls, jars, new servers -/
theorem s_l10Copy (d : YDice) (h : d.1.length ≤ 4294967296) : V_s_l10Copy d = some d := by
  unfold V_s_l10Copy T_s_l10Copy
  simp only [val_chk, val_leaf, List.length_nil, Nat.zero_add, List.nil_append]
  rw [dec_t h]; rfl
theorem i_cloneAll (l : List YBs) (h : l.length + sumN need_Bs l ≤ 4294967296) : V_i_cloneAll (l, ()) = some (l, ()) := by
  have hl := loop_run (B := B_i_cloneAll_3) l.length (fun i => (l.take i, l, (l.length : Int), (i : Int), ())) (l, ())
    (fun i hi => by
      have hx := List.getElem?_eq_getElem hi
      have h2 := sumN_at (f := need_Bs) hx
      simp only [need_Bs] at h2
      unfold B_i_cloneAll_3
      simp only [val_br, val_ob, val_leaf, val_chk, lt_dec hi, br_t, idx_at hx, ob_s]
      rw [i_clone _ (by omega), ob_s, dec_t (by simp; omega), chk_t, w64 (by omega)]
      exact congrArg (fun t => some (Sum.inl (t, l, (l.length : Int), (i : Int) + 1, ()))) (snoc_take hx))
    (by unfold B_i_cloneAll_3; simp only [val_br, val_leaf, ge_dec, br_f, List.take_length])
  unfold V_i_cloneAll T_i_cloneAll
  simp only [val_ob, val_leaf]
  rw [show iterO B_i_cloneAll_3 ([], l, (l.length : Int), (0 : Int), ()) = _ from hl]
  rfl
end
end Go.Proofs.YtdlcjpjflckdlaaGreat
