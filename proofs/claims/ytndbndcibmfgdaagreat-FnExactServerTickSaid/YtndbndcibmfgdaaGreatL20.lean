/-
  That the program and the reference answer alike, in plain terms, and that the laws answer true.
-/
import Derived.Test.YtndbndcibmfgdaaGreatL19
namespace Go.Proofs.YtndbndcibmfgdaaGreat
open Go.RowKit
set_option linter.unusedVariables false
set_option linter.unusedSimpArgs false
set_option maxRecDepth 100000
set_option maxHeartbeats 4000000
noncomputable section
/-! ## Sessions answer -/
theorem chanOf_need (s : YSess) : need_Chan (chanOf s) ≤ need_Sess s := by simp only [need_Chan, chanOf, need_Sess]; omega
theorem i_copyCredits (l : List YCredit) (h : l.length ≤ 4294967296) : V_i_copyCredits (l, ()) = some (l, ()) := by
  unfold V_i_copyCredits T_i_copyCredits
  simp only [val_chk, val_leaf, List.length_nil, Nat.zero_add, List.nil_append]
  rw [dec_t h]; rfl
theorem i_copyServer (s : YServer) (h : need_Server s ≤ 4294967296) : V_i_copyServer s = some s := by
  have h' := h
  simp only [need_Server] at h
  unfold V_i_copyServer T_i_copyServer
  simp (disch := first | omega | (dsimp only; omega) | (simp only [need_Tab]; omega)) only [val_ob, val_leaf, i_cloneAll, i_clone, i_copyTab, i_copyCredits, ob_s]
theorem s_l22Copy (s : YServer) (h : need_Server s ≤ 4294967296) : V_s_l22Copy s = some s := by
  obtain ⟨l, j, sd, n, c, ss, cr, ⟨⟩⟩ := s
  simp only [need_Server] at h
  have hl := loop_run (B := B_s_l22Copy_3) l.length (fun i => ((i : Int), l, j, sd, n, c, ss, cr, [], [], [], (0 : Int), (0 : Int), [], [], l.take i, j, sd, n, c, ss, cr, ())) ([], [], [], (0 : Int), (0 : Int), [], [], l, j, sd, n, c, ss, cr, ())
    (fun i hi => by
      have hx := List.getElem?_eq_getElem hi
      have h2 := sumN_at (f := need_Bs) hx
      simp only [need_Bs] at h2
      unfold B_s_l22Copy_3
      simp only [val_br, val_ob, val_leaf, val_chk, lt_dec hi, br_t, idx_at hx, ob_s, List.length_nil, Nat.zero_add, List.nil_append]
      rw [dec_t (by omega), chk_t, dec_t (by simp; omega), chk_t, w64 (by omega)]
      exact congrArg (fun t => some (Sum.inl ((i : Int) + 1, l, j, sd, n, c, ss, cr, [], [], [], (0 : Int), (0 : Int), [], [], t, j, sd, n, c, ss, cr, ()))) (snoc_take hx))
    (by unfold B_s_l22Copy_3; simp only [val_br, val_leaf, ge_dec, br_f, List.take_length])
  unfold V_s_l22Copy T_s_l22Copy
  simp only [val_ob, val_chk, val_leaf, List.length_nil, Nat.zero_add, List.nil_append]
  rw [dec_t (by omega), chk_t, s_l10Copy _ (by dsimp only; omega), s_l21Copy _ (by simp only [need_Tab]; omega)]
  simp only [ob_s]
  rw [dec_t (by omega), chk_t]
  rw [show iterO B_s_l22Copy_3 ((0 : Int), l, j, sd, n, c, ss, cr, [], [], [], (0 : Int), (0 : Int), [], [], [], j, sd, n, c, ss, cr, ()) = _ from hl]
  rfl
end
end Go.Proofs.YtndbndcibmfgdaaGreat
