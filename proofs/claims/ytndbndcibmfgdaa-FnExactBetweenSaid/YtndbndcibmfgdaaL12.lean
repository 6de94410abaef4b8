/-
  That the program and the reference answer alike, in plain terms, and that the laws answer true.
-/
import Derived.Test.YtndbndcibmfgdaaL11
namespace Go.Proofs.Ytndbndcibmfgdaa
open Go.RowKit
set_option linter.unusedVariables false
set_option linter.unusedSimpArgs false
set_option maxRecDepth 100000
set_option maxHeartbeats 4000000
noncomputable section
/-! ## Copies are what they are copies of -/
theorem i_copyWin (d : YWin) (h : need_Win d ≤ 4294967296) : V_i_copyWin d = some d := by
  simp only [need_Win] at h
  unfold V_i_copyWin T_i_copyWin
  simp only [val_chk, val_leaf, List.length_nil, Nat.zero_add, List.nil_append]
  rw [dec_t h]; rfl
theorem s_l8Copy (d : YWin) (h : need_Win d ≤ 4294967296) : V_s_l8Copy d = some d := i_copyWin d h
theorem i_copyEp (d : YEp) (h : need_Ep d ≤ 4294967296) : V_i_copyEp d = some d := by
  simp only [need_Ep] at h
  unfold V_i_copyEp T_i_copyEp
  simp (disch := first | omega | (dsimp only; omega) | (simp only [need_Win]; omega)) only [val_ob, val_leaf, i_clone, i_copyWin, ob_s]
theorem s_l9Copy (d : YEp) (h : need_Ep d ≤ 4294967296) : V_s_l9Copy d = some d := by
  simp only [need_Ep] at h
  unfold V_s_l9Copy T_s_l9Copy
  simp (disch := first | omega | (dsimp only; omega) | (simp only [need_Win]; omega)) only [val_ob, val_chk, val_leaf, s_l8Copy, ob_s, List.length_nil, Nat.zero_add, List.nil_append, dec_t, chk_t]
theorem s_l14Ep (d : YEp) (b : Bool × Unit) (h : need_Ep d ≤ 4294967296) : V_s_l14Ep d b = some d := by
  have h' := h
  simp only [need_Ep] at h
  unfold V_s_l14Ep T_s_l14Ep
  simp (disch := first | omega | (dsimp only; omega)) only [val_br, val_ob, val_chk, val_leaf, s_l9Copy, ob_s, List.length_nil, Nat.zero_add, List.nil_append, dec_t, chk_t]
  cases b.1 <;> rfl
theorem i_copyChan (d : YChan) (h : need_Chan d ≤ 4294967296) : V_i_copyChan d = some d := by
  simp only [need_Chan] at h
  unfold V_i_copyChan T_i_copyChan
  simp (disch := first | omega | (dsimp only; omega) | (simp only [need_Ep]; omega)) only [val_ob, val_chk, val_leaf, i_clone, i_copyEp, ob_s]
theorem s_l14Copy (d : YChan) (h : need_Chan d ≤ 4294967296) : V_s_l14Copy d = some d := by
  simp only [need_Chan] at h
  unfold V_s_l14Copy T_s_l14Copy
  simp (disch := first | omega | (dsimp only; omega) | (simp only [need_Ep]; omega)) only [val_ob, val_chk, val_leaf, s_l9Copy, s_l14Ep, ob_s, List.length_nil, Nat.zero_add, List.nil_append, dec_t, chk_t]
theorem i_copyPaths (d : YPaths) (h : need_Paths d ≤ 4294967296) : V_i_copyPaths d = some d := by
  obtain ⟨a, b, l, ⟨⟩⟩ := d
  simp only [need_Paths] at h
  have hl := loop_run (B := B_i_copyPaths_3) l.length (fun i => (l, (l.length : Int), (i : Int), (0 : Int), (0 : Int), ([] : List YCand), a, b, l.take i, ())) ((0 : Int), (0 : Int), ([] : List YCand), a, b, l, ())
    (fun i hi => by
      have hx := List.getElem?_eq_getElem hi
      have h2 := sumN_at (f := need_Cand) hx
      simp only [need_Cand] at h2
      unfold B_i_copyPaths_3
      simp only [val_br, val_ob, val_leaf, val_chk, lt_dec hi, br_t, idx_at hx, ob_s]
      rw [i_clone _ (by dsimp only; omega), ob_s, dec_t (by simp; omega), chk_t, w64 (by omega)]
      exact congrArg (fun t => some (Sum.inl (l, (l.length : Int), (i : Int) + 1, (0 : Int), (0 : Int), ([] : List YCand), a, b, t, ()))) (snoc_take hx))
    (by unfold B_i_copyPaths_3; simp only [val_br, val_leaf, ge_dec, br_f, List.take_length])
  unfold V_i_copyPaths T_i_copyPaths
  simp only [val_ob, val_leaf]
  rw [show iterO B_i_copyPaths_3 (l, (l.length : Int), (0 : Int), (0 : Int), (0 : Int), ([] : List YCand), a, b, ([] : List YCand), ()) = _ from hl]
  rfl
theorem s_l16Cand (d : YCand) (h : need_Cand d ≤ 4294967296) : V_s_l16Cand d = some d := by
  simp only [need_Cand] at h
  unfold V_s_l16Cand T_s_l16Cand
  simp only [val_chk, val_leaf, List.length_nil, Nat.zero_add, List.nil_append]
  rw [dec_t h]; rfl
theorem s_l16Copy (d : YPaths) (h : need_Paths d ≤ 4294967296) : V_s_l16Copy d = some d := by
  obtain ⟨a, b, l, ⟨⟩⟩ := d
  simp only [need_Paths] at h
  have hl := loop_run (B := B_s_l16Copy_3) l.length (fun i => ((i : Int), a, b, l, (0 : Int), (0 : Int), ([] : List YCand), a, b, l.take i, ())) ((0 : Int), (0 : Int), ([] : List YCand), a, b, l, ())
    (fun i hi => by
      have hx := List.getElem?_eq_getElem hi
      have h2 := sumN_at (f := need_Cand) hx
      unfold B_s_l16Copy_3
      simp only [val_br, val_ob, val_leaf, val_chk, lt_dec hi, br_t, idx_at hx, ob_s]
      rw [s_l16Cand _ (by omega), ob_s, dec_t (by simp; omega), chk_t, w64 (by omega)]
      exact congrArg (fun t => some (Sum.inl ((i : Int) + 1, a, b, l, (0 : Int), (0 : Int), ([] : List YCand), a, b, t, ()))) (snoc_take hx))
    (by unfold B_s_l16Copy_3; simp only [val_br, val_leaf, ge_dec, br_f, List.take_length])
  unfold V_s_l16Copy T_s_l16Copy
  simp only [val_ob, val_leaf]
  rw [show iterO B_s_l16Copy_3 ((0 : Int), a, b, l, (0 : Int), (0 : Int), ([] : List YCand), a, b, ([] : List YCand), ()) = _ from hl]
  rfl
theorem i_copySess (d : YSess) (h : need_Sess d ≤ 4294967296) : V_i_copySess d = some d := by
  simp only [need_Sess] at h
  unfold V_i_copySess T_i_copySess
  simp (disch := first | omega | (dsimp only; omega) | (simp only [need_Chan]; omega) | (simp only [need_Paths]; omega)) only [val_ob, val_chk, val_leaf, i_clone, i_copyChan, i_copyPaths, ob_s]
theorem s_l20Copy (d : YSess) (h : need_Sess d ≤ 4294967296) : V_s_l20Copy d = some d := by
  simp only [need_Sess] at h
  unfold V_s_l20Copy T_s_l20Copy
  simp (disch := first | omega | (dsimp only; omega) | (simp only [need_Chan]; omega) | (simp only [need_Paths]; omega)) only [val_ob, val_chk, val_leaf, s_l14Copy, s_l16Copy, ob_s, List.length_nil, Nat.zero_add, List.nil_append, dec_t, chk_t]
theorem ok_Bury (s : YSess) (h : need_Sess s ≤ 4294967296) : ∃ r, V_i_Bury s = some r ∧ V_s_Bury s = some r ∧ need_Sess r ≤ need_Sess s := by
  unfold V_i_Bury T_i_Bury V_s_Bury T_s_Bury
  simp only [val_br, val_ob, val_leaf, val_chk]
  rw [i_SessOk s h, s_SessOk s h, ob_s, ob_s]
  cases sessOk s with
  | false =>
    simp only [Bool.not_false, br_t]
    rw [i_copySess s h, s_l20Copy s h]
    exact ⟨s, rfl, rfl, Nat.le_refl _⟩
  | true =>
    simp only [Bool.not_true, br_f]
    simp only [need_Sess] at h
    simp (disch := first | omega | (dsimp only; omega)) only [i_clone, ob_s, List.length_nil, Nat.zero_add, List.nil_append, dec_t, chk_t]
    refine ⟨_, rfl, rfl, ?_⟩
    simp only [need_Sess, sumN, List.length_nil]
    omega
end
end Go.Proofs.Ytndbndcibmfgdaa
