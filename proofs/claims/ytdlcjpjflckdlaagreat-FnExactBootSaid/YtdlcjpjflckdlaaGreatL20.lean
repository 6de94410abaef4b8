/-
  That the program and the reference answer alike, in plain terms, and that the laws answer true.
-/
import Derived.Test.YtdlcjpjflckdlaaGreatL19
namespace Go.Proofs.YtdlcjpjflckdlaaGreat
open Go.RowKit
set_option linter.unusedVariables false
set_option linter.unusedSimpArgs false
set_option maxRecDepth 100000
set_option maxHeartbeats 4000000
noncomputable section
/-! ## Sessions answer -/
theorem i_copyCredits (l : List YCredit) (h : l.length ≤ 4294967296) : V_i_copyCredits (l, ()) = some (l, ()) := by
  unfold V_i_copyCredits T_i_copyCredits
  simp only [val_chk, val_leaf, List.length_nil, Nat.zero_add, List.nil_append]
  rw [dec_t h]; rfl
theorem i_copyServer (s : YServer) (h : need_Server s ≤ 4294967296) : V_i_copyServer s = some s := by
  have h' := h
  simp only [need_Server] at h
  unfold V_i_copyServer T_i_copyServer
  simp (disch := first | omega | (dsimp only; omega) | (simp only [need_Tab]; omega)) only [val_ob, val_leaf, i_cloneAll, i_clone, i_copyTab, i_copyCredits, ob_s]
theorem s_l22Copy (s : YServer) (h : need_Server s ≤ 4294967296) : V_s_l22Copy s = some s := by
  obtain ⟨l, j, sd, n, c, ss, cr, ⟨⟩⟩ := s
  simp only [need_Server] at h
  have hl := loop_run (B := B_s_l22Copy_3) l.length (fun i => ((i : Int), l, j, sd, n, c, ss, cr, [], [], [], (0 : Int), (0 : Int), [], [], l.take i, j, sd, n, c, ss, cr, ())) ([], [], [], (0 : Int), (0 : Int), [], [], l, j, sd, n, c, ss, cr, ())
    (fun i hi => by
      have hx := List.getElem?_eq_getElem hi
      have h2 := sumN_at (f := need_Bs) hx
      simp only [need_Bs] at h2
      unfold B_s_l22Copy_3
      simp only [val_br, val_ob, val_leaf, val_chk, lt_dec hi, br_t, idx_at hx, ob_s, List.length_nil, Nat.zero_add, List.nil_append]
      rw [dec_t (by omega), chk_t, dec_t (by simp; omega), chk_t, w64 (by omega)]
      exact congrArg (fun t => some (Sum.inl ((i : Int) + 1, l, j, sd, n, c, ss, cr, [], [], [], (0 : Int), (0 : Int), [], [], t, j, sd, n, c, ss, cr, ()))) (snoc_take hx))
    (by unfold B_s_l22Copy_3; simp only [val_br, val_leaf, ge_dec, br_f, List.take_length])
  unfold V_s_l22Copy T_s_l22Copy
  simp only [val_ob, val_chk, val_leaf, List.length_nil, Nat.zero_add, List.nil_append]
  rw [dec_t (by omega), chk_t, s_l10Copy _ (by dsimp only; omega), s_l21Copy _ (by simp only [need_Tab]; omega)]
  simp only [ob_s]
  rw [dec_t (by omega), chk_t]
  rw [show iterO B_s_l22Copy_3 ((0 : Int), l, j, sd, n, c, ss, cr, [], [], [], (0 : Int), (0 : Int), [], [], [], j, sd, n, c, ss, cr, ()) = _ from hl]
  rfl
theorem ok_Boot (s : YServer) (h : need_Server s ≤ 1073741824) : ∃ r ns, V_i_Boot s = some (r, (ns, ())) ∧ V_s_Boot s = some (r, (ns, ())) ∧ need_Server r ≤ need_Server s + 64 ∧ ns.length + sumN need_Note ns ≤ 99 := by
  have h' := h
  simp only [need_Server] at h'
  obtain ⟨t, t1, t2, t3⟩ := ok_TabNew (s.2.2.2.2.1, ())
  have hr := rollOf_2 (s.2.2.1, s.2.2.2.1, ())
  have hr1 := rollOf_1 (s.2.2.1, s.2.2.2.1, ())
  have hj := jarNew_len (rollOf (s.2.2.1, s.2.2.2.1, ())).2
  unfold V_i_Boot T_i_Boot V_s_Boot T_s_Boot V_i_rollNote T_i_rollNote V_s_l22Rolled T_s_l22Rolled
  simp only [val_br, val_ob, val_leaf, val_chk, List.length_nil, Nat.zero_add, List.nil_append]
  rw [i_copyServer s (by omega), s_l22Copy s (by omega), i_ServerOk s (by omega), s_ServerOk s (by omega), i_Roll _ (by dsimp only; omega), s_Roll _ (by dsimp only; omega), t1, t2]
  simp only [ob_s, i_JarNew, s_JarNew]
  rw [i_clone _ (by dsimp only; omega), i_clone _ (by dsimp only; omega), dec_t (by omega), dec_t (by omega)]
  simp only [ob_s, chk_t]
  cases serverOk s with
  | false => exact ⟨s, [], rfl, rfl, by omega, by simp [sumN]⟩
  | true =>
    simp only [Bool.not_true, br_f]
    cases (s.2.2.2.1 == (10000 : Int)) with
    | true => exact ⟨s, [], rfl, rfl, by omega, by simp [sumN]⟩
    | false =>
      refine ⟨_, _, rfl, rfl, ?_, ?_⟩
      · simp only [need_Tab] at t3
        simp only [need_Server, hr1, List.length_nil] at *; omega
      · simp only [sumN, need_Note, List.length_cons, List.length_nil]; omega
theorem law_Boot (s : YServer) (hw : lo_Server s) : V_l_FnExactBoot s = some (true, ()) := by
  unfold V_l_FnExactBoot T_l_FnExactBoot
  simp only [val_ob, val_br, val_leaf]
  rw [sz_Server s _ (by omega) (by omega) hw, ob_s]
  by_cases h : szR (need_Server s) 1048576 < 0
  · rw [br_tt (by simpa using h)]
  · have hb := szR_pos h
    obtain ⟨r, ns, h1, h2, h3, h4⟩ := ok_Boot s (by omega)
    have h6 := wt_le_Server s
    have h7 := wt_le_Server r
    have h8 := sumN_le (f := w_Note) (g := need_Note) w_le_Note ns
    rw [br_ff (by simpa using h)]
    simp (disch := first | omega | (dsimp only; omega)) only [to_Server, ob_s, h1, h2, eq_Server, eq_NoteS, mark_Server, mark_NoteS, held_Server, held_NoteS, Bool.not_true, br_f, nn_dec, bne_self]
end
end Go.Proofs.YtdlcjpjflckdlaaGreat
